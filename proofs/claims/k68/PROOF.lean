import PyProof.Rows.All
import Wide.All
import OpenK.AllK
import Wide.FinOn
import HandS.ForMost
import HandS.Deep
import HandS.TupAny
import HandS.TupLe
import HandS.StrMore
import HandS.RevRange
import HandS.SetKeys
import HandS.TupSets
import HandS.DictTup
import HandS.NoneIn
import HandS.TupLen
import HandS.Flow
import HandS.Style
import HandS.Wide
import HandS.Conv
import HandS.IsInst
import HandS.AnyAll
import HandS.RaiseMore
import HandS.Zip
import HandS.Rev
import HandS.SortInts
import HandS.Sort
import HandS.SortKw
import KE.DataEq
import PySem.Challenge.RW_maplands_k68_whole_first_ways_to_lay_nam
set_option Elab.async false
set_option linter.all false
set_option maxRecDepth 100000
set_option maxHeartbeats 4000000
set_option exponentiation.threshold 2000
namespace DL
open PySem PySem.Spec PyProof.Rows L2

/-! ## readings that compute -/
def orF {α : Type} (o : Option α) (k : α → Prop) : Prop := match o with
  | some a => k a
  | none => False
theorem orF_i {α : Type} {o : Option α} {k : α → Prop} {a : α} (h : o = some a) (q : k a) : orF o k := by subst h; exact q
theorem orF_e {α : Type} {o : Option α} {k : α → Prop} (h : orF o k) : ∃ a, o = some a ∧ k a := by
  cases o with
  | none => exact h.elim
  | some a => exact ⟨a, rfl, h⟩
def bcase (b : Bool) (p q : Prop) : Prop := match b with
  | true => p
  | false => q
theorem bcase_i {b : Bool} {p q : Prop} (h1 : b = true → p) (h2 : b = false → q) : bcase b p q := by
  cases b with
  | true => exact h1 rfl
  | false => exact h2 rfl
theorem bcase_t {b : Bool} {p q : Prop} (h : b = true) (h1 : p) : bcase b p q := by subst h; exact h1
theorem bcase_f {b : Bool} {p q : Prop} (h : b = false) (h1 : q) : bcase b p q := by subst h; exact h1

/-! ## data -/
/-- deep data; cell a: the mutable thing at a (or a def, a class) by its address -/
inductive D where
  | non | bl (b : Bool) | int (i : Int) | str (s : Str)
  | tup (ds : List D) | lst (ds : List D) | ro (ds : List D)
  | cell (a : Addr) | ty (n : String)
  deriving Inhabited

def isB (d : D) (k : Bool → Prop) : Prop := match d with
  | .bl b => k b
  | _ => False
theorem isB_e {d : D} {k : Bool → Prop} (h : isB d k) : ∃ b, d = .bl b ∧ k b := by
  cases d <;> first | exact ⟨_, rfl, h⟩ | exact h.elim
def isI (d : D) (k : Int → Prop) : Prop := match d with
  | .int b => k b
  | _ => False
theorem isI_e {d : D} {k : Int → Prop} (h : isI d k) : ∃ b, d = .int b ∧ k b := by
  cases d <;> first | exact ⟨_, rfl, h⟩ | exact h.elim
def one1 (ds : List D) (k : D → Prop) : Prop := match ds with
  | [d] => k d
  | _ => False
theorem one1_e {ds : List D} {k : D → Prop} (h : one1 ds k) : ∃ d, ds = [d] ∧ k d := by
  match ds, h with
  | [d], h => exact ⟨d, rfl, h⟩
def two2 (ds : List D) (k : D → D → Prop) : Prop := match ds with
  | [d, e] => k d e
  | _ => False
theorem two2_e {ds : List D} {k : D → D → Prop} (h : two2 ds k) : ∃ d e, ds = [d, e] ∧ k d e := by
  match ds, h with
  | [d, e], h => exact ⟨d, e, rfl, h⟩

inductive CO where
  | lst (ds : List D)
  | dK (kvs : List (Key × D))
  | dT (kvs : List (List Key × D))
  | ins (C : Addr) (fs : List (Str × D))
  | box

abbrev CMap := Addr → Option CO
@[irreducible] def cset (C : CMap) (a : Addr) (o : CO) : CMap := fun b => if b = a then some o else C b
@[irreducible] def cdel (C : CMap) (a : Addr) : CMap := fun b => if b = a then none else C b
theorem cset_same {C : CMap} {a : Addr} {o : CO} : cset C a o a = some o := by unfold cset; rw [if_pos rfl]
theorem cset_ne {C : CMap} {a b : Addr} {o : CO} (h : b ≠ a) : cset C a o b = C b := by unfold cset; rw [if_neg h]
theorem cdel_same {C : CMap} {a : Addr} : cdel C a a = none := by unfold cdel; rw [if_pos rfl]
theorem cdel_ne {C : CMap} {a b : Addr} (h : b ≠ a) : cdel C a b = C b := by unfold cdel; rw [if_neg h]
theorem cset_cset {C : CMap} {a : Addr} {o u : CO} : cset (cset C a o) a u = cset C a u := by
  funext b; unfold cset; split <;> rfl
theorem cdel_cset {C : CMap} {a : Addr} {o : CO} (h : C a = none) : cdel (cset C a o) a = C := by
  funext b; unfold cdel cset; split
  · rename_i e; rw [e, h]
  · rfl
theorem cdel_cset_ne {C : CMap} {a b : Addr} {o : CO} (h : a ≠ b) : cdel (cset C a o) b = cset (cdel C b) a o := by
  funext c; unfold cdel cset
  by_cases e1 : c = b
  · have e2 : ¬ c = a := fun z => h (z.symm.trans e1)
    simp only [e1, if_true]
    rw [if_neg (fun z => h z.symm)]
  · by_cases e2 : c = a
    · simp only [e1, e2, if_true, if_false]; rw [if_neg h]
    · simp only [e1, e2, if_false]
theorem cset_comm {C : CMap} {a b : Addr} {o u : CO} (h : a ≠ b) : cset (cset C a o) b u = cset (cset C b u) a o := by
  funext c; unfold cset
  by_cases e1 : c = b
  · simp only [e1, if_true]
    rw [if_neg (fun z => h z.symm)]
  · by_cases e2 : c = a
    · simp only [e2, if_true]; rw [if_neg h]
    · simp only [e1, e2, if_false]

/-! ## data and values -/
def Ex (H H' : Hp) : Prop := ∀ a o, H a = some o → H' a = some o
theorem Ex.refl (H : Hp) : Ex H H := fun _ _ h => h
theorem Ex.trans {H H1 H2 : Hp} (a : Ex H H1) (b : Ex H1 H2) : Ex H H2 := fun x o h => b x o (a x o h)
theorem Ex.new {H : Hp} {p : Addr} {o : HO} (h : H p = none) : Ex H (upd H p o) := fun a u e => by
  rw [upd_ne (ne_of_none e h)]
  exact e
theorem Ex.mut {F H : Hp} {p : Addr} {o : HO} (e : Ex F H) (h : F p = none) : Ex F (upd H p o) := fun a u ha => by
  rw [upd_ne (ne_of_none ha h)]
  exact e a u ha
theorem Ex.fresh {H H' : Hp} {p : Addr} (e : Ex H H') (h : H' p = none) : H p = none := by
  cases h1 : H p with
  | none => rfl
  | some o =>
    rw [e p o h1] at h
    cases h
theorem Ex.upd {F H : Hp} {p : Addr} {o : HO} (e : Ex F H) : Ex (upd F p o) (upd H p o) := fun a u ha => by
  by_cases h : a = p
  · subst h; rw [upd_same] at ha ⊢; exact ha
  · rw [upd_ne h] at ha ⊢; exact e a u ha
theorem ex_rd {H H' : Hp} {a : Addr} {u : HO} (e : Ex H H') (h : Rd H a u) : Rd H' a u := by
  rcases h with h | ⟨o, h⟩
  · exact Or.inl (e a _ h)
  · exact Or.inr ⟨o, e a _ h⟩
theorem ex_l {K : PySem.W.Frag} {H H' : Hp} {a : Addr} {xs : List V} (e : Ex H H') (h : SqL K H a xs) : SqL K H' a xs := by
  rcases h with h | h
  · exact Or.inl (ex_rd e h)
  · exact Or.inr h
theorem ex_t {K : PySem.W.Frag} {H H' : Hp} {a : Addr} {xs : List V} (e : Ex H H') (h : SqT K H a xs) : SqT K H' a xs := by
  rcases h with h | h
  · exact Or.inl (ex_rd e h)
  · exact Or.inr h

mutual
inductive Is (K : PySem.W.Frag) (F : Hp) : V → D → Prop
  | non : Is K F .non .non
  | bl (b : Bool) : Is K F (.bl b) (.bl b)
  | int (i : Int) : Is K F (.int i) (.int i)
  | str (x : Str) : Is K F (.str x) (.str x)
  | tup {a : Addr} {vs : List V} {ds : List D} : SqT K F a vs → IsL K F vs ds → Is K F (.ref a) (.tup ds)
  | lst {a : Addr} {vs : List V} {ds : List D} : F a = some (.lst vs) → IsL K F vs ds → Is K F (.ref a) (.lst ds)
  | ro {a : Addr} {vs : List V} {ds : List D} : SqL K F a vs → IsL K F vs ds → Is K F (.ref a) (.ro ds)
  | cell (a : Addr) : Is K F (.ref a) (.cell a)
  | ty (n : String) : Is K F (.ty n) (.ty n)
inductive IsL (K : PySem.W.Frag) (F : Hp) : List V → List D → Prop
  | nil : IsL K F [] []
  | cons {v : V} {vs : List V} {d : D} {ds : List D} : Is K F v d → IsL K F vs ds → IsL K F (v :: vs) (d :: ds)
end

section
variable {K : PySem.W.Frag} {F F' : Hp}
mutual
theorem Is.mono (e : Ex F F') : ∀ (d : D) (v : V), Is K F v d → Is K F' v d
  | .non, _, h => by cases h; exact .non
  | .bl b, _, h => by cases h; exact .bl b
  | .int b, _, h => by cases h; exact .int b
  | .str b, _, h => by cases h; exact .str b
  | .tup ds, _, h => by cases h with | tup h1 h2 => exact .tup (ex_t e h1) (IsL.mono e ds _ h2)
  | .lst ds, _, h => by cases h with | lst h1 h2 => exact .lst (e _ _ h1) (IsL.mono e ds _ h2)
  | .ro ds, _, h => by cases h with | ro h1 h2 => exact .ro (ex_l e h1) (IsL.mono e ds _ h2)
  | .cell a, _, h => by cases h; exact .cell a
  | .ty a, _, h => by cases h; exact .ty a
theorem IsL.mono (e : Ex F F') : ∀ (ds : List D) (vs : List V), IsL K F vs ds → IsL K F' vs ds
  | [], _, h => by cases h; exact .nil
  | d :: ds, _, h => by cases h with | cons h1 h2 => exact .cons (Is.mono e d _ h1) (IsL.mono e ds _ h2)
end
theorem IsL.length : ∀ {ds : List D} {vs : List V}, IsL K F vs ds → vs.length = ds.length
  | [], _, h => by cases h; rfl
  | d :: ds, _, h => by cases h with | cons h1 h2 => simp [IsL.length h2]
theorem IsL.get : ∀ {ds : List D} {vs : List V} {i : Nat} {d : D}, IsL K F vs ds → ds[i]? = some d → ∃ v, vs[i]? = some v ∧ Is K F v d
  | [], _, _, _, _, e => by simp at e
  | d :: ds, _, 0, _, h, e => by cases h with | cons h1 h2 => simp at e; subst e; exact ⟨_, rfl, h1⟩
  | d :: ds, _, i + 1, _, h, e => by
    cases h with | cons h1 h2 =>
    obtain ⟨v, e1, r⟩ := IsL.get (i := i) h2 (by simpa using e)
    exact ⟨v, by simpa using e1, r⟩
theorem IsL.get' : ∀ {ds : List D} {vs : List V} {i : Nat} {v : V}, IsL K F vs ds → vs[i]? = some v → ∃ d, ds[i]? = some d ∧ Is K F v d
  | [], _, _, _, h, e => by cases h; simp at e
  | d :: ds, _, 0, _, h, e => by cases h with | cons h1 h2 => simp at e; subst e; exact ⟨_, rfl, h1⟩
  | d :: ds, _, i + 1, _, h, e => by
    cases h with | cons h1 h2 =>
    obtain ⟨v, e1, r⟩ := IsL.get' (i := i) h2 (by simpa using e)
    exact ⟨v, by simpa using e1, r⟩
theorem IsL.append : ∀ {ds es : List D} {vs ws : List V}, IsL K F vs ds → IsL K F ws es → IsL K F (vs ++ ws) (ds ++ es)
  | [], _, _, _, h, h' => by cases h; exact h'
  | d :: ds, _, _, _, h, h' => by cases h with | cons h1 h2 => exact .cons h1 (IsL.append h2 h')
theorem IsL.take : ∀ {ds : List D} {vs : List V} (n : Nat), IsL K F vs ds → IsL K F (vs.take n) (ds.take n)
  | _, _, 0, _ => .nil
  | [], _, n + 1, h => by cases h; exact .nil
  | d :: ds, _, n + 1, h => by cases h with | cons h1 h2 => exact .cons h1 (IsL.take n h2)
theorem IsL.drop : ∀ {ds : List D} {vs : List V} (n : Nat), IsL K F vs ds → IsL K F (vs.drop n) (ds.drop n)
  | _, _, 0, h => h
  | [], _, n + 1, h => by cases h; exact .nil
  | d :: ds, _, n + 1, h => by cases h with | cons h1 h2 => exact IsL.drop n h2
theorem IsL.set {d : D} {v : V} (r : Is K F v d) : ∀ {ds : List D} {vs : List V} (n : Nat), IsL K F vs ds → IsL K F (vs.set n v) (ds.set n d)
  | [], _, _, h => by cases h; exact .nil
  | _ :: ds, _, 0, h => by cases h with | cons h1 h2 => exact .cons r h2
  | _ :: ds, _, n + 1, h => by cases h with | cons h1 h2 => exact .cons h1 (IsL.set r n h2)
theorem IsL.reverse {ds : List D} {vs : List V} (h : IsL K F vs ds) : IsL K F vs.reverse ds.reverse := by
  induction ds generalizing vs with
  | nil => cases h; exact .nil
  | cons d ds ih => cases h with | cons h1 h2 => rw [List.reverse_cons, List.reverse_cons]; exact (ih h2).append (.cons h1 .nil)
theorem IsL.dropLast : ∀ {ds : List D} {vs : List V}, IsL K F vs ds → IsL K F vs.dropLast ds.dropLast
  | ds, vs, h => by
    rw [List.dropLast_eq_take, List.dropLast_eq_take, h.length]; exact h.take _
theorem IsL.eraseIdx : ∀ {ds : List D} {vs : List V} (n : Nat), IsL K F vs ds → IsL K F (vs.eraseIdx n) (ds.eraseIdx n)
  | [], _, _, h => by cases h; exact .nil
  | _ :: ds, _, 0, h => by cases h with | cons h1 h2 => exact h2
  | _ :: ds, _, n + 1, h => by cases h with | cons h1 h2 => exact .cons h1 (IsL.eraseIdx n h2)
theorem IsL.ints : ∀ {ns : List Int} {vs : List V}, IsL K F vs (ns.map D.int) → vs = ns.map V.int
  | [], _, h => by cases h; rfl
  | n :: ns, _, h => by
    cases h with | cons h1 h2 =>
    cases h1
    rw [IsL.ints h2]; rfl
theorem IsL.of_ints : ∀ (ns : List Int), IsL K F (ns.map V.int) (ns.map D.int)
  | [] => .nil
  | n :: ns => .cons (.int n) (IsL.of_ints ns)
theorem IsL.strs : ∀ {ns : List Str} {vs : List V}, IsL K F vs (ns.map D.str) → vs = ns.map V.str
  | [], _, h => by cases h; rfl
  | n :: ns, _, h => by
    cases h with | cons h1 h2 =>
    cases h1
    rw [IsL.strs h2]; rfl
theorem IsL.of_strs : ∀ (ns : List Str), IsL K F (ns.map V.str) (ns.map D.str)
  | [] => .nil
  | n :: ns => .cons (.str n) (IsL.of_strs ns)
theorem IsL.bls : ∀ {ns : List Bool} {vs : List V}, IsL K F vs (ns.map D.bl) → vs = ns.map V.bl
  | [], _, h => by cases h; rfl
  | n :: ns, _, h => by
    cases h with | cons h1 h2 =>
    cases h1
    rw [IsL.bls h2]; rfl
end

/-- dict entries -/
def IsK (K : PySem.W.Frag) (F : Hp) {κ : Type} : List (κ × V) → List (κ × D) → Prop := Paired fun p q => p.1 = q.1 ∧ Is K F p.2 q.2
theorem Paired.imp {α β : Type} {R S : α → β → Prop} (f : ∀ a b, R a b → S a b) : ∀ {l₁ : List α} {l₂ : List β}, Paired R l₁ l₂ → Paired S l₁ l₂
  | _, _, .nil => .nil
  | _, _, .cons r t => .cons (f _ _ r) (Paired.imp f t)

def COk (K : PySem.W.Frag) (F H : Hp) (a : Addr) : CO → Prop
  | .lst ds => ∃ vs, H a = some (.lst vs) ∧ IsL K F vs ds
  | .dK kvs => ∃ vs, H a = some (.dK vs) ∧ IsK K F vs kvs
  | .dT kvs => ∃ vs, H a = some (.dT vs) ∧ IsK K F vs kvs
  | .ins C fs => ∃ dx vs, H a = some (.ins C dx vs) ∧ IsK K F vs fs
  | .box => ∃ (xs : List Int) (c : Int) (vs : List V), H a = some (.lst vs) ∧ IsL K F vs [.lst (xs.map D.int), .int c] ∧ 0 ≤ c ∧ ∀ x ∈ xs, 0 ≤ x
theorem COk.mono {K : PySem.W.Frag} {F F' H H' : Hp} {a : Addr} {o : CO} (e : Ex F F') (h : H' a = H a) (c : COk K F H a o) : COk K F' H' a o := by
  cases o with
  | lst ds => obtain ⟨vs, h1, h2⟩ := c; exact ⟨vs, h.trans h1, IsL.mono e _ _ h2⟩
  | dK ds => obtain ⟨vs, h1, h2⟩ := c; exact ⟨vs, h.trans h1, Paired.imp (fun _ _ r => ⟨r.1, Is.mono e _ _ r.2⟩) h2⟩
  | dT ds => obtain ⟨vs, h1, h2⟩ := c; exact ⟨vs, h.trans h1, Paired.imp (fun _ _ r => ⟨r.1, Is.mono e _ _ r.2⟩) h2⟩
  | ins C ds => obtain ⟨dx, vs, h1, h2⟩ := c; exact ⟨dx, vs, h.trans h1, Paired.imp (fun _ _ r => ⟨r.1, Is.mono e _ _ r.2⟩) h2⟩
  | box => obtain ⟨xs, c, vs, h1, h2, h3⟩ := c; exact ⟨xs, c, vs, h.trans h1, IsL.mono e _ _ h2, h3⟩
theorem COk.some {K : PySem.W.Frag} {F H : Hp} {a : Addr} {o : CO} (c : COk K F H a o) : ∃ u, H a = some u := by
  cases o with
  | lst ds => obtain ⟨vs, h1, h2⟩ := c; exact ⟨_, h1⟩
  | dK ds => obtain ⟨vs, h1, h2⟩ := c; exact ⟨_, h1⟩
  | dT ds => obtain ⟨vs, h1, h2⟩ := c; exact ⟨_, h1⟩
  | ins C ds => obtain ⟨dx, vs, h1, h2⟩ := c; exact ⟨_, h1⟩
  | box => obtain ⟨xs, c, vs, h1, h2⟩ := c; exact ⟨_, h1⟩

/-- the heap H holds what is frozen (F), what the surroundings keep (G), and the cells -/
structure Rel (K : PySem.W.Frag) (G F H : Hp) (C : CMap) : Prop where
  sub : Ex F H
  frm : Ex G H
  apart : ∀ a o, G a = some o → F a = none
  own : ∀ a o, C a = some o → F a = none ∧ G a = none ∧ COk K F H a o
section
variable {K : PySem.W.Frag} {G F H : Hp} {C : CMap} {p a : Addr}
theorem Rel.free (R : Rel K G F H C) (h : H p = none) : F p = none ∧ G p = none ∧ C p = none := by
  refine ⟨R.sub.fresh h, R.frm.fresh h, ?_⟩
  cases e : C p with
  | none => rfl
  | some o =>
    obtain ⟨u, hu⟩ := (R.own p o e).2.2.some
    rw [h] at hu; cases hu
/-- a new frozen thing -/
theorem Rel.new (R : Rel K G F H C) (h : H p = none) (o : HO) : Rel K G (upd F p o) (upd H p o) C ∧ Ex F (upd F p o) := by
  obtain ⟨f, g, c⟩ := R.free h
  have e : Ex F (upd F p o) := Ex.new f
  refine ⟨⟨R.sub.upd, R.frm.mut g, fun a u hu => by rw [upd_ne (ne_of_none hu g)]; exact R.apart a u hu, fun a u hu => ?_⟩, e⟩
  have ne : a ≠ p := fun z => by rw [z, c] at hu; cases hu
  obtain ⟨f1, g1, c1⟩ := R.own a u hu
  exact ⟨by rw [upd_ne ne]; exact f1, g1, c1.mono e (upd_ne ne)⟩
/-- a new cell -/
theorem Rel.newc {o : HO} {co : CO} (R : Rel K G F H C) (h : H p = none) (ok : COk K F (upd H p o) p co) : Rel K G F (upd H p o) (cset C p co) := by
  obtain ⟨f, g, c⟩ := R.free h
  refine ⟨R.sub.mut f, R.frm.mut g, R.apart, fun a u hu => ?_⟩
  by_cases ne : a = p
  · subst ne; rw [cset_same] at hu; cases hu; exact ⟨f, g, ok⟩
  · rw [cset_ne ne] at hu
    obtain ⟨f1, g1, c1⟩ := R.own a u hu
    exact ⟨f1, g1, c1.mono (Ex.refl _) (upd_ne ne)⟩
/-- a cell written -/
theorem Rel.put {o : HO} {co co0 : CO} (R : Rel K G F H C) (h : C p = some co0) (ok : COk K F (upd H p o) p co) : Rel K G F (upd H p o) (cset C p co) := by
  obtain ⟨f, g, c⟩ := R.own p co0 h
  refine ⟨R.sub.mut f, R.frm.mut g, R.apart, fun a u hu => ?_⟩
  by_cases ne : a = p
  · subst ne; rw [cset_same] at hu; cases hu; exact ⟨f, g, ok⟩
  · rw [cset_ne ne] at hu
    obtain ⟨f1, g1, c1⟩ := R.own a u hu
    exact ⟨f1, g1, c1.mono (Ex.refl _) (upd_ne ne)⟩
/-- a list is frozen -/
theorem Rel.frz {ds : List D} (R : Rel K G F H C) (h : C p = some (.lst ds)) : ∃ vs, H p = some (.lst vs) ∧ Rel K G (upd F p (.lst vs)) H (cdel C p) ∧ Ex F (upd F p (.lst vs)) ∧ Is K (upd F p (.lst vs)) (.ref p) (.lst ds) := by
  obtain ⟨f, g, vs, h1, h2⟩ := R.own p _ h
  have e : Ex F (upd F p (.lst vs)) := Ex.new f
  refine ⟨vs, h1, ⟨fun a u hu => ?_, R.frm, fun a u hu => by rw [upd_ne (ne_of_none hu g)]; exact R.apart a u hu, fun a u hu => ?_⟩, e, .lst upd_same (IsL.mono e _ _ h2)⟩
  · by_cases ne : a = p
    · subst ne; rw [upd_same] at hu; cases hu; exact h1
    · rw [upd_ne ne] at hu; exact R.sub a u hu
  · have ne : a ≠ p := fun z => by rw [z, cdel_same] at hu; cases hu
    rw [cdel_ne ne] at hu
    obtain ⟨f1, g1, c1⟩ := R.own a u hu
    exact ⟨by rw [upd_ne ne]; exact f1, g1, c1.mono e rfl⟩
/-- a list under way is set apart (p new) -/
theorem Rel.hold (R : Rel K G F H C) (h : H p = none) (o : HO) : Rel K (upd G p o) F (upd H p o) C := by
  obtain ⟨f, g, c⟩ := R.free h
  refine ⟨R.sub.mut f, R.frm.upd, fun a u hu => ?_, fun a u hu => ?_⟩
  · by_cases ne : a = p
    · subst ne; exact f
    · rw [upd_ne ne] at hu; exact R.apart a u hu
  · have ne : a ≠ p := fun z => by rw [z, c] at hu; cases hu
    obtain ⟨f1, g1, c1⟩ := R.own a u hu
    exact ⟨f1, by rw [upd_ne ne]; exact g1, c1.mono (Ex.refl _) (upd_ne ne)⟩
/-- .. and grows -/
theorem Rel.grow {o : HO} (R : Rel K (upd G p o) F H C) (u : HO) : Rel K (upd G p u) F (upd H p u) C := by
  have f : F p = none := R.apart p o upd_same
  refine ⟨R.sub.mut f, fun a x hx => ?_, fun a x hx => ?_, fun a x hx => ?_⟩
  · by_cases ne : a = p
    · subst ne; rw [upd_same] at hx ⊢; exact hx
    · rw [upd_ne ne] at hx ⊢; exact R.frm a x (by rw [upd_ne ne]; exact hx)
  · by_cases ne : a = p
    · subst ne; exact f
    · rw [upd_ne ne] at hx; exact R.apart a x (by rw [upd_ne ne]; exact hx)
  · obtain ⟨f1, g1, c1⟩ := R.own a x hx
    have ne : a ≠ p := fun z => by rw [z, upd_same] at g1; cases g1
    exact ⟨f1, by rw [upd_ne ne] at g1 ⊢; exact g1, c1.mono (Ex.refl _) (upd_ne ne)⟩
/-- .. and is let go -/
theorem Rel.drop {o : HO} (R : Rel K (upd G p o) F H C) (g : G p = none) : H p = some o ∧ F p = none ∧ C p = none ∧ Rel K G F H C := by
  have f : F p = none := R.apart p o upd_same
  have c : C p = none := by
    cases e : C p with
    | none => rfl
    | some x =>
      have := (R.own p x e).2.1
      rw [upd_same] at this; cases this
  have ne : ∀ a x, G a = some x → a ≠ p := fun a x h => ne_of_none h g
  refine ⟨R.frm p o upd_same, f, c, R.sub, fun a x hx => R.frm a x (by rw [upd_ne (ne a x hx)]; exact hx), fun a x hx => R.apart a x (by rw [upd_ne (ne a x hx)]; exact hx), fun a x hx => ?_⟩
  obtain ⟨f1, g1, c1⟩ := R.own a x hx
  have na : a ≠ p := fun z => by rw [z, c] at hx; cases hx
  exact ⟨f1, by rw [upd_ne na] at g1; exact g1, c1⟩
/-- what H tracks and nobody holds becomes frozen, or a cell -/
theorem Rel.take {o : HO} (R : Rel K G F H C) (h : H p = some o) (f : F p = none) (g : G p = none) (c : C p = none) : Rel K G (upd F p o) H C ∧ Ex F (upd F p o) := by
  have e : Ex F (upd F p o) := Ex.new f
  refine ⟨⟨fun a u hu => ?_, R.frm, fun a u hu => by rw [upd_ne (ne_of_none hu g)]; exact R.apart a u hu, fun a u hu => ?_⟩, e⟩
  · by_cases ne : a = p
    · subst ne; rw [upd_same] at hu; cases hu; exact h
    · rw [upd_ne ne] at hu; exact R.sub a u hu
  · have ne : a ≠ p := fun z => by rw [z, c] at hu; cases hu
    obtain ⟨f1, g1, c1⟩ := R.own a u hu
    exact ⟨by rw [upd_ne ne]; exact f1, g1, c1.mono e rfl⟩
theorem Rel.takec {co : CO} (R : Rel K G F H C) (f : F p = none) (g : G p = none) (ok : COk K F H p co) : Rel K G F H (cset C p co) := by
  refine ⟨R.sub, R.frm, R.apart, fun a u hu => ?_⟩
  by_cases ne : a = p
  · subst ne; rw [cset_same] at hu; cases hu; exact ⟨f, g, ok⟩
  · rw [cset_ne ne] at hu; exact R.own a u hu
/-- cells forgotten -/
theorem Rel.weak {C' : CMap} (R : Rel K G F H C) (h : ∀ a o, C' a = some o → C a = some o) : Rel K G F H C' := ⟨R.sub, R.frm, R.apart, fun a o e => R.own a o (h a o e)⟩
end

/-! ## the slots -/
abbrev DSt := List (Option D)
def slot (σ : DSt) (i : Nat) : Option D := match σ[i]? with
  | some (some d) => some d
  | _ => none
theorem slot_e {σ : DSt} {i : Nat} {d : D} (h : slot σ i = some d) : σ[i]? = some (some d) := by
  unfold slot at h
  cases e : σ[i]? with
  | none => rw [e] at h; cases h
  | some o =>
    cases o with
    | none => rw [e] at h; cases h
    | some x => rw [e] at h; cases h; rfl
def Loc (K : PySem.W.Frag) (F : Hp) (σV : L2.St) (σ : DSt) : Prop := σV.length = σ.length ∧ ∀ (i : Nat) (d : D), σ[i]? = some (some d) → ∃ v, σV[i]? = some (some v) ∧ Is K F v d
section
variable {K : PySem.W.Frag} {F F' : Hp} {σV : L2.St} {σ : DSt}
theorem Loc.mono (e : Ex F F') (L : Loc K F σV σ) : Loc K F' σV σ := ⟨L.1, fun i d h => let ⟨v, e1, r⟩ := L.2 i d h; ⟨v, e1, Is.mono e _ _ r⟩⟩
theorem Loc.set {d : D} {v : V} (i : Nat) (r : Is K F v d) (L : Loc K F σV σ) : Loc K F (σV.set i (some v)) (σ.set i (some d)) := by
  refine ⟨by rw [List.length_set, List.length_set, L.1], fun j e h => ?_⟩
  by_cases hj : i = j
  · subst hj
    by_cases hi : i < σ.length
    · rw [List.getElem?_set_self hi] at h
      cases h
      exact ⟨v, List.getElem?_set_self (by rw [L.1]; exact hi), r⟩
    · rw [List.getElem?_eq_none (by rw [List.length_set]; omega)] at h
      cases h
  · rw [List.getElem?_set_ne hj] at h
    obtain ⟨w, e1, r1⟩ := L.2 j e h
    exact ⟨w, by rw [List.getElem?_set_ne hj]; exact e1, r1⟩
theorem Loc.setNone (i : Nat) (L : Loc K F σV σ) : Loc K F (σV.set i none) (σ.set i none) := by
  refine ⟨by rw [List.length_set, List.length_set, L.1], fun j e h => ?_⟩
  by_cases hj : i = j
  · subst hj
    by_cases hi : i < σ.length
    · rw [List.getElem?_set_self hi] at h
      cases h
    · rw [List.getElem?_eq_none (by rw [List.length_set]; omega)] at h
      cases h
  · rw [List.getElem?_set_ne hj] at h
    obtain ⟨w, e1, r1⟩ := L.2 j e h
    exact ⟨w, by rw [List.getElem?_set_ne hj]; exact e1, r1⟩
def dwipe (σ : DSt) : List Nat → DSt
  | [] => σ
  | v :: vs => (dwipe σ vs).set v none
theorem Loc.wipe (L : Loc K F σV σ) : ∀ vs : List Nat, Loc K F (L2.wipe σV vs) (dwipe σ vs)
  | [] => L
  | v :: vs => (Loc.wipe L vs).setNone v
end

/-! ## readings over data -/
abbrev DQ := D → CMap → Prop
abbrev DTE := DSt → CMap → DQ → Prop
abbrev DTT := DSt → CMap → (Bool → CMap → Prop) → Prop
abbrev DTA := DSt → CMap → (List D → CMap → Prop) → Prop
structure DEnds where
  nx : DSt → CMap → Prop
  rt : DQ
  bk : DSt → CMap → Prop := fun _ _ => False
  ct : DSt → CMap → Prop := fun _ _ => False
abbrev DTS := DEnds → DSt → CMap → Prop

/-- what follows, over data, is what follows, over values -/
def GoE (K : PySem.W.Frag) (G F : Hp) (Q : DQ) (QV : VK) : Prop := ∀ v d F' H' C', Ex F F' → Rel K G F' H' C' → Is K F' v d → Q d C' → QV v H'
theorem GoE.mono {K : PySem.W.Frag} {G F F1 : Hp} {Q : DQ} {QV : VK} (e : Ex F F1) (g : GoE K G F Q QV) : GoE K G F1 Q QV := fun v d F' H' C' e' R r q => g v d F' H' C' (e.trans e') R r q
def SimE (K : PySem.W.Frag) (te : TE) (t : DTE) : Prop := ∀ G F H C σV σ Q QV, Rel K G F H C → Loc K F σV σ → t σ C Q → GoE K G F Q QV → te σV H QV
def SimT (K : PySem.W.Frag) (te : TT) (t : DTT) : Prop := ∀ G F H C σV σ (Q : Bool → CMap → Prop) (QV : Bool → Hp → Prop), Rel K G F H C → Loc K F σV σ → t σ C Q →
  (∀ b F' H' C', Ex F F' → Rel K G F' H' C' → Q b C' → QV b H') → te σV H QV
def SimA (K : PySem.W.Frag) (te : TA) (t : DTA) : Prop := ∀ G F H C σV σ (Q : List D → CMap → Prop) (QV : List V → Hp → Prop), Rel K G F H C → Loc K F σV σ → t σ C Q →
  (∀ vs ds F' H' C', Ex F F' → Rel K G F' H' C' → IsL K F' vs ds → Q ds C' → QV vs H') → te σV H QV
structure EndsR (K : PySem.W.Frag) (G F : Hp) (D : DEnds) (DV : Ends) : Prop where
  nx : ∀ F' H' C' σV' σ', Ex F F' → Rel K G F' H' C' → Loc K F' σV' σ' → D.nx σ' C' → DV.nx σV' H'
  rt : GoE K G F D.rt DV.rt
  bk : ∀ F' H' C' σV' σ', Ex F F' → Rel K G F' H' C' → Loc K F' σV' σ' → D.bk σ' C' → DV.bk σV' H'
  ct : ∀ F' H' C' σV' σ', Ex F F' → Rel K G F' H' C' → Loc K F' σV' σ' → D.ct σ' C' → DV.ct σV' H'
theorem EndsR.mono {K : PySem.W.Frag} {G F F1 : Hp} {D : DEnds} {DV : Ends} (e : Ex F F1) (g : EndsR K G F D DV) : EndsR K G F1 D DV :=
  ⟨fun F' H' C' σV' σ' e' => g.nx F' H' C' σV' σ' (e.trans e'), g.rt.mono e, fun F' H' C' σV' σ' e' => g.bk F' H' C' σV' σ' (e.trans e'), fun F' H' C' σV' σ' e' => g.ct F' H' C' σV' σ' (e.trans e')⟩
def SimS (K : PySem.W.Frag) (ts : TS) (t : DTS) : Prop := ∀ G F H C σV σ D DV, Rel K G F H C → Loc K F σV σ → t D σ C → EndsR K G F D DV → ts DV σV H

def upE (K : PySem.W.Frag) (t : DTE) : TE := fun σV H QV => ∃ G F C σ Q, Rel K G F H C ∧ Loc K F σV σ ∧ t σ C Q ∧ GoE K G F Q QV
def upT (K : PySem.W.Frag) (t : DTT) : TT := fun σV H QV => ∃ G F C σ, ∃ Q : Bool → CMap → Prop, Rel K G F H C ∧ Loc K F σV σ ∧ t σ C Q ∧ ∀ b F' H' C', Ex F F' → Rel K G F' H' C' → Q b C' → QV b H'
def upA (K : PySem.W.Frag) (t : DTA) : TA := fun σV H QV => ∃ G F C σ, ∃ Q : List D → CMap → Prop, Rel K G F H C ∧ Loc K F σV σ ∧ t σ C Q ∧ ∀ vs ds F' H' C', Ex F F' → Rel K G F' H' C' → IsL K F' vs ds → Q ds C' → QV vs H'
def upS (K : PySem.W.Frag) (t : DTS) : TS := fun DV σV H => ∃ G F C σ D, Rel K G F H C ∧ Loc K F σV σ ∧ t D σ C ∧ EndsR K G F D DV
def DE (X : Cx) (e : Expr) (t : DTE) : Prop := PE X e (upE X.K t)
def DT (X : Cx) (e : Expr) (t : DTT) : Prop := PT X e (upT X.K t)
def DW (X : Cx) (e : Expr) (t : DTT) : Prop := PW X e (upT X.K t)
def DA (X : Cx) (es : List Expr) (t : DTA) : Prop := PA X es (upA X.K t)
def DS (X : Cx) (st : Stmt) (t : DTS) : Prop := PS X st (upS X.K t)
def DSs (X : Cx) (st : List Stmt) (t : DTS) : Prop := PSs X st (upS X.K t)
section
variable {X : Cx} {K : PySem.W.Frag}
theorem sim_upE {t : DTE} : SimE K (upE K t) t := fun G F H C σV σ Q QV R L h g => ⟨G, F, C, σ, Q, R, L, h, g⟩
theorem sim_upT {t : DTT} : SimT K (upT K t) t := fun G F H C σV σ Q QV R L h g => ⟨G, F, C, σ, Q, R, L, h, g⟩
theorem sim_upA {t : DTA} : SimA K (upA K t) t := fun G F H C σV σ Q QV R L h g => ⟨G, F, C, σ, Q, R, L, h, g⟩
theorem sim_upS {t : DTS} : SimS K (upS K t) t := fun G F H C σV σ D DV R L h g => ⟨G, F, C, σ, D, R, L, h, g⟩
theorem DE.of {e : Expr} {te : TE} {t : DTE} (p : PE X e te) (s : SimE X.K te t) : DE X e t :=
  ⟨fun pins st σ H Q I ⟨G, F, C, σ', Q', R, L, h, g⟩ => p.run pins st σ H Q I (s G F H C σ σ' Q' Q R L h g)⟩
theorem DT.of {e : Expr} {te : TT} {t : DTT} (p : PT X e te) (s : SimT X.K te t) : DT X e t :=
  ⟨fun pins st σ H Q I ⟨G, F, C, σ', Q', R, L, h, g⟩ => p.run pins st σ H Q I (s G F H C σ σ' Q' Q R L h g)⟩
theorem DW.of {e : Expr} {te : TT} {t : DTT} (p : PW X e te) (s : SimT X.K te t) : DW X e t :=
  ⟨fun wh pins st σ H Q I ⟨G, F, C, σ', Q', R, L, h, g⟩ => p.run wh pins st σ H Q I (s G F H C σ σ' Q' Q R L h g)⟩
theorem DA.of {es : List Expr} {te : TA} {t : DTA} (p : PA X es te) (s : SimA X.K te t) : DA X es t :=
  ⟨fun pos pins st σ H Q I ⟨G, F, C, σ', Q', R, L, h, g⟩ => p.run pos pins st σ H Q I (s G F H C σ σ' Q' Q R L h g)⟩
theorem DS.of {st : Stmt} {te : TS} {t : DTS} (p : PS X st te) (s : SimS X.K te t) : DS X st t :=
  ⟨fun pins s0 σ H D I ⟨G, F, C, σ', D', R, L, h, g⟩ => p.run pins s0 σ H D I (s G F H C σ σ' D' D R L h g)⟩
theorem DSs.of {st : List Stmt} {te : TS} {t : DTS} (p : PSs X st te) (s : SimS X.K te t) : DSs X st t :=
  ⟨fun pins s0 σ H D I ⟨G, F, C, σ', D', R, L, h, g⟩ => p.run pins s0 σ H D I (s G F H C σ σ' D' D R L h g)⟩
end
end DL

namespace DL
open PySem PySem.Spec PyProof.Rows L2
variable {X : Cx} {K : PySem.W.Frag}

/-! ### lists as cells, as frozen things -/
def mk : Bool → List D → CMap → DQ → Prop
  | true, ds, C, Q => ∀ p, C p = none → Q (.cell p) (cset C p (.lst ds))
  | false, ds, C, Q => Q (.lst ds) C
theorem mk_t {ds : List D} {C : CMap} {Q : DQ} : mk true ds C Q = ∀ p, C p = none → Q (.cell p) (cset C p (.lst ds)) := rfl
theorem mk_f {ds : List D} {C : CMap} {Q : DQ} : mk false ds C Q = Q (.lst ds) C := rfl
theorem mk_ok (k : Bool) {G F H : Hp} {C : CMap} {p : Addr} {vs : List V} {ds : List D} {Q : DQ} {QV : VK} (R : Rel K G F H C) (h : H p = none) (i : IsL K F vs ds) (q : mk k ds C Q) (g : GoE K G F Q QV) : QV (.ref p) (upd H p (.lst vs)) := by
  cases k with
  | true =>
    obtain ⟨f, g1, c⟩ := R.free h
    exact g _ _ _ _ _ (Ex.refl _) (R.newc h (show COk K F (upd H p (.lst vs)) p (.lst ds) from ⟨vs, upd_same, i⟩)) (.cell p) (q p c)
  | false =>
    obtain ⟨R', e⟩ := R.new h (.lst vs)
    exact g _ _ _ _ _ e R' (.lst upd_same (IsL.mono e _ _ i)) q
theorem tup_ok {G F H : Hp} {C : CMap} {p : Addr} {vs : List V} {ds : List D} {Q : DQ} {QV : VK} (R : Rel K G F H C) (h : H p = none) (i : IsL K F vs ds) (q : Q (.tup ds) C) (g : GoE K G F Q QV) : QV (.ref p) (upd H p (.tup vs)) := by
  obtain ⟨R', e⟩ := R.new h (.tup vs)
  exact g _ _ _ _ _ e R' (.tup (SqT.of upd_same) (IsL.mono e _ _ i)) q

/-- a list that H tracks -/
def asL (C : CMap) : D → Option (List D)
  | .lst ds => some ds
  | .cell a => match C a with | some (.lst ds) => some ds | _ => none
  | _ => none
/-- any list, a tuple: read -/
def asQ (C : CMap) : D → Option (List D)
  | .lst ds => some ds
  | .ro ds => some ds
  | .tup ds => some ds
  | .cell a => match C a with | some (.lst ds) => some ds | _ => none
  | _ => none
def asR (C : CMap) : D → Option (List D)
  | .lst ds => some ds
  | .ro ds => some ds
  | .cell a => match C a with | some (.lst ds) => some ds | _ => none
  | _ => none
theorem asL_lst {C : CMap} {ds : List D} : asL C (.lst ds) = some ds := rfl
theorem asL_cell {C : CMap} {a : Addr} {ds : List D} (h : C a = some (.lst ds)) : asL C (.cell a) = some ds := by unfold asL; simp only [h]
theorem asQ_lst {C : CMap} {ds : List D} : asQ C (.lst ds) = some ds := rfl
theorem asQ_tup {C : CMap} {ds : List D} : asQ C (.tup ds) = some ds := rfl
theorem asQ_ro {C : CMap} {ds : List D} : asQ C (.ro ds) = some ds := rfl
theorem asQ_cell {C : CMap} {a : Addr} {ds : List D} (h : C a = some (.lst ds)) : asQ C (.cell a) = some ds := by unfold asQ; simp only [h]
theorem asR_lst {C : CMap} {ds : List D} : asR C (.lst ds) = some ds := rfl
theorem asR_ro {C : CMap} {ds : List D} : asR C (.ro ds) = some ds := rfl
theorem asR_cell {C : CMap} {a : Addr} {ds : List D} (h : C a = some (.lst ds)) : asR C (.cell a) = some ds := by unfold asR; simp only [h]
section
variable {G F H : Hp} {C : CMap} {v : V} {d : D} {ds : List D}
theorem cell_lst {a : Addr} (h : (match C a with | some (.lst ds) => some ds | _ => none) = some ds) : C a = some (.lst ds) := by
  cases e : C a with
  | none => rw [e] at h; cases h
  | some o =>
    rw [e] at h
    cases o with
    | lst xs => cases h; rfl
    | _ => cases h
theorem asL_ok (R : Rel K G F H C) (i : Is K F v d) (h : asL C d = some ds) : ∃ a vs, v = .ref a ∧ H a = some (.lst vs) ∧ IsL K F vs ds := by
  cases d with
  | lst xs => cases h; cases i with | lst h1 h2 => exact ⟨_, _, rfl, R.sub _ _ h1, h2⟩
  | cell a =>
    cases i
    obtain ⟨_, _, vs, h1, h2⟩ := R.own a _ (cell_lst (ds := ds) h)
    exact ⟨_, _, rfl, h1, h2⟩
  | _ => cases h
theorem asR_ok (R : Rel K G F H C) (i : Is K F v d) (h : asR C d = some ds) : ∃ a vs, v = .ref a ∧ SqL K H a vs ∧ IsL K F vs ds := by
  cases d with
  | lst xs => cases h; cases i with | lst h1 h2 => exact ⟨_, _, rfl, SqL.of (R.sub _ _ h1), h2⟩
  | ro xs => cases h; cases i with | ro h1 h2 => exact ⟨_, _, rfl, ex_l R.sub h1, h2⟩
  | cell a =>
    cases i
    obtain ⟨_, _, vs, h1, h2⟩ := R.own a _ (cell_lst (ds := ds) h)
    exact ⟨_, _, rfl, SqL.of h1, h2⟩
  | _ => cases h
theorem asQ_ok (R : Rel K G F H C) (i : Is K F v d) (h : asQ C d = some ds) : ∃ a vs, v = .ref a ∧ (SqL K H a vs ∨ SqT K H a vs) ∧ IsL K F vs ds := by
  cases d with
  | lst xs => cases h; cases i with | lst h1 h2 => exact ⟨_, _, rfl, .inl (SqL.of (R.sub _ _ h1)), h2⟩
  | ro xs => cases h; cases i with | ro h1 h2 => exact ⟨_, _, rfl, .inl (ex_l R.sub h1), h2⟩
  | tup xs => cases h; cases i with | tup h1 h2 => exact ⟨_, _, rfl, .inr (ex_t R.sub h1), h2⟩
  | cell a =>
    cases i
    obtain ⟨_, _, vs, h1, h2⟩ := R.own a _ (cell_lst (ds := ds) h)
    exact ⟨_, _, rfl, .inl (SqL.of h1), h2⟩
  | _ => cases h
end

/-! ### names, constants -/
def dV (i : Nat) (σ : DSt) (C : CMap) (Q : DQ) : Prop := orF (slot σ i) fun d => Q d C
def dC (d : D) (_ : DSt) (C : CMap) (Q : DQ) : Prop := Q d C
theorem e_v (i : Nat) {x : Str} {pos : Pos} (hN : X.N[i]? = some x := by rfl) (hv : Vis X.env.scope x := by first | exact Or.inl rfl | exact Or.inr (Or.inl rfl) | exact Or.inr (Or.inr rfl)) (hd : (x == ("__debug__" : Str)) = false := by decide)
    (hcd : (x == ("__classdict__" : Str)) = false := by decide) : DE X (.Name x pos) (dV i) :=
  DE.of (pe_var hN hv hd hcd) (fun G F H C σV σ Q QV R L q g => let ⟨d, e, q⟩ := orF_e q; let ⟨v, e1, r⟩ := L.2 i d (slot_e e); ⟨v, e1, g v d F H C (Ex.refl F) R r q⟩)
theorem sim_c {v : V} {d : D} (h : ∀ F, Is K F v d) : SimE K (tC v) (dC d) := fun G F H C σV σ Q QV R L q g => g v d F H C (Ex.refl F) R (h F) q
theorem e_int {i j pos} : DE X (.Constant (.int i) j pos) (dC (.int i)) := DE.of pe_int (sim_c fun _ => .int i)
theorem e_bl {i j pos} : DE X (.Constant (.bool i) j pos) (dC (.bl i)) := DE.of pe_bl (sim_c fun _ => .bl i)
theorem e_str {i j pos} : DE X (.Constant (.str i) j pos) (dC (.str i)) := DE.of pe_str (sim_c fun _ => .str i)
theorem e_non {j pos} : DE X (.Constant .none j pos) (dC .non) := DE.of pe_non (sim_c fun _ => .non)

/-! ### two-place operations -/
abbrev DR2 := D → D → CMap → DQ → Prop
abbrev DR1 := D → CMap → DQ → Prop
def SimR2 (K : PySem.W.Frag) (r : R2) (t : DR2) : Prop := ∀ G F H C x y dx dy Q QV, Rel K G F H C → Is K F x dx → Is K F y dy → t dx dy C Q → GoE K G F Q QV → r x y H QV
def SimR1 (K : PySem.W.Frag) (r : V → Hp → VK → Prop) (t : DR1) : Prop := ∀ G F H C x dx Q QV, Rel K G F H C → Is K F x dx → t dx C Q → GoE K G F Q QV → r x H QV
def dBin (r : DR2) (ta tb : DTE) (σ : DSt) (C : CMap) (Q : DQ) : Prop := ta σ C fun x C1 => tb σ C1 fun y C2 => r x y C2 Q
def dUn (r : DR1) (ta : DTE) (σ : DSt) (C : CMap) (Q : DQ) : Prop := ta σ C fun x C1 => r x C1 Q
theorem sim_bin {ta tb : TE} {r : R2} {a b : DTE} {t : DR2} (hr : SimR2 K r t) (ha : SimE K ta a) (hb : SimE K tb b) : SimE K (tOp r ta tb) (dBin t a b) := fun G F H C σV σ Q QV R L h g => by
  refine ha G F H C σV σ _ _ R L h fun v d F1 H1 C1 e1 R1 i1 q1 => ?_
  refine hb G F1 H1 C1 σV σ _ _ R1 (L.mono e1) q1 fun w d2 F2 H2 C2 e2 R2 i2 q2 => ?_
  exact hr G F2 H2 C2 v w d d2 _ _ R2 (Is.mono e2 _ _ i1) i2 q2 (g.mono (e1.trans e2))
theorem sim_un {ta : TE} {r : V → Hp → VK → Prop} {a : DTE} {t : DR1} (hr : SimR1 K r t) (ha : SimE K ta a) : SimE K (tUn r ta) (dUn t a) := fun G F H C σV σ Q QV R L h g => by
  refine ha G F H C σV σ _ _ R L h fun v d F1 H1 C1 e1 R1 i1 q1 => ?_
  exact hr G F1 H1 C1 v d _ _ R1 i1 q1 (g.mono e1)
theorem OpR.or {f : Value → Value → Sem Value} {r r' : R2} (h : OpR X f r) (h' : OpR X f r') : OpR X f (fun x y H Q => r x y H Q ∨ r' x y H Q) :=
  fun pins s σ H x y v u Q I rx ry q => q.elim (h pins s σ H x y v u Q I rx ry) (h' pins s σ H x y v u Q I rx ry)
section
variable {a b c : Expr} {da db dc : DTE} {pos : Pos}
theorem e_op {op : Operator} {r : R2} {t : DR2} (ho : OpR X (binaryOp op) r) (hs : SimR2 X.K r t) (ha : DE X a da) (hb : DE X b db) : DE X (.BinOp a op b pos) (dBin t da db) :=
  DE.of (pe_op ho ha hb) (sim_bin hs sim_upE sim_upE)
theorem e_un {op : UnaryOp} {r : V → Hp → VK → Prop} {t : DR1} (ho : UnR X (unaryOp op) r) (hs : SimR1 X.K r t) (ha : DE X a da) : DE X (.UnaryOp op a pos) (dUn t da) :=
  DE.of (pe_un ho ha) (sim_un hs sim_upE)
/-- ints in, a value out -/
def drI (P : Int → Int → Prop) (g : Int → Int → D) : DR2 := fun x y C Q => match x, y with
  | .int i, .int j => P i j ∧ Q (g i j) C
  | _, _ => False
theorem drI_ok {P P' : Int → Int → Prop} {g : Int → Int → V} {g' : Int → Int → D} (hp : ∀ i j, P i j → P' i j) (hg : ∀ F i j, Is K F (g i j) (g' i j)) : SimR2 K (rI P' g) (drI P g') := by
  intro G F H C x y dx dy Q QV R ix iy h gq
  cases dx with
  | int i =>
    cases dy with
    | int j => cases ix; cases iy; exact ⟨i, j, rfl, rfl, hp i j h.1, gq _ _ F H C (Ex.refl F) R (hg F i j) h.2⟩
    | _ => exact absurd h (fun z => z)
  | _ => exact absurd h (fun z => z)
def drI0 (g : Int → Int → D) : DR2 := fun x y C Q => match x, y with
  | .int i, .int j => Q (g i j) C
  | _, _ => False
theorem drI0_ok {g : Int → Int → V} {g' : Int → Int → D} (hg : ∀ F i j, Is K F (g i j) (g' i j)) : SimR2 K (rI0 g) (drI0 g') := by
  intro G F H C x y dx dy Q QV R ix iy h gq
  cases dx with
  | int i =>
    cases dy with
    | int j => cases ix; cases iy; exact ⟨i, j, rfl, rfl, gq _ _ F H C (Ex.refl F) R (hg F i j) h⟩
    | _ => exact absurd h (fun z => z)
  | _ => exact absurd h (fun z => z)
def dSub : DTE → DTE → DTE := dBin (drI0 fun i j => .int (i - j))
theorem e_sub (ha : DE X a da) (hb : DE X b db) : DE X (.BinOp a .Sub b pos) (dSub da db) := e_op op_sub (drI0_ok fun _ _ _ => .int _) ha hb
/-- a factor below 2^64 -/
def mulOk (i j : Int) : Prop := (-18446744073709551616 < i ∧ i < 18446744073709551616) ∨ (-18446744073709551616 < j ∧ j < 18446744073709551616)
def drMul (k : Bool) : DR2 := fun x y C Q => match x, y with
  | .int i, .int j => mulOk i j ∧ Q (.int (i * j)) C
  | d, .int j => orF (asL C d) fun xs => -9223372036854775808 ≤ j ∧ j < 9223372036854775808 ∧ xs.length * j.toNat ≤ 16777216 ∧ mk k (List.replicate j.toNat xs).flatten C Q
  | _, _ => False
def dMul (k : Bool) : DTE → DTE → DTE := dBin (drMul k)
theorem IsL.rep {F : Hp} {vs : List V} {ds : List D} (h : IsL K F vs ds) : ∀ n : Nat, IsL K F (List.replicate n vs).flatten (List.replicate n ds).flatten
  | 0 => .nil
  | n + 1 => by rw [List.replicate_succ, List.replicate_succ, List.flatten_cons, List.flatten_cons]; exact h.append (IsL.rep h n)
theorem sim_mul (k : Bool) : SimR2 K (fun x y H Q => rI CMul (fun i j => .int (i * j)) x y H Q ∨ rRep x y H Q) (drMul k) := by
  intro G F H C x y dx dy Q QV R ix iy h gq
  have main : ∀ j, dy = .int j → (∀ i, dx ≠ .int i) → (orF (asL C dx) fun xs => -9223372036854775808 ≤ j ∧ j < 9223372036854775808 ∧ xs.length * j.toNat ≤ 16777216 ∧ mk k (List.replicate j.toNat xs).flatten C Q) → (rI CMul (fun i j => .int (i * j)) x y H QV ∨ rRep x y H QV) := by
    intro j hj hn h0; subst hj; obtain ⟨xs, h1, h2, h3, h4, q⟩ := orF_e h0
    cases iy
    obtain ⟨l, vs, rfl, hl, il⟩ := asL_ok R ix h1
    refine .inr ⟨l, j, vs, rfl, rfl, hl, h2, h3, by rw [sizeLine_eq, il.length]; exact h4, fun p hp => ?_⟩
    exact mk_ok k R hp (il.rep _) q gq
  cases dy with
  | int j =>
    cases dx with
    | int i => cases ix; cases iy; exact .inl ⟨i, j, rfl, rfl, h.1, gq _ _ F H C (Ex.refl F) R (.int _) h.2⟩
    | _ => exact main j rfl (fun _ => D.noConfusion) h
  | _ => cases dx <;> exact absurd h (fun z => z)
theorem e_mul (k : Bool) (ha : DE X a da) (hb : DE X b db) : DE X (.BinOp a .Mult b pos) (dMul k da db) := e_op (OpR.or op_mul op_rep) (sim_mul k) ha hb
/-- // by a positive number -/
def dFd : DTE → DTE → DTE := dBin (drI (fun _ j => 0 < j ∧ j < 1606938044258990275541962092341162602522202993782792835301376) fun i j => .int (i / j))
theorem e_fd (ha : DE X a da) (hb : DE X b db) : DE X (.BinOp a .FloorDiv b pos) (dFd da db) := e_op op_fdivW (drI_ok (fun i j h => wide_div (b := 200) h.1 (by have := h.2; omega) (by decide) (by decide)) fun _ _ _ => .int _) ha hb
def dFdN : DTE → DTE → DTE := dBin (drI (fun _ j => j ≠ 0 ∧ j.natAbs < 1073741824) fun i j => .int (i.fdiv j))
theorem e_fdN (ha : DE X a da) (hb : DE X b db) : DE X (.BinOp a .FloorDiv b pos) (dFdN da db) := e_op op_fdivN (drI_ok (fun i j h => h) fun _ _ _ => .int _) ha hb
def dMd : DTE → DTE → DTE := dBin (drI (fun _ j => 0 < j) fun i j => .int (i % j))
theorem e_md (ha : DE X a da) (hb : DE X b db) : DE X (.BinOp a .Mod b pos) (dMd da db) := e_op op_mod (drI_ok (fun i j h => h) fun _ _ _ => .int _) ha hb
def dPw : DTE → DTE → DTE := dBin (drI (fun i j => 0 ≤ j ∧ j ≤ 1000000 ∧ i.natAbs < 2 ^ 64) fun i j => .int (i ^ j.toNat))
theorem e_pw (ha : DE X a da) (hb : DE X b db) : DE X (.BinOp a .Pow b pos) (dPw da db) := e_op op_pow (drI_ok (fun i j h => h) fun _ _ _ => .int _) ha hb
def drNeg : DR1 := fun x C Q => match x with
  | .int i => Q (.int (-i)) C
  | _ => False
def dNeg : DTE → DTE := dUn drNeg
theorem e_neg (ha : DE X a da) : DE X (.UnaryOp .USub a pos) (dNeg da) := e_un un_neg (by
  intro G F H C x dx Q QV R ix h gq
  cases dx with
  | int i => cases ix; exact ⟨i, rfl, gq _ _ F H C (Ex.refl F) R (.int _) h⟩
  | _ => exact absurd h (fun z => z)) ha

/-- + -/
def drAdd (k : Bool) : DR2 := fun x y C Q => match x, y with
  | .int i, .int j => Q (.int (i + j)) C
  | .int i, .bl b => Q (.int (i + b2i b)) C
  | .str s, .str t => s.length + t.length ≤ 16777216 ∧ Q (.str (s ++ t)) C
  | .tup s, .tup t => s.length + t.length ≤ 16777216 ∧ Q (.tup (s ++ t)) C
  | x, y => orF (asL C x) fun s => orF (asL C y) fun t => s.length + t.length ≤ 16777216 ∧ mk k (s ++ t) C Q
def dAdd (k : Bool) : DTE → DTE → DTE := dBin (drAdd k)
def rAddA (K : PySem.W.Frag) : R2 := fun x y H Q => (rI0 fun i j => .int (i + j)) x y H Q ∨ (∃ i k, x = .int i ∧ y = .bl k ∧ Q (.int (i + b2i k)) H) ∨ (∃ i j, x = .str i ∧ y = .str j ∧ i.length + j.length ≤ sizeLine ∧ Q (.str (i ++ j)) H) ∨ rCatA K x y H Q ∨ rCat x y H Q
theorem op_addA : OpR X (binaryOp .Add) (rAddA X.K) := OpR.or op_add (OpR.or op_add_ib (OpR.or op_add_str (OpR.or op_catA op_cat)))
theorem asL_ref {G F H : Hp} {C : CMap} {v : V} {d : D} {ds : List D} (h : asL C d = some ds) : (∃ xs, d = .lst xs) ∨ ∃ a, d = .cell a := by
  cases d with
  | lst xs => exact .inl ⟨_, rfl⟩
  | cell a => exact .inr ⟨_, rfl⟩
  | _ => cases h
theorem sim_add (k : Bool) : SimR2 K (rAddA K) (drAdd k) := by
  intro G F H C x y dx dy Q QV R ix iy h gq
  have main : (orF (asL C dx) fun s => orF (asL C dy) fun t => s.length + t.length ≤ 16777216 ∧ mk k (s ++ t) C Q) → rAddA K x y H QV := by
    intro h0; obtain ⟨s, h1, h0⟩ := orF_e h0; obtain ⟨t, h2, h3, q⟩ := orF_e h0
    obtain ⟨l, vs, rfl, hl, il⟩ := asL_ok R ix h1
    obtain ⟨m, ws, rfl, hm, im⟩ := asL_ok R iy h2
    refine .inr (.inr (.inr (.inr ⟨l, m, vs, ws, rfl, rfl, hl, hm, by rw [sizeLine_eq, il.length, im.length]; exact h3, fun p hp => ?_⟩)))
    exact mk_ok k R hp (il.append im) q gq
  cases dx with
  | int i =>
    cases dy with
    | int j => cases ix; cases iy; exact .inl ⟨i, j, rfl, rfl, gq _ _ F H C (Ex.refl F) R (.int _) h⟩
    | bl j => cases ix; cases iy; exact .inr (.inl ⟨i, j, rfl, rfl, gq _ _ F H C (Ex.refl F) R (.int _) h⟩)
    | _ => exact main h
  | str s =>
    cases dy with
    | str t => cases ix; cases iy; exact .inr (.inr (.inl ⟨s, t, rfl, rfl, by rw [sizeLine_eq]; exact h.1, gq _ _ F H C (Ex.refl F) R (.str _) h.2⟩))
    | _ => exact main h
  | tup s =>
    cases dy with
    | tup t =>
      obtain ⟨h2, q⟩ := h
      cases ix with | tup i1 i2 =>
      rename_i a vs
      cases iy with | tup j1 j2 =>
      rename_i b ws
      refine .inr (.inr (.inr (.inl ⟨_, _, _, _, rfl, rfl, ex_t R.sub i1, ex_t R.sub j1, by rw [sizeLine_eq, i2.length, j2.length]; exact h2, fun hvs => ?_, fun _ hws => ?_, fun _ _ p hp => ?_⟩)))
      · have hs : s = [] := by have := i2.length; rw [hvs] at this; exact List.length_eq_zero_iff.mp this.symm
        subst hs
        exact gq _ _ F H C (Ex.refl F) R (.tup j1 j2) q
      · have ht : t = [] := by have := j2.length; rw [hws] at this; exact List.length_eq_zero_iff.mp this.symm
        subst ht
        rw [List.append_nil] at q
        exact gq _ _ F H C (Ex.refl F) R (.tup i1 i2) q
      · exact tup_ok R hp (i2.append j2) q gq
    | _ => exact main h
  | _ => exact main h
theorem e_add (k : Bool) (ha : DE X a da) (hb : DE X b db) : DE X (.BinOp a .Add b pos) (dAdd k da db) := e_op op_addA (sim_add k) ha hb
end
end DL

namespace DL
open PySem PySem.Spec PyProof.Rows L2
variable {X : Cx} {K : PySem.W.Frag}

/-! ### data compared -/
mutual
def dp : D → PyData
  | .non => .none
  | .bl b => .bool b
  | .int i => .int i
  | .str s => .str s
  | .tup ds => .tuple (dpL ds)
  | .lst ds => .list (dpL ds)
  | .ro ds => .list (dpL ds)
  | .cell _ => .dict []
  | .ty _ => .dict []
def dpL : List D → List PyData
  | [] => []
  | d :: ds => dp d :: dpL ds
end
/-- no cell within, at most so deep -/
def flat : Nat → D → Bool
  | _, .non => true
  | _, .bl _ => true
  | _, .int _ => true
  | _, .str _ => true
  | n + 1, .tup ds => ds.all (flat n)
  | n + 1, .lst ds => ds.all (flat n)
  | n + 1, .ro ds => ds.all (flat n)
  | _, _ => false
mutual
theorem flat_plain : ∀ (d : D) (n : Nat), flat n d = true → (dp d).plain = true ∧ (dp d).depth ≤ n
  | .non, n, _ => ⟨rfl, Nat.zero_le _⟩
  | .bl _, n, _ => ⟨rfl, Nat.zero_le _⟩
  | .int _, n, _ => ⟨rfl, Nat.zero_le _⟩
  | .str _, n, _ => ⟨rfl, Nat.zero_le _⟩
  | .tup ds, 0, h => by simp [flat] at h
  | .lst ds, 0, h => by simp [flat] at h
  | .ro ds, 0, h => by simp [flat] at h
  | .tup ds, n + 1, h => by
    obtain ⟨h1, h2⟩ := flat_plainL ds n h
    exact ⟨by show PyData.plainAll (dpL ds) = true; exact h1, by show PyData.depthAll (dpL ds) + 1 ≤ n + 1; omega⟩
  | .lst ds, n + 1, h => by
    obtain ⟨h1, h2⟩ := flat_plainL ds n h
    exact ⟨by show PyData.plainAll (dpL ds) = true; exact h1, by show PyData.depthAll (dpL ds) + 1 ≤ n + 1; omega⟩
  | .ro ds, n + 1, h => by
    obtain ⟨h1, h2⟩ := flat_plainL ds n h
    exact ⟨by show PyData.plainAll (dpL ds) = true; exact h1, by show PyData.depthAll (dpL ds) + 1 ≤ n + 1; omega⟩
  | .cell _, n, h => by cases n <;> simp [flat] at h
  | .ty _, n, h => by cases n <;> simp [flat] at h
theorem flat_plainL : ∀ (ds : List D) (n : Nat), ds.all (flat n) = true → PyData.plainAll (dpL ds) = true ∧ PyData.depthAll (dpL ds) ≤ n
  | [], n, _ => ⟨rfl, Nat.zero_le _⟩
  | d :: ds, n, h => by
    rw [List.all_cons, Bool.and_eq_true] at h
    obtain ⟨h1, h2⟩ := flat_plain d n h.1
    obtain ⟨h3, h4⟩ := flat_plainL ds n h.2
    refine ⟨?_, ?_⟩
    · show (PyData.plain (dp d) && PyData.plainAll (dpL ds)) = true
      rw [h1, h3]; rfl
    · show max (dp d).depth (PyData.depthAll (dpL ds)) ≤ n
      exact Nat.max_le.mpr ⟨h2, h4⟩
end
mutual
theorem Is.dp {F : Hp} : ∀ (d : D) (v : V) (n : Nat), flat n d = true → Is K F v d → Dp K F v (dp d)
  | .non, _, _, _, h => by cases h; exact .non
  | .bl b, _, _, _, h => by cases h; exact .bl b
  | .int b, _, _, _, h => by cases h; exact .int b
  | .str b, _, _, _, h => by cases h; exact .str b
  | .tup ds, _, 0, hf, h => by simp [flat] at hf
  | .lst ds, _, 0, hf, h => by simp [flat] at hf
  | .ro ds, _, 0, hf, h => by simp [flat] at hf
  | .tup ds, _, n + 1, hf, h => by cases h with | tup h1 h2 => exact .tup h1 (IsL.dp ds _ n hf h2)
  | .lst ds, _, n + 1, hf, h => by cases h with | lst h1 h2 => exact .lst (SqL.of h1) (IsL.dp ds _ n hf h2)
  | .ro ds, _, n + 1, hf, h => by cases h with | ro h1 h2 => exact .lst h1 (IsL.dp ds _ n hf h2)
  | .cell _, _, n, hf, h => by cases n <;> simp [flat] at hf
  | .ty _, _, n, hf, h => by cases n <;> simp [flat] at hf
theorem IsL.dp {F : Hp} : ∀ (ds : List D) (vs : List V) (n : Nat), ds.all (flat n) = true → IsL K F vs ds → DpAll K F vs (dpL ds)
  | [], _, _, _, h => by cases h; exact .nil
  | d :: ds, _, n, hf, h => by
    rw [List.all_cons, Bool.and_eq_true] at hf
    cases h with | cons h1 h2 => exact .cons (Is.dp d _ n hf.1 h1) (IsL.dp ds _ n hf.2 h2)
end
mutual
theorem Dp.mono {H H' : Hp} (e : Ex H H') : ∀ (d : PyData) (v : V), Dp K H v d → Dp K H' v d
  | .none, _, h => by cases h; exact .non
  | .bool b, _, h => by cases h; exact .bl b
  | .int b, _, h => by cases h; exact .int b
  | .str b, _, h => by cases h; exact .str b
  | .tuple ds, _, h => by cases h with | tup h1 h2 => exact .tup (ex_t e h1) (DpAll.mono e ds _ h2)
  | .list ds, _, h => by cases h with | lst h1 h2 => exact .lst (ex_l e h1) (DpAll.mono e ds _ h2)
  | .dict _, _, h => by cases h
theorem DpAll.mono {H H' : Hp} (e : Ex H H') : ∀ (ds : List PyData) (vs : List V), DpAll K H vs ds → DpAll K H' vs ds
  | [], _, h => by cases h; exact .nil
  | d :: ds, _, h => by cases h with | cons h1 h2 => exact .cons (Dp.mono e d _ h1) (DpAll.mono e ds _ h2)
end
/-- a cell's contents in its place -/
def rd (C : CMap) : D → D
  | .cell a => match C a with | some (.lst ds) => .lst ds | _ => .cell a
  | d => d
theorem rd_cell {C : CMap} {a : Addr} {ds : List D} (h : C a = some (.lst ds)) : rd C (.cell a) = .lst ds := by unfold rd; simp only [h]
theorem rd_int {C : CMap} {i : Int} : rd C (.int i) = .int i := rfl
theorem rd_bl {C : CMap} {i : Bool} : rd C (.bl i) = .bl i := rfl
theorem rd_str {C : CMap} {i : Str} : rd C (.str i) = .str i := rfl
theorem rd_non {C : CMap} : rd C .non = .non := rfl
theorem rd_tup {C : CMap} {ds : List D} : rd C (.tup ds) = .tup ds := rfl
theorem rd_lst {C : CMap} {ds : List D} : rd C (.lst ds) = .lst ds := rfl
theorem rd_dp {G F H : Hp} {C : CMap} {v : V} {d : D} {n : Nat} (R : Rel K G F H C) (i : Is K F v d) (h : flat n (rd C d) = true) : Dp K H v (dp (rd C d)) := by
  cases d with
  | cell a =>
    cases i
    cases e : C a with
    | none =>
      have : rd C (.cell a) = .cell a := by unfold rd; simp only [e]
      rw [this] at h; cases n <;> simp [flat] at h
    | some o =>
      cases o with
      | lst ds =>
        rw [rd_cell e] at h ⊢
        obtain ⟨_, _, vs, h1, h2⟩ := R.own a _ e
        cases n with
        | zero => simp [flat] at h
        | succ n => exact .lst (SqL.of h1) (DpAll.mono R.sub _ _ (IsL.dp ds vs n h h2))
      | _ =>
        have : rd C (.cell a) = .cell a := by unfold rd; simp only [e]
        rw [this] at h; cases n <;> simp [flat] at h
  | _ => exact Dp.mono R.sub _ _ (Is.dp _ _ n h i)
def deq (x y : D) : Bool := PyData.eqv (dp x) (dp y)
def deqL (x y : List D) : Bool := PyData.eqvAll (dpL x) (dpL y)

def cmpR (K : PySem.W.Frag) (neg : Bool) : R2 := fun x y H Q => ∃ d e, Dp K H x d ∧ Dp K H y e ∧ d.plain = true ∧ e.plain = true ∧ (min d.depth e.depth ≤ 60) ∧ Q (.bl (if neg then !PyData.eqv d e else PyData.eqv d e)) H
theorem op_eqP (hu : X.A.units + 64 < cLine) : OpR X (compareOp .Eq) (cmpR X.K false) := by
  intro pins s σ H x y v u Q I rx ry h
  obtain ⟨d, e, hd, he, sd, se, hm, q⟩ := h
  obtain ⟨as, r1⟩ := Dp.reads I d x v hd rx
  obtain ⟨bs, r2⟩ := Dp.reads I e y u he ry
  exact SeqAt.eq_plain r1 r2 sd se (by omega) ⟨.bl _, H, I, rfl, q⟩
theorem op_neP (hu : X.A.units + 64 < cLine) : OpR X (compareOp .NotEq) (cmpR X.K true) := by
  intro pins s σ H x y v u Q I rx ry h
  obtain ⟨d, e, hd, he, sd, se, hm, q⟩ := h
  obtain ⟨as, r1⟩ := Dp.reads I d x v hd rx
  obtain ⟨bs, r2⟩ := Dp.reads I e y u he ry
  exact SeqAt.ne_plain r1 r2 sd se (by omega) ⟨.bl _, H, I, rfl, q⟩
def drEq (neg : Bool) : DR2 := fun x y C Q => match x, y with
  | .int i, .int j => Q (.bl (if neg then !decide (i = j) else decide (i = j))) C
  | .str i, .str j => Q (.bl (if neg then !decide (i = j) else decide (i = j))) C
  | .bl i, .bl j => Q (.bl (if neg then !decide (i = j) else decide (i = j))) C
  | x, y => flat 30 (rd C x) = true ∧ flat 30 (rd C y) = true ∧ Q (.bl (if neg then !deq (rd C x) (rd C y) else deq (rd C x) (rd C y))) C
theorem sim_eq (neg : Bool) : SimR2 K (cmpR K neg) (drEq neg) := by
  intro G F H C x y dx dy Q QV R ix iy h gq
  have main : (flat 30 (rd C dx) = true ∧ flat 30 (rd C dy) = true ∧ Q (.bl (if neg then !deq (rd C dx) (rd C dy) else deq (rd C dx) (rd C dy))) C) → cmpR K neg x y H QV := by
    rintro ⟨h1, h2, q⟩
    obtain ⟨p1, q1⟩ := flat_plain _ _ h1
    obtain ⟨p2, q2⟩ := flat_plain _ _ h2
    exact ⟨_, _, rd_dp R ix h1, rd_dp R iy h2, p1, p2, by omega, gq _ _ F H C (Ex.refl F) R (.bl _) q⟩
  cases dx with
  | int i =>
    cases dy with
    | int j => exact main ⟨rfl, rfl, by
        have e : deq (rd C (.int i)) (rd C (.int j)) = decide (i = j) := by show (i == j) = _; exact Bool.beq_eq_decide_eq i j
        rw [e]; exact h⟩
    | _ => exact main h
  | str i =>
    cases dy with
    | str j => exact main ⟨rfl, rfl, by
        have e : deq (rd C (.str i)) (rd C (.str j)) = decide (i = j) := by show (i == j) = _; exact Bool.beq_eq_decide_eq i j
        rw [e]; exact h⟩
    | _ => exact main h
  | bl i =>
    cases dy with
    | bl j => exact main ⟨rfl, rfl, by
        have e : deq (rd C (.bl i)) (rd C (.bl j)) = decide (i = j) := by show (i == j) = _; exact Bool.beq_eq_decide_eq i j
        rw [e]; exact h⟩
    | _ => exact main h
  | _ => exact main h

/-- in, not in: a list, a tuple of data -/
def inR (K : PySem.W.Frag) (neg : Bool) : R2 := fun x y H Q => ∃ d es b, Dp K H x d ∧ (∃ a vs, y = .ref a ∧ (SqL K H a vs ∨ SqT K H a vs) ∧ DpAll K H vs es) ∧ d.plain = true ∧ PyData.plainAll es = true ∧ d.depth ≤ 50 ∧ b = (es.any fun z => PyData.eqv z d) ∧ Q (.bl (if neg then !b else b)) H
theorem op_inP (hu : X.A.units + 64 < cLine) : OpR X (compareOp .In) (inR X.K false) := by
  intro pins s σ H x y v u Q I rx ry h
  obtain ⟨d, es, b, hd, ⟨a, vs, rfl, hs, he⟩, sd, se, hm, hb, q⟩ := h
  obtain ⟨as, r1⟩ := Dp.reads I d x v hd rx
  subst hb
  rcases hs with hs | hs
  · obtain ⟨bs, r2⟩ := Dp.reads I (.list es) (.ref a) u (.lst hs he) ry
    exact SeqAt.in_list_data r2 r1 se sd (by omega) ⟨.bl _, H, I, rfl, q⟩
  · obtain ⟨bs, r2⟩ := Dp.reads I (.tuple es) (.ref a) u (.tup hs he) ry
    exact SeqAt.in_tuple_data r2 r1 se sd (by omega) ⟨.bl _, H, I, rfl, q⟩
theorem op_notInP (hu : X.A.units + 64 < cLine) : OpR X (compareOp .NotIn) (inR X.K true) := by
  intro pins s σ H x y v u Q I rx ry h
  obtain ⟨d, es, b, hd, ⟨a, vs, rfl, hs, he⟩, sd, se, hm, hb, q⟩ := h
  obtain ⟨as, r1⟩ := Dp.reads I d x v hd rx
  subst hb
  rcases hs with hs | hs
  · obtain ⟨bs, r2⟩ := Dp.reads I (.list es) (.ref a) u (.lst hs he) ry
    exact SeqAt.notIn_list_data r2 r1 se sd (by omega) ⟨.bl _, H, I, rfl, q⟩
  · obtain ⟨bs, r2⟩ := Dp.reads I (.tuple es) (.ref a) u (.tup hs he) ry
    exact SeqAt.notIn_tuple_data r2 r1 se sd (by omega) ⟨.bl _, H, I, rfl, q⟩
def occ (x y : Str) : Bool := !(Builtin.Str.occurrences y x 0 y.length 1).isEmpty
def drIn (neg : Bool) : DR2 := fun x y C Q => match x, y with
  | .str s, .str t => Q (.bl (if neg then !occ s t else occ s t)) C
  | x, y => orF (asQ C y) fun es => flat 30 (rd C x) = true ∧ (es.all (flat 30)) = true ∧ Q (.bl (if neg then !(es.any fun z => deq z (rd C x)) else es.any fun z => deq z (rd C x))) C
def inRA (K : PySem.W.Frag) (neg : Bool) : R2 := fun x y H Q => (∃ i j, x = .str i ∧ y = .str j ∧ Q (.bl (if neg then !occ i j else occ i j)) H) ∨ inR K neg x y H Q
theorem dpL_any {es : List D} {f : PyData → Bool} : (dpL es).any f = es.any fun z => f (dp z) := by
  induction es with
  | nil => rfl
  | cons e es ih => show (f (dp e) || (dpL es).any f) = _; rw [ih]; rfl
theorem sim_in (neg : Bool) : SimR2 K (inRA K neg) (drIn neg) := by
  intro G F H C x y dx dy Q QV R ix iy h gq
  have main : (orF (asQ C dy) fun es => flat 30 (rd C dx) = true ∧ (es.all (flat 30)) = true ∧ Q (.bl (if neg then !(es.any fun z => deq z (rd C dx)) else es.any fun z => deq z (rd C dx))) C) → inRA K neg x y H QV := by
    intro h0; obtain ⟨es, h1, h2, h3, q⟩ := orF_e h0
    obtain ⟨a, vs, rfl, hs, il⟩ := asQ_ok R iy h1
    obtain ⟨p1, q1⟩ := flat_plain _ _ h2
    obtain ⟨p2, q2⟩ := flat_plainL _ _ h3
    refine .inr ⟨_, dpL es, _, rd_dp R ix h2, ⟨a, vs, rfl, hs, DpAll.mono R.sub _ _ (IsL.dp es vs _ h3 il)⟩, p1, p2, by omega, rfl, ?_⟩
    rw [dpL_any]
    exact gq _ _ F H C (Ex.refl F) R (.bl _) q
  cases dx with
  | str s =>
    cases dy with
    | str t => cases ix; cases iy; exact .inl ⟨s, t, rfl, rfl, gq _ _ F H C (Ex.refl F) R (.bl _) h⟩
    | _ => exact main h
  | _ => cases dy <;> exact main h

/-- is None, True, False -/
theorem is_bool_gen {M : Model} {A : Around} {E : Value → Shared → Prop} {s : Shared} {Q : Value → Shared → Prop} {v : Value} {x : V} {b : Bool} (r : RelV x v) (h : Q (.bool (v == .bool b)) s) : wpAny M A (compareOp .Is v (.bool b)) Q E s := by
  cases x <;> first
    | (cases r; exact wpAny_pure h)
    | (obtain ⟨t, rfl⟩ := r; exact wpAny_pure h)
theorem isnot_bool_gen {M : Model} {A : Around} {E : Value → Shared → Prop} {s : Shared} {Q : Value → Shared → Prop} {v : Value} {x : V} {b : Bool} (r : RelV x v) (h : Q (.bool (!(v == .bool b))) s) : wpAny M A (compareOp .IsNot v (.bool b)) Q E s := by
  cases x <;> first
    | (cases r; exact wpAny_pure h)
    | (obtain ⟨t, rfl⟩ := r; exact wpAny_pure h)
theorem RelV.bool_iff {x : V} {v : Value} {b : Bool} (r : RelV x v) : (v == Value.bool b) = decide (x = .bl b) := by
  cases x with
  | non => cases r; rfl
  | bl c => cases r; cases b <;> cases c <;> rfl
  | int _ => obtain ⟨t, rfl⟩ := r; rfl
  | str _ => obtain ⟨t, rfl⟩ := r; rfl
  | byt _ => obtain ⟨t, rfl⟩ := r; rfl
  | flt _ => obtain ⟨t, rfl⟩ := r; rfl
  | ref _ => cases r; rfl
  | ty _ => cases r; rfl
def isR (neg : Bool) : R2 := fun x y H Q => (y = .non ∨ ∃ b, y = .bl b) ∧ Q (.bl (if neg then !decide (x = y) else decide (x = y))) H
theorem op_isA : OpR X (compareOp .Is) (isR false) := by
  intro pins s σ H x y v u Q I rx ry h
  obtain ⟨hy, q⟩ := h
  rcases hy with rfl | ⟨b, rfl⟩
  · cases ry
    exact is_none_gen ⟨.bl _, H, I, by rw [rx.none_iff]; rfl, q⟩
  · cases ry
    exact is_bool_gen rx ⟨.bl _, H, I, by rw [RelV.bool_iff rx]; rfl, q⟩
theorem op_isNotA : OpR X (compareOp .IsNot) (isR true) := by
  intro pins s σ H x y v u Q I rx ry h
  obtain ⟨hy, q⟩ := h
  rcases hy with rfl | ⟨b, rfl⟩
  · cases ry
    exact isnot_none_gen ⟨.bl _, H, I, by rw [rx.none_iff]; rfl, q⟩
  · cases ry
    exact isnot_bool_gen rx ⟨.bl _, H, I, by rw [RelV.bool_iff rx]; rfl, q⟩
def isD : D → D → Option Bool
  | .non, .non => some true
  | .bl a, .bl b => some (a == b)
  | _, .non => some false
  | _, .bl _ => some false
  | _, _ => none
def drIs (neg : Bool) : DR2 := fun x y C Q => orF (isD x y) fun b => Q (.bl (if neg then !b else b)) C
theorem sim_is (neg : Bool) : SimR2 K (isR neg) (drIs neg) := by
  intro G F H C x y dx dy Q QV R ix iy h0 gq
  obtain ⟨b, h, q⟩ := orF_e h0
  have key : (y = .non ∨ ∃ b, y = .bl b) ∧ b = decide (x = y) := by
    cases dy with
    | non =>
      cases iy
      refine ⟨.inl rfl, ?_⟩
      cases dx <;> (cases ix <;> (cases h; first | rfl | simp))
    | bl c =>
      cases iy
      refine ⟨.inr ⟨c, rfl⟩, ?_⟩
      cases dx <;> (cases ix <;> (cases h; first | rfl | simp))
      rename_i a
      cases a <;> cases c <;> rfl
    | _ => cases dx <;> cases h
  obtain ⟨k1, rfl⟩ := key
  exact ⟨k1, gq _ _ F H C (Ex.refl F) R (.bl _) q⟩

/-- < <= > >= of ints, of texts -/
def ordI : CmpOp → Int → Int → Bool
  | .Lt, i, j => decide (i < j)
  | .LtE, i, j => decide (i ≤ j)
  | .Gt, i, j => decide (j < i)
  | _, i, j => decide (j ≤ i)
def ordS : CmpOp → Str → Str → Bool
  | .Lt, i, j => decide (i.cps.toList < j.cps.toList)
  | .LtE, i, j => !decide (j.cps.toList < i.cps.toList)
  | .Gt, i, j => decide (j.cps.toList < i.cps.toList)
  | _, i, j => !decide (i.cps.toList < j.cps.toList)
def ordR (op : CmpOp) : R2 := fun x y H Q => (∃ i j, x = .int i ∧ y = .int j ∧ Q (.bl (ordI op i j)) H) ∨ (∃ i j, x = .str i ∧ y = .str j ∧ Q (.bl (ordS op i j)) H)
theorem op_ord {op : CmpOp} (h : op = .Lt ∨ op = .LtE ∨ op = .Gt ∨ op = .GtE) : OpR X (compareOp op) (ordR op) := by
  rcases h with rfl | rfl | rfl | rfl
  · exact OpR.or op_lt op_lt_str
  · exact OpR.or op_le op_le_str
  · exact OpR.or op_gt op_gt_str
  · exact OpR.or op_ge op_ge_str
def drOrd (op : CmpOp) : DR2 := fun x y C Q => match x, y with
  | .int i, .int j => Q (.bl (ordI op i j)) C
  | .str i, .str j => Q (.bl (ordS op i j)) C
  | _, _ => False
theorem sim_ord (op : CmpOp) : SimR2 K (ordR op) (drOrd op) := by
  intro G F H C x y dx dy Q QV R ix iy h gq
  cases dx with
  | int i =>
    cases dy with
    | int j => cases ix; cases iy; exact .inl ⟨i, j, rfl, rfl, gq _ _ F H C (Ex.refl F) R (.bl _) h⟩
    | _ => exact absurd h (fun z => z)
  | str i =>
    cases dy with
    | str j => cases ix; cases iy; exact .inr ⟨i, j, rfl, rfl, gq _ _ F H C (Ex.refl F) R (.bl _) h⟩
    | _ => exact absurd h (fun z => z)
  | _ => exact absurd h (fun z => z)

/-! ### a comparison's rule: the operation and its data reading -/
structure CmpR (X : Cx) (op : CmpOp) (t : DR2) : Prop where
  ex : ∃ r, OpR X (compareOp op) r ∧ SimR2 X.K r t
theorem c_eq (hu : X.A.units + 64 < cLine) : CmpR X .Eq (drEq false) := ⟨_, op_eqP hu, sim_eq false⟩
theorem c_ne (hu : X.A.units + 64 < cLine) : CmpR X .NotEq (drEq true) := ⟨_, op_neP hu, sim_eq true⟩
theorem c_in (hu : X.A.units + 64 < cLine) : CmpR X .In (drIn false) := ⟨_, OpR.or op_in_str (op_inP hu), sim_in false⟩
theorem c_ni (hu : X.A.units + 64 < cLine) : CmpR X .NotIn (drIn true) := ⟨_, OpR.or op_notin_str (op_notInP hu), sim_in true⟩
theorem c_is : CmpR X .Is (drIs false) := ⟨_, op_isA, sim_is false⟩
theorem c_isn : CmpR X .IsNot (drIs true) := ⟨_, op_isNotA, sim_is true⟩
theorem c_lt : CmpR X .Lt (drOrd .Lt) := ⟨_, op_ord (.inl rfl), sim_ord _⟩
theorem c_le : CmpR X .LtE (drOrd .LtE) := ⟨_, op_ord (.inr (.inl rfl)), sim_ord _⟩
theorem c_gt : CmpR X .Gt (drOrd .Gt) := ⟨_, op_ord (.inr (.inr (.inl rfl))), sim_ord _⟩
theorem c_ge : CmpR X .GtE (drOrd .GtE) := ⟨_, op_ord (.inr (.inr (.inr rfl))), sim_ord _⟩

section
variable {a b c : Expr} {da db dc : DTE} {pos : Pos} {op op' : CmpOp} {t t' : DR2}
/-- a value as a test -/
def dTest (t : DTE) (σ : DSt) (C : CMap) (Q : Bool → CMap → Prop) : Prop := t σ C fun d C1 => isB d fun b => Q b C1
theorem sim_test {te : TE} {t : DTE} (h : SimE K te t) : SimT K (tTest te) (dTest t) := fun G F H C σV σ Q QV R L q g =>
  h G F H C σV σ _ _ R L q fun v d F' H' C' e R' i h0 => by obtain ⟨b, hb, q'⟩ := isB_e h0; subst hb; cases i; exact ⟨b, rfl, g b F' H' C' e R' q'⟩
theorem e_cmp (hc : CmpR X op t) (ha : DE X a da) (hb : DE X b db) (hm : behindInMarks op b = false := by first | exact nomark _ | rfl | with_unfolding_all rfl) : DE X (.Compare a [op] [b] pos) (dBin t da db) :=
  let ⟨r, ho, hs⟩ := hc.ex
  DE.of (pe_cmpR ho ha hb hm) (sim_bin hs sim_upE sim_upE)
theorem t_cmp (hc : CmpR X op t) (ha : DE X a da) (hb : DE X b db) (hm : behindInMarks op b = false := by first | exact nomark _ | rfl | with_unfolding_all rfl) : DT X (.Compare a [op] [b] pos) (dTest (dBin t da db)) :=
  let ⟨r, ho, hs⟩ := hc.ex
  DT.of (pt_cmpR ho ha hb hm) (sim_test (sim_bin hs sim_upE sim_upE))
/-- a op b op' c -/
def dChain (r r' : DR2) (ta tb tc : DTE) (σ : DSt) (C : CMap) (Q : DQ) : Prop := ta σ C fun x C1 => tb σ C1 fun y C2 => r x y C2 fun z C3 => isB z fun k => bcase k (tc σ C3 fun w C4 => r' y w C4 Q) (Q (.bl false) C3)
theorem sim_chain {r r' : R2} {ta tb tc : TE} (hr : SimR2 K r t) (hr' : SimR2 K r' t') (ha : SimE K ta da) (hb : SimE K tb db) (hc : SimE K tc dc) : SimE K (tChain r r' ta tb tc) (dChain t t' da db dc) := fun G F H C σV σ Q QV R L h g => by
  refine ha G F H C σV σ _ _ R L h fun v d F1 H1 C1 e1 R1 i1 q1 => ?_
  refine hb G F1 H1 C1 σV σ _ _ R1 (L.mono e1) q1 fun w d2 F2 H2 C2 e2 R2 i2 q2 => ?_
  refine hr G F2 H2 C2 v w d d2 _ _ R2 (Is.mono e2 _ _ i1) i2 q2 fun z d3 F3 H3 C3 e3 R3 i3 h3 => ?_
  obtain ⟨k, hk, q3⟩ := isB_e h3
  subst hk
  cases i3
  refine ⟨k, rfl, ?_⟩
  cases k with
  | false => rw [if_neg Bool.false_ne_true]; exact g _ _ F3 H3 C3 ((e1.trans e2).trans e3) R3 (.bl _) q3
  | true =>
    rw [if_pos rfl]
    refine hc G F3 H3 C3 σV σ _ _ R3 (L.mono ((e1.trans e2).trans e3)) q3 fun w2 d4 F4 H4 C4 e4 R4 i4 q4 => ?_
    exact hr' G F4 H4 C4 w w2 d2 d4 _ _ R4 (Is.mono (e3.trans e4) _ _ i2) i4 q4 (g.mono (((e1.trans e2).trans e3).trans e4))
theorem e_chain (hc : CmpR X op t) (hc' : CmpR X op' t') (ha : DE X a da) (hb : DE X b db) (hcc : DE X c dc) (hm : lastMarks [op, op'] [b, c] = false := by with_unfolding_all rfl) : DE X (.Compare a [op, op'] [b, c] pos) (dChain t t' da db dc) :=
  let ⟨r, ho, hs⟩ := hc.ex
  let ⟨r', ho', hs'⟩ := hc'.ex
  DE.of (pe_chain ho ho' ha hb hcc hm) (sim_chain hs hs' sim_upE sim_upE sim_upE)
theorem t_chain (hc : CmpR X op t) (hc' : CmpR X op' t') (ha : DE X a da) (hb : DE X b db) (hcc : DE X c dc) (hm : lastMarks [op, op'] [b, c] = false := by with_unfolding_all rfl) : DT X (.Compare a [op, op'] [b, c] pos) (dTest (dChain t t' da db dc)) :=
  let ⟨r, ho, hs⟩ := hc.ex
  let ⟨r', ho', hs'⟩ := hc'.ex
  DT.of (pt_chain ho ho' ha hb hcc hm) (sim_test (sim_chain hs hs' sim_upE sim_upE sim_upE))

/-! ### truth, and, or, not, if -/
def dTru (C : CMap) : D → Option Bool
  | .non => some false
  | .bl b => some b
  | .int i => some (i != 0)
  | .str s => if s.length ≤ 16777216 then some ((s.length : Int) != 0) else none
  | .tup ds => some (!ds.isEmpty)
  | .lst ds => some (!ds.isEmpty)
  | .ro ds => some (!ds.isEmpty)
  | .cell a => match C a with | some (.lst ds) => some (!ds.isEmpty) | some (.dK kvs) => some (!kvs.isEmpty) | _ => none
  | .ty _ => none
theorem IsL.isEmpty {F : Hp} {vs : List V} {ds : List D} (h : IsL K F vs ds) : vs.isEmpty = ds.isEmpty := by cases h <;> rfl
theorem tru_sim {G F H : Hp} {C : CMap} {v : V} {d : D} {b : Bool} (R : Rel K G F H C) (i : Is K F v d) (h : dTru C d = some b) : TruV K v H b := by
  cases d with
  | non => cases i; cases h; rfl
  | bl c => cases i; cases h; rfl
  | int c => cases i; cases h; rfl
  | str s =>
    cases i
    by_cases hl : s.length ≤ 16777216
    · have h' : some ((s.length : Int) != 0) = some b := by
        rw [← h]; show _ = if s.length ≤ 16777216 then some ((s.length : Int) != 0) else none
        rw [if_pos hl]
      cases h'
      exact ⟨by rw [sizeLine_eq]; exact hl, rfl⟩
    · have h' : none = some b := by
        rw [← h]; show _ = if s.length ≤ 16777216 then some ((s.length : Int) != 0) else none
        rw [if_neg hl]
      cases h'
  | tup ds => cases h; cases i with | tup h1 h2 => exact .inr (.inl ⟨_, ex_t R.sub h1, by rw [h2.isEmpty]⟩)
  | lst ds => cases h; cases i with | lst h1 h2 => exact .inl ⟨_, SqL.of (R.sub _ _ h1), by rw [h2.isEmpty]⟩
  | ro ds => cases h; cases i with | ro h1 h2 => exact .inl ⟨_, ex_l R.sub h1, by rw [h2.isEmpty]⟩
  | cell a =>
    cases i
    unfold dTru at h
    cases e : C a with
    | none => simp only [e] at h; cases h
    | some o =>
      cases o with
      | lst ds =>
        simp only [e] at h; cases h
        obtain ⟨_, _, vs, h1, h2⟩ := R.own a _ e
        exact .inl ⟨_, SqL.of h1, by rw [h2.isEmpty]⟩
      | dK kvs =>
        simp only [e] at h; cases h
        obtain ⟨_, _, vs, h1, h2⟩ := R.own a _ e
        refine .inr (.inr ⟨_, h1, ?_⟩)
        cases h2 <;> rfl
      | _ => simp only [e] at h; cases h
  | ty n => cases h
/-- a value's truth as a test -/
def dTr (t : DTE) (σ : DSt) (C : CMap) (Q : Bool → CMap → Prop) : Prop := t σ C fun d C1 => orF (dTru C1 d) fun b => Q b C1
theorem t_tr (ha : DE X a da) (he : ∀ whole, isTrue a X.env whole = (do let v ← whole; standAt a.pos; holding [v] (truthy v)) := by intro _; rfl) : DT X a (dTr da) :=
  DT.of (pt_truth ha he) fun G F H C σV σ Q QV R L q g => sim_upE G F H C σV σ _ _ R L q fun v d F' H' C' e R' i h0 => let ⟨b, hb, q'⟩ := orF_e h0; ⟨b, tru_sim R' i hb, g b F' H' C' e R' q'⟩
def dAnd (t u : DTT) (σ : DSt) (C : CMap) (Q : Bool → CMap → Prop) : Prop := t σ C fun c C1 => bcase c (u σ C1 Q) (Q false C1)
def dOr (t u : DTT) (σ : DSt) (C : CMap) (Q : Bool → CMap → Prop) : Prop := t σ C fun c C1 => bcase c (Q true C1) (u σ C1 Q)
def dNot (t : DTT) (σ : DSt) (C : CMap) (Q : Bool → CMap → Prop) : Prop := t σ C fun c C1 => Q (!c) C1
variable {ta tb : DTT} {rest : List Expr}
theorem w_and1 (ha : DT X a ta) : DW X (.BoolOp .And [a] pos) ta := pw_and1 ha
theorem w_or1 (ha : DT X a ta) : DW X (.BoolOp .Or [a] pos) ta := pw_or1 ha
theorem w_and (ha : DT X a ta) (hb : DW X (.BoolOp .And (b :: rest) pos) tb) : DW X (.BoolOp .And (a :: b :: rest) pos) (dAnd ta tb) :=
  DW.of (pw_and ha hb) fun G F H C σV σ Q QV R L q g => sim_upT G F H C σV σ _ _ R L q fun c F' H' C' e R' q' => by
    cases c with
    | false => rw [if_neg Bool.false_ne_true]; exact g _ F' H' C' e R' q'
    | true => rw [if_pos rfl]; exact sim_upT G F' H' C' σV σ _ _ R' (L.mono e) q' fun b F2 H2 C2 e2 R2 q2 => g b F2 H2 C2 (e.trans e2) R2 q2
theorem w_or (ha : DT X a ta) (hb : DW X (.BoolOp .Or (b :: rest) pos) tb) : DW X (.BoolOp .Or (a :: b :: rest) pos) (dOr ta tb) :=
  DW.of (pw_or ha hb) fun G F H C σV σ Q QV R L q g => sim_upT G F H C σV σ _ _ R L q fun c F' H' C' e R' q' => by
    cases c with
    | true => rw [if_pos rfl]; exact g _ F' H' C' e R' q'
    | false => rw [if_neg Bool.false_ne_true]; exact sim_upT G F' H' C' σV σ _ _ R' (L.mono e) q' fun b F2 H2 C2 e2 R2 q2 => g b F2 H2 C2 (e.trans e2) R2 q2
theorem t_w (h : DW X a ta) : DT X a ta := PW.pt h
theorem t_not (ha : DT X a ta) : DT X (.UnaryOp .Not a pos) (dNot ta) :=
  DT.of (pt_not ha) fun G F H C σV σ Q QV R L q g => sim_upT G F H C σV σ _ _ R L q fun c F' H' C' e R' q' => g _ F' H' C' e R' q'
/-- as values, by truth -/
def dAndV (t u : DTE) (σ : DSt) (C : CMap) (Q : DQ) : Prop := t σ C fun x C1 => orF (dTru C1 x) fun b => bcase b (u σ C1 Q) (Q x C1)
def dOrV (t u : DTE) (σ : DSt) (C : CMap) (Q : DQ) : Prop := t σ C fun x C1 => orF (dTru C1 x) fun b => bcase b (Q x C1) (u σ C1 Q)
theorem e_one {bop} (ha : DE X a da) : DE X (.BoolOp bop [a] pos) da := pe_one ha
theorem e_and (ha : DE X a da) (hb : DE X (.BoolOp .And (b :: rest) pos) db) : DE X (.BoolOp .And (a :: b :: rest) pos) (dAndV da db) :=
  DE.of (pe_andT ha hb) fun G F H C σV σ Q QV R L q g => sim_upE G F H C σV σ _ _ R L q fun v d F' H' C' e R' i h0 => by
    obtain ⟨c, hc, q'⟩ := orF_e h0
    refine ⟨c, tru_sim R' i hc, ?_⟩
    cases c with
    | false => rw [if_neg Bool.false_ne_true]; exact g _ _ F' H' C' e R' i q'
    | true => rw [if_pos rfl]; exact sim_upE G F' H' C' σV σ _ _ R' (L.mono e) q' (g.mono e)
theorem e_or (ha : DE X a da) (hb : DE X (.BoolOp .Or (b :: rest) pos) db) : DE X (.BoolOp .Or (a :: b :: rest) pos) (dOrV da db) :=
  DE.of (pe_orT ha hb) fun G F H C σV σ Q QV R L q g => sim_upE G F H C σV σ _ _ R L q fun v d F' H' C' e R' i h0 => by
    obtain ⟨c, hc, q'⟩ := orF_e h0
    refine ⟨c, tru_sim R' i hc, ?_⟩
    cases c with
    | true => rw [if_pos rfl]; exact g _ _ F' H' C' e R' i q'
    | false => rw [if_neg Bool.false_ne_true]; exact sim_upE G F' H' C' σV σ _ _ R' (L.mono e) q' (g.mono e)
def dNotV (t : DTE) (σ : DSt) (C : CMap) (Q : DQ) : Prop := t σ C fun x C1 => orF (dTru C1 x) fun b => Q (.bl (!b)) C1
theorem e_not (ha : DE X a da) : DE X (.UnaryOp .Not a pos) (dNotV da) :=
  DE.of (pe_notT ha) fun G F H C σV σ Q QV R L q g => sim_upE G F H C σV σ _ _ R L q fun v d F' H' C' e R' i h0 => let ⟨c, hc, q'⟩ := orF_e h0
    ⟨c, tru_sim R' i hc, g _ _ F' H' C' e R' (.bl _) q'⟩
def dIfE (t : DTT) (ta tb : DTE) (σ : DSt) (C : CMap) (Q : DQ) : Prop := t σ C fun c C1 => bcase c (ta σ C1 Q) (tb σ C1 Q)
theorem e_if (hc : DT X c ta) (ha : DE X a da) (hb : DE X b db) : DE X (.IfExp c a b pos) (dIfE ta da db) :=
  DE.of (pe_ifExp hc ha hb) fun G F H C σV σ Q QV R L q g => sim_upT G F H C σV σ _ _ R L q fun c F' H' C' e R' q' => by
    cases c with
    | true => rw [if_pos rfl]; exact sim_upE G F' H' C' σV σ _ _ R' (L.mono e) q' (g.mono e)
    | false => rw [if_neg Bool.false_ne_true]; exact sim_upE G F' H' C' σV σ _ _ R' (L.mono e) q' (g.mono e)
end
end DL

namespace DL
open PySem PySem.Spec PyProof.Rows L2
variable {X : Cx} {K : PySem.W.Frag}
section
variable {e o a b : Expr} {es : List Expr} {da db d0 : DTE} {dt : DTA} {pos : Pos}

/-! ### argument lists, displays -/
def dNil (_ : DSt) (C : CMap) (Q : List D → CMap → Prop) : Prop := Q [] C
def dCons (ta : DTE) (tr : DTA) (σ : DSt) (C : CMap) (Q : List D → CMap → Prop) : Prop := ta σ C fun x C1 => tr σ C1 fun xs C2 => Q (x :: xs) C2
theorem a_nil : DA X [] dNil := DA.of pa_nil fun G F H C σV σ Q QV R L q g => g [] [] F H C (Ex.refl F) R .nil q
theorem a_cons (ha : DE X e da) (hr : DA X es dt) (hs : starEach (e :: es) X.env = (false, eval e X.env) :: starEach es X.env := by rfl) : DA X (e :: es) (dCons da dt) :=
  DA.of (pa_cons ha hr hs) fun G F H C σV σ Q QV R L q g => sim_upE G F H C σV σ _ _ R L q fun v d F1 H1 C1 e1 R1 i1 q1 =>
    sim_upA G F1 H1 C1 σV σ _ _ R1 (L.mono e1) q1 fun vs ds F2 H2 C2 e2 R2 i2 q2 => g _ _ F2 H2 C2 (e1.trans e2) R2 (.cons (Is.mono e2 _ _ i1) i2) q2
def dTup (t : DTA) (σ : DSt) (C : CMap) (Q : DQ) : Prop := t σ C fun ds C1 => ds.length ≤ 16777216 ∧ Q (.tup ds) C1
def dLst (k : Bool) (t : DTA) (σ : DSt) (C : CMap) (Q : DQ) : Prop := t σ C fun ds C1 => ds.length ≤ 16777216 ∧ mk k ds C1 Q
theorem e_tup {x1} (h : DA X es dt) : DE X (.Tuple es x1 pos) (dTup dt) :=
  DE.of (pe_tup h) fun G F H C σV σ Q QV R L q g => sim_upA G F H C σV σ _ _ R L q fun vs ds F1 H1 C1 e1 R1 i1 ⟨hl, q1⟩ =>
    ⟨by rw [sizeLine_eq, i1.length]; exact hl, fun p hp => tup_ok R1 hp i1 q1 (g.mono e1)⟩
theorem e_lst (k : Bool) (h : DA X es dt) : DE X (.List es pos) (dLst k dt) :=
  DE.of (pe_lst h) fun G F H C σV σ Q QV R L q g => sim_upA G F H C σV σ _ _ R L q fun vs ds F1 H1 C1 e1 R1 i1 ⟨hl, q1⟩ =>
    ⟨by rw [sizeLine_eq, i1.length]; exact hl, fun p hp => mk_ok k R1 hp i1 q1 (g.mono e1)⟩
/-- what is made is frozen -/
@[irreducible] def frzC (p : Addr) (C : CMap) (Q : DQ) : Prop := match C p with
  | some (.lst xs) => Q (.lst xs) (cdel C p)
  | _ => Q (.cell p) C
def frz (d : D) (C : CMap) (Q : DQ) : Prop := match d with
  | .cell p => frzC p C Q
  | d => Q d C
theorem frz_cell {C : CMap} {p : Addr} {xs : List D} {Q : DQ} (h : C p = some (.lst xs)) : frz (.cell p) C Q = Q (.lst xs) (cdel C p) := by unfold frz frzC; simp only [h]
theorem frz_new {C : CMap} {p : Addr} {xs : List D} {Q : DQ} (h : C p = none) : frz (.cell p) (cset C p (.lst xs)) Q = Q (.lst xs) C := by rw [frz_cell cset_same, cdel_cset h]
theorem frzC_i {C : CMap} {p : Addr} {xs : List D} {Q : DQ} (h : C p = some (.lst xs)) (q : Q (.lst xs) (cdel C p)) : frzC p C Q := (frz_cell h).mpr q
theorem frzC_n {C : CMap} {p : Addr} {xs : List D} {Q : DQ} (h : C p = none) (q : Q (.lst xs) C) : frzC p (cset C p (.lst xs)) Q := (frz_new h).mpr q
theorem frz_non {C : CMap} {Q : DQ} : frz .non C Q = Q .non C := rfl
theorem frz_int {C : CMap} {Q : DQ} {i : Int} : frz (.int i) C Q = Q (.int i) C := rfl
theorem frz_bl {C : CMap} {Q : DQ} {i : Bool} : frz (.bl i) C Q = Q (.bl i) C := rfl
theorem frz_str {C : CMap} {Q : DQ} {i : Str} : frz (.str i) C Q = Q (.str i) C := rfl
theorem frz_tup {C : CMap} {Q : DQ} {i : List D} : frz (.tup i) C Q = Q (.tup i) C := rfl
theorem frz_lst {C : CMap} {Q : DQ} {i : List D} : frz (.lst i) C Q = Q (.lst i) C := rfl
def dFrz (t : DTE) (σ : DSt) (C : CMap) (Q : DQ) : Prop := t σ C fun d C1 => frz d C1 Q
theorem frz_ok {G F H : Hp} {C : CMap} {v : V} {d : D} {Q : DQ} {QV : VK} (R : Rel K G F H C) (i : Is K F v d) (q : frz d C Q) (g : GoE K G F Q QV) : QV v H := by
  cases d with
  | cell p =>
    cases i
    unfold frz at q
    unfold frzC at q
    cases e : C p with
    | none => simp only [e] at q; exact g _ _ F H C (Ex.refl F) R (.cell p) q
    | some o =>
      cases o with
      | lst xs =>
        simp only [e] at q
        obtain ⟨vs, h1, R1, e1, i1⟩ := R.frz e
        exact g _ _ _ H _ e1 R1 i1 q
      | _ => simp only [e] at q; exact g _ _ F H C (Ex.refl F) R (.cell p) q
  | _ => exact g _ _ F H C (Ex.refl F) R i q
theorem e_frz (h : DE X e da) : DE X e (dFrz da) :=
  DE.of h fun G F H C σV σ Q QV R L q g => sim_upE G F H C σV σ _ _ R L q fun v d F1 H1 C1 e1 R1 i1 q1 => frz_ok R1 i1 q1 (g.mono e1)

/-! ### subscripts, slices -/
def drIx : DR2 := fun x y C Q => match x, y with
  | .str z, .int i => z.length ≤ 16777216 ∧ orF (atI z.cps.toList i) fun c => Q (.str ⟨#[c]⟩) C
  | x, .int i => orF (asQ C x) fun ds => orF (atI ds i) fun d => Q d C
  | _, _ => False
theorem IsL.atI {F : Hp} {vs : List V} {ds : List D} {i : Int} {d : D} (h : IsL K F vs ds) (e : atI ds i = some d) : ∃ v, L2.atI vs i = some v ∧ Is K F v d := by
  unfold L2.atI at e ⊢
  rw [h.length]
  cases q : ixN ds.length i with
  | none => rw [q] at e; cases e
  | some j =>
    rw [q] at e
    exact h.get e
theorem sim_ix : SimR2 K (rIx K) drIx := by
  intro G F H C x y dx dy Q QV R ix iy h gq
  have main : ∀ i, dy = .int i → (orF (asQ C dx) fun ds => orF (atI ds i) fun d => Q d C) → rIx K x y H QV := by
    intro i hi h0; subst hi; obtain ⟨ds, h1, h0⟩ := orF_e h0; obtain ⟨d, h2, q⟩ := orF_e h0
    cases iy
    obtain ⟨p, vs, rfl, hs, il⟩ := asQ_ok R ix h1
    obtain ⟨v, hv, iv⟩ := il.atI h2
    rcases hs with hs | hs
    · exact .inl ⟨p, vs, i, v, rfl, rfl, hs, hv, gq _ _ F H C (Ex.refl F) R iv q⟩
    · exact .inr (.inl ⟨p, vs, i, v, rfl, rfl, hs, hv, gq _ _ F H C (Ex.refl F) R iv q⟩)
  cases dy with
  | int i =>
    cases dx with
    | str z =>
      cases ix; cases iy
      obtain ⟨h1, h0⟩ := h; obtain ⟨c, h2, q⟩ := orF_e h0
      exact .inr (.inr ⟨z, i, c, rfl, rfl, by rw [sizeLine_eq]; exact h1, h2, gq _ _ F H C (Ex.refl F) R (.str _) q⟩)
    | _ => exact main i rfl h
  | _ => cases dx <;> exact absurd h (fun z => z)
def dIx : DTE → DTE → DTE := dBin drIx
theorem e_ix (ha : DE X a da) (hb : DE X b db) (hs : PlainIx b := by exact fun _ _ => rfl) : DE X (.Subscript a b pos) (dIx da db) :=
  DE.of (pe_ix ix_seq ha hb hs) (sim_bin sim_ix sim_upE sim_upE)

abbrev DTO := DSt → CMap → (Option Int → CMap → Prop) → Prop
def upO (K : PySem.W.Frag) (t : DTO) : TO := fun σV H QV => ∃ G F C σ, ∃ Q : Option Int → CMap → Prop, Rel K G F H C ∧ Loc K F σV σ ∧ t σ C Q ∧ ∀ b F' H' C', Ex F F' → Rel K G F' H' C' → Q b C' → QV b H'
def SimO (K : PySem.W.Frag) (te : TO) (t : DTO) : Prop := ∀ G F H C σV σ (Q : Option Int → CMap → Prop) (QV : Option Int → Hp → Prop), Rel K G F H C → Loc K F σV σ → t σ C Q →
  (∀ b F' H' C', Ex F F' → Rel K G F' H' C' → Q b C' → QV b H') → te σV H QV
def DO (X : Cx) (e : Option Expr) (t : DTO) : Prop := PO X e (upO X.K t)
theorem sim_upO {t : DTO} : SimO K (upO K t) t := fun G F H C σV σ Q QV R L h g => ⟨G, F, C, σ, Q, R, L, h, g⟩
theorem DO.of {e : Option Expr} {te : TO} {t : DTO} (p : PO X e te) (s : SimO X.K te t) : DO X e t :=
  ⟨fun pins st σ H Q I ⟨G, F, C, σ', Q', R, L, h, g⟩ => p.run pins st σ H Q I (s G F H C σ σ' Q' Q R L h g)⟩
def dNoP (_ : DSt) (C : CMap) (Q : Option Int → CMap → Prop) : Prop := Q none C
def dP (t : DTE) (σ : DSt) (C : CMap) (Q : Option Int → CMap → Prop) : Prop := t σ C fun d C1 => isI d fun i => Q (some i) C1
theorem o_none : DO X none dNoP := DO.of po_none fun G F H C σV σ Q QV R L q g => g none F H C (Ex.refl F) R q
theorem o_some (h : DE X e da) : DO X (some e) (dP da) := DO.of (po_some h) fun G F H C σV σ Q QV R L q g =>
  sim_upE G F H C σV σ _ _ R L q fun v d F1 H1 C1 e1 R1 i1 h0 => by obtain ⟨i, hi, q1⟩ := isI_e h0; subst hi; cases i1; exact ⟨i, rfl, g _ F1 H1 C1 e1 R1 q1⟩
/-- xs[lo:hi] -/
def cutD {α : Type} (xs : List α) (lo hi : Option Int) : List α := (xs.drop (HT.sIx xs.length 0 lo)).take (HT.sIx xs.length xs.length hi - HT.sIx xs.length 0 lo)
theorem IsL.cut {F : Hp} {vs : List V} {ds : List D} (h : IsL K F vs ds) (lo hi : Option Int) : IsL K F (cutV vs lo hi) (cutD ds lo hi) := by
  unfold cutV cutD
  rw [h.length]
  exact (h.drop _).take _
def drSl (k : Bool) (x : D) (lo hi : Option Int) (C : CMap) (Q : DQ) : Prop := match x with
  | .str z => z.length ≤ 16777216 ∧ Q (.str (cutS z lo hi)) C
  | .tup ds => Q (.tup (cutD ds lo hi)) C
  | x => orF (asR C x) fun ds => mk k (cutD ds lo hi) C Q
def rSlA3 (K : PySem.W.Frag) : V → Option Int → Option Int → Hp → VK → Prop := fun x lo hi H Q => rSlL K x lo hi H Q ∨ rSlS x lo hi H Q ∨ rSlA K x lo hi H Q
theorem sl_all : SlR X (rSlA3 X.K) := sl_list.or (sl_str.or sl_tupA)
theorem cutD_whole {α : Type} {xs : List α} {lo hi : Option Int} (h : HT.sIx xs.length 0 lo = 0 ∧ HT.sIx xs.length xs.length hi = xs.length) : cutD xs lo hi = xs := by
  unfold cutD; rw [h.1, h.2, List.drop_zero, Nat.sub_zero, List.take_length]
theorem sim_sl (k : Bool) {G F H : Hp} {C : CMap} {v : V} {d : D} {lo hi : Option Int} {Q : DQ} {QV : VK} (R : Rel K G F H C) (i : Is K F v d) (h : drSl k d lo hi C Q) (g : GoE K G F Q QV) : rSlA3 K v lo hi H QV := by
  have main : (orF (asR C d) fun ds => mk k (cutD ds lo hi) C Q) → rSlA3 K v lo hi H QV := by
    intro h0; obtain ⟨ds, h1, q⟩ := orF_e h0
    obtain ⟨p, vs, rfl, hs, il⟩ := asR_ok R i h1
    exact .inl ⟨p, vs, rfl, hs, fun p hp => mk_ok k R hp (il.cut lo hi) q g⟩
  cases d with
  | str z => cases i; exact .inr (.inl ⟨z, rfl, by rw [sizeLine_eq]; exact h.1, g _ _ F H C (Ex.refl F) R (.str _) h.2⟩)
  | tup ds =>
    cases i with | tup h1 h2 =>
    rename_i p vs
    refine .inr (.inr ⟨p, vs, rfl, ex_t R.sub h1, fun hw => ?_, fun hw p hp => ?_⟩)
    · rw [h2.length] at hw
      have q : Q (.tup (cutD ds lo hi)) C := h
      rw [cutD_whole hw] at q
      exact g _ _ F H C (Ex.refl F) R (.tup h1 h2) q
    · exact tup_ok R hp (h2.cut lo hi) h g
  | _ => exact main h
def dSl (k : Bool) (t : DTE) (l h : DTO) (σ : DSt) (C : CMap) (Q : DQ) : Prop := t σ C fun x C1 => l σ C1 fun lo C2 => h σ C2 fun hi C3 => drSl k x lo hi C3 Q
theorem e_sl (k : Bool) {lo hi : Option Expr} {dl dh : DTO} {p2 : Pos} (ha : DE X a da) (hl : DO X lo dl) (hh : DO X hi dh) : DE X (.Subscript a (.Slice lo hi none p2) pos) (dSl k da dl dh) :=
  DE.of (pe_slice sl_all ha hl hh) fun G F H C σV σ Q QV R L q g => sim_upE G F H C σV σ _ _ R L q fun v d F1 H1 C1 e1 R1 i1 q1 =>
    sim_upO G F1 H1 C1 σV σ _ _ R1 (L.mono e1) q1 fun lo F2 H2 C2 e2 R2 q2 =>
      sim_upO G F2 H2 C2 σV σ _ _ R2 (L.mono (e1.trans e2)) q2 fun hi F3 H3 C3 e3 R3 q3 => sim_sl k R3 (Is.mono (e2.trans e3) _ _ i1) q3 (g.mono ((e1.trans e2).trans e3))

/-! ### calls -/
abbrev DSpec := List D → CMap → DQ → Prop
def spD (K : PySem.W.Frag) (n : Nat) (S : DSpec) : Sp := fun vs H Q _ => ∃ G F C ds QD, Rel K G F H C ∧ IsL K F vs ds ∧ ds.length = n ∧ S ds C QD ∧ GoE K G F QD Q
def FnD (P : Program) (w : World) (K : PySem.W.Frag) (mg : Str → Option Value) (base : Heap) (k : Nat) (f : Addr) (fd : FuncData) (ps : List Str) (S : DSpec) : Prop := FnOk P w K mg base CX0 k f fd ps (spD K ps.length S)
theorem FnD.imp {P : Program} {w : World} {mg : Str → Option Value} {base : Heap} {k : Nat} {f : Addr} {fd : FuncData} {ps : List Str} {S S' : DSpec} (F : FnD P w K mg base k f fd ps S)
    (h : ∀ ds C Q, ds.length = ps.length → S' ds C Q → S ds C Q) : FnD P w K mg base k f fd ps S' :=
  FnOk.imp F fun vs H Q E ⟨G, F, C, ds, QD, R, i, hl, hs, g⟩ => ⟨G, F, C, ds, QD, R, i, hl, h ds C QD hl hs, g⟩
def dCall (S : DSpec) (t : DTA) (σ : DSt) (C : CMap) (Q : DQ) : Prop := t σ C fun ds C1 => S ds C1 Q
section
variable {k : Nat} {f : Addr} {fd : FuncData} {ps : List Str} {S : DSpec} {x : Str} {p : Pos}
theorem sim_call {ta : TA} {E : XK} {n : Nat} (hn : ∀ ds C Q, S ds C Q → ds.length = n) (ha : SimA K ta dt) : SimE K (tCall (spD K n S) [] E ta) (dCall S dt) := fun G F H C σV σ Q QV R L q g =>
  ha G F H C σV σ _ _ R L q fun vs ds F1 H1 C1 e1 R1 i1 q1 => ⟨G, F1, C1, ds, Q, R1, by rw [List.append_nil]; exact i1, hn _ _ _ q1, q1, g.mono e1⟩
/-- S told with the number of arguments -/
def dCallN (n : Nat) (S : DSpec) (t : DTA) (σ : DSt) (C : CMap) (Q : DQ) : Prop := t σ C fun ds C1 => ds.length = n ∧ S ds C1 Q
theorem e_call (F : FnD X.prog X.w X.K X.mg X.base k f fd ps S) (hr : Room k X.A) (hg : Gl X x) (hm : X.mg x = some (.ref f)) (hk : PySem.W.keepIn X.K (.ref f) = true) (hb : Binds X.K fd ps [])
    (ha : DA X (e :: es) dt) (hdb : (x == ("__debug__" : Str)) = false := by decide) (he : starEach (e :: es) X.env = (false, eval e X.env) :: starEach es X.env := by rfl) (hpl : (backTo pos (starEach es X.env)).any (·.1) = false := by rfl) :
    DE X (.Call (.Name x p) (e :: es) [] pos) (dCallN ps.length S dt) :=
  DE.of (pe_call F hr hg hm hk hb .nil pass0 ha hdb he hpl) fun G F H C σV σ Q QV R L q g =>
    sim_upA G F H C σV σ _ _ R L q fun vs ds F1 H1 C1 e1 R1 i1 ⟨hn, q1⟩ => ⟨G, F1, C1, ds, Q, R1, by rw [List.append_nil]; exact i1, hn, q1, g.mono e1⟩
theorem e_call0 (F : FnD X.prog X.w X.K X.mg X.base k f fd ps S) (hr : Room k X.A) (hg : Gl X x) (hm : X.mg x = some (.ref f)) (hk : PySem.W.keepIn X.K (.ref f) = true) (hb : Binds X.K fd ps [])
    (hdb : (x == ("__debug__" : Str)) = false := by decide) : DE X (.Call (.Name x p) [] [] pos) (dCallN ps.length S dNil) :=
  DE.of (pe_call0 F hr hg hm hk hb .nil pass0 hdb) fun G F H C σV σ Q QV R L ⟨hn, q⟩ g => ⟨G, F, C, [], Q, R, .nil, hn, q, g⟩
end
/-- built-ins by values -/
abbrev DRC := List D → CMap → DQ → Prop
def SimRC (K : PySem.W.Frag) (r : List V → Hp → VK → Prop) (t : DRC) : Prop := ∀ G F H C vs ds Q QV, Rel K G F H C → IsL K F vs ds → t ds C Q → GoE K G F Q QV → r vs H QV
structure BR (X : Cx) (f : Value) (t : DRC) : Prop where
  ex : ∃ r, CallR X f r ∧ SimRC X.K r t
def dB (r : DRC) (t : DTA) (σ : DSt) (C : CMap) (Q : DQ) : Prop := t σ C fun ds C1 => r ds C1 Q
theorem sim_b {r : List V → Hp → VK → Prop} {t : DRC} {ta : TA} (hr : SimRC K r t) (ha : SimA K ta dt) : SimE K (tCB r ta) (dB t dt) := fun G F H C σV σ Q QV R L q g =>
  ha G F H C σV σ _ _ R L q fun vs ds F1 H1 C1 e1 R1 i1 q1 => hr G F1 H1 C1 vs ds _ _ R1 i1 q1 (g.mono e1)
theorem e_bf {id : String} {t : DRC} {x : Str} {p : Pos} (h : BR X (.builtin id) t) (hm : X.mg x = none) (ha : DA X (e :: es) dt) (hg : Gl X x := by rfl) (hv : bootBuiltins x = some (.builtin id) := by decide +kernel) (hn : x ≠ "__name__" := by decide) (hdb : (x == ("__debug__" : Str)) = false := by decide)
    (he : starEach (e :: es) X.env = (false, eval e X.env) :: starEach es X.env := by rfl) (hpl : (backTo pos (starEach es X.env)).any (·.1) = false := by rfl) : DE X (.Call (.Name x p) (e :: es) [] pos) (dB t dt) :=
  let ⟨r, hc, hs⟩ := h.ex
  DE.of (pe_callB hc hg hm hv ha hn hdb he hpl) (sim_b hs sim_upA)
theorem e_bt {T : String} {t : DRC} {x : Str} {p : Pos} (h : BR X (.type T) t) (hm : X.mg x = none) (ha : DA X (e :: es) dt) (hg : Gl X x := by rfl) (hv : bootBuiltins x = some (.type T) := by decide +kernel) (hn : x ≠ "__name__" := by decide) (hdb : (x == ("__debug__" : Str)) = false := by decide)
    (he : starEach (e :: es) X.env = (false, eval e X.env) :: starEach es X.env := by rfl) (hpl : (backTo pos (starEach es X.env)).any (·.1) = false := by rfl) : DE X (.Call (.Name x p) (e :: es) [] pos) (dB t dt) :=
  let ⟨r, hc, hs⟩ := h.ex
  DE.of (pe_callTy hc hg hm hv ha hn hdb he hpl) (sim_b hs sim_upA)
/-- a built-in's method -/
abbrev DRM := D → List D → CMap → DQ → Prop
def SimRM (K : PySem.W.Frag) (T : String) (r : V → List V → Hp → VK → Prop) (t : DRM) : Prop := ∀ G F H C v d vs ds Q QV, Rel K G F H C → Is K F v d → IsL K F vs ds → t d ds C Q → GoE K G F Q QV → r v vs H QV
/-- what the receiver is, ahead of the arguments -/
def dTy (T : String) (C : CMap) (d : D) : Prop := (T = "str" ∧ ∃ s, d = .str s) ∨ (T = "list" ∧ ∃ xs, asL C d = some xs) ∨ (T = "dict" ∧ ∃ a, d = .cell a ∧ ((∃ kvs, C a = some (.dK kvs)) ∨ ∃ kvs, C a = some (.dT kvs)))
theorem dTy_ok {G F H : Hp} {C : CMap} {v : V} {d : D} {T : String} (R : Rel K G F H C) (i : Is K F v d) (h : dTy T C d) : tyV K T v H := by
  rcases h with ⟨rfl, s, rfl⟩ | ⟨rfl, xs, h⟩ | ⟨rfl, a, rfl, h⟩
  · cases i; rfl
  · obtain ⟨p, vs, rfl, hs, _⟩ := asL_ok R i h
    exact .inl ⟨rfl, vs, SqL.of hs⟩
  · cases i
    refine .inr (.inr (.inl ⟨rfl, ?_⟩))
    rcases h with ⟨kvs, h⟩ | ⟨kvs, h⟩
    · obtain ⟨_, _, vs, h1, _⟩ := R.own a _ h; exact .inl ⟨_, h1⟩
    · obtain ⟨_, _, vs, h1, _⟩ := R.own a _ h; exact .inr ⟨_, h1⟩
theorem dTy_str {C : CMap} {s : Str} : dTy "str" C (.str s) := .inl ⟨rfl, s, rfl⟩
theorem dTy_lst {C : CMap} {d : D} {xs : List D} (h : asL C d = some xs) : dTy "list" C d := .inr (.inl ⟨rfl, xs, h⟩)
def dM (T : String) (r : DRM) (to : DTE) (t : DTA) (σ : DSt) (C : CMap) (Q : DQ) : Prop := to σ C fun x C1 => dTy T C1 x ∧ t σ C1 fun ds C2 => r x ds C2 Q
def dM0 (T : String) (r : DRM) (to : DTE) (σ : DSt) (C : CMap) (Q : DQ) : Prop := to σ C fun x C1 => dTy T C1 x ∧ r x [] C1 Q
structure MR (X : Cx) (T : String) (name : Str) (t : DRM) : Prop where
  ex : ∃ id r, PlainAttrs T ∧ Slot T name id ∧ typeOf (.builtin id) = pure (.type "method_descriptor") ∧ MtR X id r ∧ SimRM X.K T r t
variable {T : String} {name : Str} {r : DRM} {apos : Pos}
theorem e_m (h : MR X T name r) (ho : DE X o d0) (ha : DA X (e :: es) dt)
    (hbase : attributeBase o name X.env (eval o X.env) = eval o X.env := by rfl)
    (hfew : ((backTo pos (starEach (e :: es) X.env)).all (fun x => !x.1) && (backToKw pos (keywordEach [] X.env)).all (fun x => x.1.isSome)
      && decide ((e :: es).length + ([] : List Keyword).length + (if ([] : List Keyword).isEmpty then 0 else 1) < 30)) = true := by rfl)
    (hline : (apos.endLine == pos.line) = true := by rfl) (hs : starEach (e :: es) X.env = (false, eval e X.env) :: starEach es X.env := by rfl) (hplain : (backTo pos (starEach es X.env)).any (·.1) = false := by rfl) :
    DE X (.Call (.Attribute o name apos) (e :: es) [] pos) (dM T r d0 dt) :=
  let ⟨id, rr, pa, sl, hty, hm, hsim⟩ := h.ex
  DE.of (pe_bm pa sl hty hm ho ha hbase hfew hline hs hplain) fun G F H C σV σ Q QV R L q g => sim_upE G F H C σV σ _ _ R L q fun v d F1 H1 C1 e1 R1 i1 ⟨ty, q1⟩ =>
    ⟨dTy_ok R1 i1 ty, sim_upA G F1 H1 C1 σV σ _ _ R1 (L.mono e1) q1 fun vs ds F2 H2 C2 e2 R2 i2 q2 => hsim G F2 H2 C2 v d vs ds _ _ R2 (Is.mono e2 _ _ i1) i2 q2 (g.mono (e1.trans e2))⟩
theorem e_m0 (h : MR X T name r) (ho : DE X o d0) (hbase : attributeBase o name X.env (eval o X.env) = eval o X.env := by rfl) (hline : (apos.endLine == pos.line) = true := by rfl) :
    DE X (.Call (.Attribute o name apos) [] [] pos) (dM0 T r d0) :=
  let ⟨id, rr, pa, sl, hty, hm, hsim⟩ := h.ex
  DE.of (pe_bm0 pa sl hty hm ho hbase hline) fun G F H C σV σ Q QV R L q g => sim_upE G F H C σV σ _ _ R L q fun v d F1 H1 C1 e1 R1 i1 ⟨ty, q1⟩ =>
    ⟨dTy_ok R1 i1 ty, hsim G F1 H1 C1 v d [] [] _ _ R1 i1 .nil q1 (g.mono e1)⟩
end
end DL

namespace DL
open PySem PySem.Spec PyProof.Rows L2
variable {X : Cx} {K : PySem.W.Frag}

/-! ### targets -/
abbrev DTG := D → DSt → CMap → (DSt → CMap → Prop) → Prop
abbrev DTGs := List D → DSt → CMap → (DSt → CMap → Prop) → Prop
/-- behind an assignment: the slots at is alone have changed -/
def GoG (K : PySem.W.Frag) (is : List Nat) (σV : L2.St) (G F : Hp) (Q : DSt → CMap → Prop) (QV : L2.St → Hp → Prop) : Prop :=
  ∀ F' H' C' σV' σ', Ex F F' → Rel K G F' H' C' → Loc K F' σV' σ' → (∀ vs : List Nat, (∀ i ∈ is, i ∈ vs) → wipe σV' vs = wipe σV vs) → Q σ' C' → QV σV' H'
def SimG (K : PySem.W.Frag) (is : List Nat) (g : TG) (t : DTG) : Prop := ∀ G F H C σV σ v d Q QV, Rel K G F H C → Loc K F σV σ → Is K F v d → t d σ C Q → GoG K is σV G F Q QV → g v σV H QV
def SimGs (K : PySem.W.Frag) (is : List Nat) (g : TGs) (t : DTGs) : Prop := ∀ G F H C σV σ vs ds Q QV, Rel K G F H C → Loc K F σV σ → IsL K F vs ds → t ds σ C Q → GoG K is σV G F Q QV → g vs σV H QV
def upG (K : PySem.W.Frag) (is : List Nat) (t : DTG) : TG := fun v σV H QV => ∃ G F C σ d Q, Rel K G F H C ∧ Loc K F σV σ ∧ Is K F v d ∧ t d σ C Q ∧ GoG K is σV G F Q QV
def upGs (K : PySem.W.Frag) (is : List Nat) (t : DTGs) : TGs := fun vs σV H QV => ∃ G F C σ ds Q, Rel K G F H C ∧ Loc K F σV σ ∧ IsL K F vs ds ∧ t ds σ C Q ∧ GoG K is σV G F Q QV
def DG (X : Cx) (tg : Expr) (is : List Nat) (t : DTG) : Prop := PG X tg (upG X.K is t)
def DGs (X : Cx) (tgs : List Expr) (is : List Nat) (t : DTGs) : Prop := PGs X tgs (upGs X.K is t)
theorem sim_upG {is : List Nat} {t : DTG} : SimG K is (upG K is t) t := fun G F H C σV σ v d Q QV R L i h g => ⟨G, F, C, σ, d, Q, R, L, i, h, g⟩
theorem sim_upGs {is : List Nat} {t : DTGs} : SimGs K is (upGs K is t) t := fun G F H C σV σ v d Q QV R L i h g => ⟨G, F, C, σ, d, Q, R, L, i, h, g⟩
theorem DG.of {tg : Expr} {is : List Nat} {g : TG} {t : DTG} (p : PG X tg g) (s : SimG X.K is g t) : DG X tg is t :=
  ⟨fun pins st σ H v u Q I r ⟨G, F, C, σ', d, Q', R, L, i, h, gg⟩ => p.run pins st σ H v u Q I r (s G F H C σ σ' v d Q' Q R L i h gg)⟩
theorem DGs.of {tg : List Expr} {is : List Nat} {g : TGs} {t : DTGs} (p : PGs X tg g) (s : SimGs X.K is g t) : DGs X tg is t :=
  ⟨fun pins st σ H v u Q I r ⟨G, F, C, σ', d, Q', R, L, i, h, gg⟩ => p.run pins st σ H v u Q I r (s G F H C σ σ' v d Q' Q R L i h gg)⟩
theorem set_none_set {σ : L2.St} {i : Nat} {x y : Option V} : (σ.set i x).set i y = σ.set i y := by rw [List.set_set]
theorem wipe_set_in {i : Nat} {x : Option V} : ∀ (vs : List Nat) (σ : L2.St), i ∈ vs → wipe (σ.set i x) vs = wipe σ vs := by
  have comm : ∀ (vs : List Nat) (σ : L2.St), i ∉ vs → wipe (σ.set i x) vs = (wipe σ vs).set i x := by
    intro vs
    induction vs with
    | nil => intro σ _; rfl
    | cons v vs ih =>
      intro σ h
      have h1 : i ≠ v := fun z => h (by rw [z]; exact List.mem_cons_self)
      have h2 : i ∉ vs := fun z => h (List.mem_cons_of_mem _ z)
      show (wipe (σ.set i x) vs).set v none = ((wipe σ vs).set v none).set i x
      rw [ih σ h2, List.set_comm _ _ h1]
  intro vs
  induction vs with
  | nil => intro σ h; cases h
  | cons v vs ih =>
    intro σ h
    show (wipe (σ.set i x) vs).set v none = (wipe σ vs).set v none
    by_cases hv : i ∈ vs
    · rw [ih σ hv]
    · rcases List.mem_cons.mp h with e | e
      · subst e
        rw [comm vs σ hv, List.set_set]
      · exact absurd e hv
section
variable {pos : Pos} {e o i : Expr} {es : List Expr} {is js : List Nat} {tg : DTG} {tgs : DTGs}
def gN (i : Nat) (d : D) (σ : DSt) (C : CMap) (Q : DSt → CMap → Prop) : Prop := Q (σ.set i (some d)) C
theorem g_n (i : Nat) {x : Str} (hN : X.N.Nodup) (hi : X.N[i]? = some x := by rfl) (hx : L2.Loc X.env.scope x := by first | exact .inl rfl | exact .inr rfl) (hf : X.fn x = true ∨ X.env.scope.names.lookup x = some .local := by first | exact .inl rfl | exact .inr rfl | assumption) : DG X (.Name x pos) [i] (gN i) :=
  DG.of (pg_name hN hi hx hf) fun G F H C σV σ v d Q QV R L iv q g => g F H C _ _ (Ex.refl F) R (L.set i iv) (fun vs hv => wipe_set_in vs σV (hv i List.mem_cons_self)) q
def gsN (ds : List D) (σ : DSt) (C : CMap) (Q : DSt → CMap → Prop) : Prop := match ds with
  | [] => Q σ C
  | _ => False
def gsC (t : DTG) (u : DTGs) (ds : List D) (σ : DSt) (C : CMap) (Q : DSt → CMap → Prop) : Prop := match ds with
  | d :: r => t d σ C fun σ' C' => u r σ' C' Q
  | [] => False
theorem gs_nil : DGs X [] [] gsN := DGs.of pgs_nil fun G F H C σV σ vs ds Q QV R L iv q g => by
  cases iv with
  | cons _ _ => exact q.elim
  | nil => exact ⟨rfl, g F H C _ _ (Ex.refl F) R L (fun _ _ => rfl) q⟩
theorem gs_cons (h1 : DG X e is tg) (h2 : DGs X es js tgs) (hs : (assignEach (e :: es) X.env).map (·.2) = assign e X.env :: (assignEach es X.env).map (·.2) := by rfl) : DGs X (e :: es) (is ++ js) (gsC tg tgs) :=
  DGs.of (pgs_cons h1 h2 hs) fun G F H C σV σ vs ds Q QV R L iv q g => by
    cases iv with
    | nil => exact q.elim
    | cons i1 i2 =>
    refine ⟨_, _, rfl, sim_upG G F H C σV σ _ _ _ _ R L i1 q fun F1 H1 C1 σV1 σ1 e1 R1 L1 w1 q1 => ?_⟩
    exact sim_upGs G F1 H1 C1 σV1 σ1 _ _ _ _ R1 L1 (IsL.mono e1 _ _ i2) q1 fun F2 H2 C2 σV2 σ2 e2 R2 L2 w2 q2 => g F2 H2 C2 σV2 σ2 (e1.trans e2) R2 L2
      (fun ws hw => (w2 ws fun i hi => hw i (List.mem_append_right _ hi)).trans (w1 ws fun i hi => hw i (List.mem_append_left _ hi))) q2
/-- a tuple, a list is unpacked -/
def gT (n : Nat) (t : DTGs) (d : D) (σ : DSt) (C : CMap) (Q : DSt → CMap → Prop) : Prop := orF (asQ C d) fun ds => ds.length = n ∧ t ds σ C Q
theorem PG.or {tg : Expr} {g g' : TG} (h : PG X tg g) (h' : PG X tg g') : PG X tg (fun v σ H Q => g v σ H Q ∨ g' v σ H Q) :=
  ⟨fun pins st σ H v u Q I r q => q.elim (h.run pins st σ H v u Q I r) (h'.run pins st σ H v u Q I r)⟩
theorem g_t (n : Nat) {k : Nat} (hc : X.calm = true) (h : DGs X es is tgs) (hn : (assignEach es X.env).length = n := by rfl) (hst : (assignEach es X.env).findIdx? (·.1) = none := by rfl) : DG X (.Tuple es k pos) is (gT n tgs) :=
  DG.of (PG.or (pg_tup hc h hn hst) (pg_unl hc h hn hst)) fun G F H C σV σ v d Q QV R L iv h0 g => by
    obtain ⟨ds, h1, h2, q⟩ := orF_e h0
    obtain ⟨a, vs, rfl, hs, il⟩ := asQ_ok R iv h1
    have main := sim_upGs G F H C σV σ _ _ _ _ R L il q g
    rcases hs with hs | hs
    · exact .inr ⟨a, vs, rfl, hs, il.length.trans h2, main⟩
    · exact .inl ⟨a, vs, rfl, hs, il.length.trans h2, main⟩
/-- o[i] = .. , by values -/
abbrev DSetR := D → D → D → CMap → (CMap → Prop) → Prop
structure SetR (X : Cx) (t : DSetR) : Prop where
  ex : ∃ r, PSet X r ∧ ∀ G F H C x y z dx dy dz Q QV, Rel X.K G F H C → Is X.K F x dx → Is X.K F y dy → Is X.K F z dz → t dx dy dz C Q → (∀ F' H' C', Ex F F' → Rel X.K G F' H' C' → Q C' → QV H') → r x y z H QV
def gS (t : DSetR) (to ti : DTE) (d : D) (σ : DSt) (C : CMap) (Q : DSt → CMap → Prop) : Prop := to σ C fun x C1 => ti σ C1 fun y C2 => t x y d C2 fun C3 => Q σ C3
theorem g_s {t : DSetR} {to ti : DTE} (h : SetR X t) (ho : DE X o to) (hi : DE X i ti)
    (ha : ∀ v, assign (.Subscript o i pos) X.env v = (do
      let ov ← holding [v] (eval o X.env)
      let iv ← holding [v, ov] (eval i X.env)
      standAt pos
      holding [v, ov, iv] (setItem ov iv v)
      release [v, ov, iv] []) := by intro _; rfl) : DG X (.Subscript o i pos) [] (gS t to ti) :=
  let ⟨r, hp, hs⟩ := h.ex
  DG.of (pg_sub ho hi hp ha) fun G F H C σV σ v d Q QV R L iv q g =>
    sim_upE G F H C σV σ _ _ R L q fun x dx F1 H1 C1 e1 R1 i1 q1 => sim_upE G F1 H1 C1 σV σ _ _ R1 (L.mono e1) q1 fun y dy F2 H2 C2 e2 R2 i2 q2 =>
      hs G F2 H2 C2 x y v dx dy d _ _ R2 (Is.mono e2 _ _ i1) i2 (Is.mono (e1.trans e2) _ _ iv) q2 fun F3 H3 C3 e3 R3 q3 =>
        g F3 H3 C3 σV σ ((e1.trans e2).trans e3) R3 (L.mono ((e1.trans e2).trans e3)) (fun _ _ => rfl) q3
def inL (C : CMap) (x : D) (k : Addr → List D → Prop) : Prop := match x with
  | .cell a => orF (asL C (.cell a)) fun ds => k a ds
  | _ => False
theorem inL_e {C : CMap} {x : D} {k : Addr → List D → Prop} (h : inL C x k) : ∃ a ds, x = .cell a ∧ C a = some (.lst ds) ∧ k a ds := by
  cases x with
  | cell a => obtain ⟨ds, h1, h2⟩ := orF_e (show orF (asL C (.cell a)) (fun ds => k a ds) from h); exact ⟨a, ds, rfl, cell_lst (ds := ds) h1, h2⟩
  | _ => exact h.elim
def drSetL : DSetR := fun x y z C Q => inL C x fun a ds => isI y fun i => orF (ixN ds.length i) fun j => Q (cset C a (.lst (ds.set j z)))
theorem s_lst : SetR X drSetL := ⟨_, set_list, fun G F H C x y z dx dy dz Q QV R ix iy iz h0 g => by
  obtain ⟨a, ds, hx, hc, h0⟩ := inL_e h0
  obtain ⟨i, hy, h0⟩ := isI_e h0
  obtain ⟨j, hj, q⟩ := orF_e h0
  subst hx; subst hy
  cases ix; cases iy
  obtain ⟨f1, g1, vs, h1, il⟩ := R.own a _ hc
  refine ⟨a, vs, i, j, rfl, rfl, h1, by rw [il.length]; exact hj, ?_⟩
  exact g F _ _ (Ex.refl F) (R.put hc (show COk X.K F _ a (.lst (ds.set j dz)) from ⟨_, upd_same, IsL.set iz j il⟩)) q⟩
end

/-! ### statements -/
section
variable {st : Stmt} {rest ba bb : List Stmt} {t u : DTS} {e c : Expr} {da : DTE} {pos : Pos} {dt : DTT}
theorem EndsR.nxt {G F : Hp} {D : DEnds} {DV : Ends} {nx : DSt → CMap → Prop} {nxV : L2.St → Hp → Prop} (g : EndsR K G F D DV)
    (h : ∀ F' H' C' σV' σ', Ex F F' → Rel K G F' H' C' → Loc K F' σV' σ' → nx σ' C' → nxV σV' H') : EndsR K G F { D with nx := nx } { DV with nx := nxV } := ⟨h, g.rt, g.bk, g.ct⟩
def dSeq (t u : DTS) (D : DEnds) (σ : DSt) (C : CMap) : Prop := t { D with nx := u D } σ C
def dNext (D : DEnds) (σ : DSt) (C : CMap) : Prop := D.nx σ C
theorem ss_nil : DSs X [] dNext := DSs.of pss_nil fun G F H C σV σ D DV R L q g => g.nx F H C σV σ (Ex.refl F) R L q
theorem ss_cons (h1 : DS X st t) (h2 : DSs X rest u) : DSs X (st :: rest) (dSeq t u) :=
  DSs.of (pss_cons h1 h2) fun G F H C σV σ D DV R L q g => sim_upS G F H C σV σ _ _ R L q (g.nxt fun F' H' C' σV' σ' e R' L' q' => sim_upS G F' H' C' σV' σ' D DV R' L' q' (g.mono e))
theorem ss_one (h1 : DS X st t) : DSs X [st] t := pss_one h1
/-- a slot's list is frozen -/
def dFz (i : Nat) (u : DTS) (D : DEnds) (σ : DSt) (C : CMap) : Prop := orF (slot σ i) fun d => frz d C fun d' C' => u D (σ.set i (some d')) C'
theorem ss_fz (i : Nat) (h : DSs X rest u) : DSs X rest (dFz i u) :=
  DSs.of h fun G F H C σV σ D DV R L h0 g => by
    obtain ⟨d, hd, q⟩ := orF_e h0
    obtain ⟨v, hv, iv⟩ := L.2 i d (slot_e hd)
    refine frz_ok (QV := fun v' H' => v' = v → upS X.K u DV σV H') R iv q (fun v' d' F' H' C' e R' i' q' hv' => ?_) rfl
    subst hv'
    refine sim_upS G F' H' C' σV _ D DV R' ?_ q' (g.mono e)
    have L' := (L.mono e).set i i'
    have ev : σV.set i (some v') = σV := by
      apply List.ext_getElem?
      intro j
      by_cases hj : i = j
      · subst hj
        have hl : i < σV.length := (List.getElem?_eq_some_iff.mp hv).1
        rw [List.getElem?_set_self hl, hv]
      · rw [List.getElem?_set_ne hj]
    rw [ev] at L'
    exact L'
/-- cells forgotten, slots forgotten -/
def dKeep (ks : List Nat) (u : DTS) (D : DEnds) (σ : DSt) (C : CMap) : Prop := u D ((List.range σ.length).map fun i => if i ∈ ks then (σ[i]?.getD none) else none) C
def dPass (D : DEnds) (σ : DSt) (C : CMap) : Prop := D.nx σ C
theorem s_pass : DS X (.Pass pos) dPass := DS.of ps_pass fun G F H C σV σ D DV R L q g => g.nx F H C σV σ (Ex.refl F) R L q
def dBreak (D : DEnds) (σ : DSt) (C : CMap) : Prop := D.bk σ C
theorem s_break : DS X (.Break pos) dBreak := DS.of ps_break fun G F H C σV σ D DV R L q g => g.bk F H C σV σ (Ex.refl F) R L q
def dContinue (D : DEnds) (σ : DSt) (C : CMap) : Prop := D.ct σ C
theorem s_continue : DS X (.Continue pos) dContinue := DS.of ps_continue fun G F H C σV σ D DV R L q g => g.ct F H C σV σ (Ex.refl F) R L q
def dDo (t : DTE) (D : DEnds) (σ : DSt) (C : CMap) : Prop := t σ C fun _ C1 => D.nx σ C1
theorem s_do (h : DE X e da) (hs : swapsWith e none pos.line X.env = pure false := by rfl) : DS X (.Expr e pos) (dDo da) :=
  DS.of (ps_expr h hs) fun G F H C σV σ D DV R L q g => sim_upE G F H C σV σ _ _ R L q fun v d F1 H1 C1 e1 R1 i1 q1 => g.nx F1 H1 C1 σV σ e1 R1 (L.mono e1) q1
def dRet (t : DTE) (D : DEnds) (σ : DSt) (C : CMap) : Prop := t σ C D.rt
theorem s_ret (h : DE X e da) : DS X (.Return (some e) pos) (dRet da) := DS.of (ps_ret h) fun G F H C σV σ D DV R L q g => sim_upE G F H C σV σ _ _ R L q g.rt
def dRetN (D : DEnds) (_ : DSt) (C : CMap) : Prop := D.rt .non C
theorem s_retN : DS X (.Return none pos) dRetN := DS.of ps_retN fun G F H C σV σ D DV R L q g => g.rt _ _ F H C (Ex.refl F) R .non q
def dIf (t : DTT) (u w : DTS) (D : DEnds) (σ : DSt) (C : CMap) : Prop := t σ C fun b C1 => bcase b (u D σ C1) (w D σ C1)
theorem s_if (hc : DT X c dt) (ha : DSs X ba t) (hb : DSs X bb u) : DS X (.If c ba bb pos) (dIf dt t u) :=
  DS.of (ps_if hc ha hb) fun G F H C σV σ D DV R L q g => sim_upT G F H C σV σ _ _ R L q fun b F1 H1 C1 e1 R1 q1 => by
    cases b with
    | true => rw [if_pos rfl]; exact sim_upS G F1 H1 C1 σV σ D DV R1 (L.mono e1) q1 (g.mono e1)
    | false => rw [if_neg Bool.false_ne_true]; exact sim_upS G F1 H1 C1 σV σ D DV R1 (L.mono e1) q1 (g.mono e1)
/-- target = e -/
def dAsg (t : DTE) (g : DTG) (D : DEnds) (σ : DSt) (C : CMap) : Prop := t σ C fun d C1 => g d σ C1 D.nx
theorem sim_asg {is : List Nat} {te : TE} {tg : TG} {g : DTG} (he : SimE K te da) (hg : SimG K is tg g) : SimS K (tAsg te tg) (dAsg da g) := fun G F H C σV σ D DV R L q gg =>
  he G F H C σV σ _ _ R L q fun v d F1 H1 C1 e1 R1 i1 q1 => hg G F1 H1 C1 σV σ v d _ _ R1 (L.mono e1) i1 q1 fun F2 H2 C2 σV2 σ2 e2 R2 L2 _ q2 => gg.nx F2 H2 C2 σV2 σ2 (e1.trans e2) R2 L2 q2
theorem s_asg {is : List Nat} {tg : Expr} {g : DTG} (he : DE X e da) (hg : DG X tg is g) (hs : swapsWithSole [tg] e pos.line X.env = pure false := by rfl) (hw : swappedStores [tg] e X.env = pure none := by rfl)
    (h1 : (assignEach [tg] X.env).map (·.2) = [assign tg X.env] := by rfl) : DS X (.Assign [tg] e pos) (dAsg da g) := DS.of (ps_asg he hg hs hw h1) (sim_asg sim_upE sim_upG)
def dSet (i : Nat) (t : DTE) (D : DEnds) (σ : DSt) (C : CMap) : Prop := t σ C fun d C1 => D.nx (σ.set i (some d)) C1
theorem s_set (i : Nat) {x : Str} {pos' : Pos} (hN : X.N.Nodup) (he : DE X e da) (hi : X.N[i]? = some x := by rfl) (hx : L2.Loc X.env.scope x := by first | exact .inl rfl | exact .inr rfl) (hs : swapsWith e (some (.Name x pos')) pos.line X.env = pure false := by rfl)
    (hf : X.fn x = true ∨ X.env.scope.names.lookup x = some .local := by first | exact .inl rfl | exact .inr rfl | assumption) : DS X (.Assign [.Name x pos'] e pos) (dSet i da) :=
  DS.of (ps_set hN hi hx he hs hf) fun G F H C σV σ D DV R L q g => sim_upE G F H C σV σ _ _ R L q fun v d F1 H1 C1 e1 R1 i1 q1 => g.nx F1 H1 C1 _ _ e1 R1 ((L.mono e1).set i i1) q1
/-- a, b = x, y -/
def dPar (i j : Nat) (t : DTA) (D : DEnds) (σ : DSt) (C : CMap) : Prop := t σ C fun ds C1 => two2 ds fun v w => D.nx ((σ.set i (some v)).set j (some w)) C1
theorem s_par (i j : Nat) {x y : Str} {a b : Expr} {ta : DTA} {px py pt : Pos} {kt k2 pt2} (hc : X.calm = true) (hN : X.N.Nodup) (ha : DA X [a, b] ta) (hi : X.N[i]? = some x := by rfl) (hj : X.N[j]? = some y := by rfl) (hij : i ≠ j := by decide)
    (hx : X.env.scope.names.lookup x = some .local := by rfl) (hy : X.env.scope.names.lookup y = some .local := by rfl)
    (hw : swappedStores [.Tuple [.Name x px, .Name y py] kt pt] (.Tuple [a, b] k2 pt2) X.env = pure (some [x, y]) := by rfl)
    (hs : swapsWithSole [.Tuple [.Name x px, .Name y py] kt pt] (.Tuple [a, b] k2 pt2) pos.line X.env = pure false := by rfl) :
    DS X (.Assign [.Tuple [.Name x px, .Name y py] kt pt] (.Tuple [a, b] k2 pt2) pos) (dPar i j ta) :=
  DS.of (ps_par hc hN hi hj hij hx hy ha hw hs) fun G F H C σV σ D DV R L q g => sim_upA G F H C σV σ _ _ R L q fun vs ds F1 H1 C1 e1 R1 i1 h0 => by
    obtain ⟨v, w, hd, q1⟩ := two2_e h0
    subst hd
    cases i1 with | cons j1 i2 =>
    cases i2 with | cons j2 i3 =>
    cases i3
    exact ⟨_, _, rfl, g.nx F1 H1 C1 _ _ e1 R1 (((L.mono e1).set i j1).set j j2) q1⟩
/-- x += e -/
structure IpR (X : Cx) (op : Operator) (t : DR2) : Prop where
  ex : ∃ r, PIp X op r ∧ SimR2 X.K r t
def dAug (i : Nat) (r : DR2) (t : DTE) (D : DEnds) (σ : DSt) (C : CMap) : Prop := orF (slot σ i) fun d => t σ C fun y C1 => r d y C1 fun z C2 => D.nx (σ.set i (some z)) C2
theorem s_aug (i : Nat) {x : Str} {op : Operator} {r : DR2} {pos' : Pos} (h : IpR X op r) (hN : X.N.Nodup) (he : DE X e da) (hi : X.N[i]? = some x := by rfl) (hx : L2.Loc X.env.scope x := by first | exact .inl rfl | exact .inr rfl) (hf : X.fn x = true ∨ X.env.scope.names.lookup x = some .local := by first | exact .inl rfl | exact .inr rfl | assumption) :
    DS X (.AugAssign (.Name x pos') op e pos) (dAug i r da) :=
  let ⟨rr, hp, hs⟩ := h.ex
  DS.of (ps_aug hN hi hx he hp hf) fun G F H C σV σ D DV R L h0 g => by
    obtain ⟨d, hd, q⟩ := orF_e h0
    obtain ⟨v, hv, iv⟩ := L.2 i d (slot_e hd)
    exact ⟨v, hv, sim_upE G F H C σV σ _ _ R L q fun y dy F1 H1 C1 e1 R1 i1 q1 => hs G F1 H1 C1 v y d dy _ _ R1 (Is.mono e1 _ _ iv) i1 q1 fun z dz F2 H2 C2 e2 R2 i2 q2 => g.nx F2 H2 C2 _ _ (e1.trans e2) R2 ((L.mono (e1.trans e2)).set i i2) q2⟩
theorem ip_a : IpR X .Add (drI0 fun i j => .int (i + j)) := ⟨_, ip_add, drI0_ok fun _ _ _ => .int _⟩
theorem ip_s : IpR X .Sub (drI0 fun i j => .int (i - j)) := ⟨_, ip_sub, drI0_ok fun _ _ _ => .int _⟩
theorem ip_m : IpR X .Mult (drI (fun i j => mulOk i j) fun i j => .int (i * j)) := ⟨rI CMul fun i j => .int (i * j), fun pins s σ H x y v u Q I rx ry q => iop_mul pins s σ H x y v u Q I rx ry q, drI_ok (fun i j h => h) fun _ _ _ => .int _⟩

/-! ### loops -/
/-- what τ knows, σ knows -/
def Le : DSt → DSt → Prop
  | [], [] => True
  | none :: r, _ :: s => Le r s
  | some d :: r, y :: s => y = some d ∧ Le r s
  | _, _ => False
theorem Le.refl : ∀ σ : DSt, Le σ σ
  | [] => trivial
  | none :: r => Le.refl r
  | some _ :: r => ⟨rfl, Le.refl r⟩
theorem Le.get : ∀ {τ σ : DSt} {i : Nat} {d : D}, Le τ σ → τ[i]? = some (some d) → σ[i]? = some (some d)
  | none :: r, _ :: s, 0, d, _, e => by cases e
  | none :: r, _ :: s, i + 1, d, h, e => Le.get (τ := r) (σ := s) (i := i) h e
  | some x :: r, y :: s, 0, d, h, e => by cases e; rw [h.1]; rfl
  | some x :: r, y :: s, i + 1, d, h, e => Le.get (τ := r) (σ := s) (i := i) h.2 e
theorem Le.length : ∀ {τ σ : DSt}, Le τ σ → τ.length = σ.length
  | [], [], _ => rfl
  | none :: r, _ :: s, h => congrArg (· + 1) (Le.length (τ := r) (σ := s) h)
  | some _ :: r, _ :: s, h => congrArg (· + 1) (Le.length (τ := r) (σ := s) h.2)
  | [], _ :: _, h => h.elim
  | none :: _, [], h => h.elim
  | some _ :: _, [], h => h.elim
theorem Loc.le {F : Hp} {σV : L2.St} {σ τ : DSt} (L : DL.Loc K F σV σ) (h : Le τ σ) : DL.Loc K F σV τ :=
  ⟨L.1.trans h.length.symm, fun i d e => L.2 i d (h.get e)⟩
@[irreducible] def whileI (c : DTT) (tb : DTS) (D : DEnds) (σ : DSt) (C : CMap) : Prop := ∃ W : Nat → DSt → CMap → Prop, (∃ m τ, Le τ σ ∧ W m τ C) ∧ ∀ m σ C, W m σ C →
  ∃ N : DSt → CMap → Prop, (∀ σ' C', N σ' C' → ∃ m' τ, m' < m ∧ Le τ σ' ∧ W m' τ C') ∧ c σ C fun b C1 => bcase b (tb { D with nx := N, ct := N, bk := D.nx } σ C1) (D.nx σ C1)
def dWhile (c : DTT) (tb : DTS) (D : DEnds) (σ : DSt) (C : CMap) : Prop := whileI c tb D σ C
theorem s_while (hc : DT X c dt) (hb : DSs X ba t) (hp : PassesOwn (model X.prog X.w) X.A X.env X.xe := by exact PassesOwn.never) : DS X (.While c ba [] pos) (dWhile dt t) :=
  DS.of (ps_while hp hc hb) fun G F H C σV σ D DV R L q g => by
    rw [dWhile, whileI] at q
    obtain ⟨W, ⟨m0, τ0, l0, w0⟩, turn⟩ := q
    refine ⟨fun m σV' H' => ∃ F' C' σ', Ex F F' ∧ Rel X.K G F' H' C' ∧ Loc X.K F' σV' σ' ∧ W m σ' C', ⟨m0, F, C, τ0, Ex.refl F, R, L.le l0, w0⟩, ?_⟩
    rintro m σV1 H1 ⟨F1, C1, σ1, e1, R1, L1, w1⟩
    obtain ⟨N, hN, q1⟩ := turn m σ1 C1 w1
    refine sim_upT G F1 H1 C1 σV1 σ1 _ _ R1 L1 q1 fun b F2 H2 C2 e2 R2 q2 => ?_
    cases b with
    | true =>
      rw [if_pos rfl]
      refine ⟨fun σV' H' => ∃ F' C' σ', Ex F F' ∧ Rel X.K G F' H' C' ∧ Loc X.K F' σV' σ' ∧ ∃ m' τ, m' < m ∧ Le τ σ' ∧ W m' τ C', ?_, ?_⟩
      · rintro σV' H' ⟨F', C', σ', e', R', L', m', τ, hm, l', w'⟩
        exact ⟨m', hm, F', C', τ, e', R', L'.le l', w'⟩
      · have e12 := e1.trans e2
        have nn : ∀ F' H' C' σV' σ', Ex F2 F' → Rel X.K G F' H' C' → Loc X.K F' σV' σ' → N σ' C' → ∃ F'' C'' σ'', Ex F F'' ∧ Rel X.K G F'' H' C'' ∧ Loc X.K F'' σV' σ'' ∧ ∃ m' τ, m' < m ∧ Le τ σ'' ∧ W m' τ C'' := fun F' H' C' σV' σ' e' R' L' n' => ⟨F', C', σ', e12.trans e', R', L', hN _ _ n'⟩
        exact sim_upS G F2 H2 C2 σV1 σ1 _ _ R2 (L1.mono e2) q2 ⟨nn, g.rt.mono e12, fun F' H' C' σV' σ' e' => g.nx F' H' C' σV' σ' (e12.trans e'), nn⟩
    | false =>
      rw [if_neg Bool.false_ne_true]
      exact g.nx F2 H2 C2 σV1 σ1 (e1.trans e2) R2 (L1.mono e2) q2

/-! what is walked: a list of data; w: a cell that must stand as it is -/
def watch (w : Option (Addr × List D)) (ds : List D) (C : CMap) : Prop := match w with
  | none => True
  | some a => C a.1 = some (.lst a.2)
structure ItOk (K : PySem.W.Frag) (F0 : Hp) (J : It) (w : Option (Addr × List D)) (ds : List D) : Prop where
  go : ∀ G F H C i, Ex F0 F → Rel K G F H C → watch w ds C → i < ds.length → J.go i H
  yld : ∀ G F H C i d x H', Ex F0 F → Rel K G F H C → watch w ds C → ds[i]? = some d → J.yld i H x H' → ∃ F', Ex F F' ∧ Rel K G F' H' C ∧ Is K F' x d
  stop : ∀ G F H C, Ex F0 F → Rel K G F H C → watch w ds C → J.stop ds.length H
theorem ItOk.mono {F0 F1 : Hp} {J : It} {w : Option (Addr × List D)} {ds : List D} (h : ItOk K F0 J w ds) (e : Ex F0 F1) : ItOk K F1 J w ds :=
  ⟨fun G F H C i e' => h.go G F H C i (e.trans e'), fun G F H C i d x H' e' => h.yld G F H C i d x H' (e.trans e'), fun G F H C e' => h.stop G F H C (e.trans e')⟩
abbrev DTI := DSt → CMap → (List D → Option (Addr × List D) → CMap → Prop) → Prop
def SimI (K : PySem.W.Frag) (ti : TI) (t : DTI) : Prop := ∀ G F H C σV σ (Q : List D → Option (Addr × List D) → CMap → Prop) (R : It → Hp → Prop), Rel K G F H C → Loc K F σV σ → t σ C Q →
  (∀ F' H' C' ds w J, Ex F F' → Rel K G F' H' C' → ItOk K F' J w ds → ds.length ≤ 16777216 → Q ds w C' → R J H') → ti σV H R
def upI (K : PySem.W.Frag) (t : DTI) : TI := fun σV H R => ∃ G F C σ, ∃ Q : List D → Option (Addr × List D) → CMap → Prop, Rel K G F H C ∧ Loc K F σV σ ∧ t σ C Q ∧
  ∀ F' H' C' ds w J, Ex F F' → Rel K G F' H' C' → ItOk K F' J w ds → ds.length ≤ 16777216 → Q ds w C' → R J H'
def DI (X : Cx) (tg iter : Expr) (t : DTI) : Prop := PI X tg iter (upI X.K t)
theorem sim_upI {t : DTI} : SimI K (upI K t) t := fun G F H C σV σ Q R Rl L h g => ⟨G, F, C, σ, Q, Rl, L, h, g⟩
theorem DI.of {tg iter : Expr} {ti : TI} {t : DTI} (p : PI X tg iter ti) (s : SimI X.K ti t) : DI X tg iter t :=
  ⟨fun pins st σ H R I ⟨G, F, C, σ', Q', Rl, L, h, g⟩ => p.run pins st σ H R I (s G F H C σ σ' Q' R Rl L h g)⟩
@[irreducible] def forI (ds : List D) (w : Option (Addr × List D)) (g : DTG) (tb : DTS) (D : DEnds) (σ : DSt) (C : CMap) : Prop := ∃ Pv : Nat → DSt → CMap → Prop, (∃ τ, Le τ σ ∧ Pv 0 τ C) ∧
  (∀ i d σ' C', ds[i]? = some d → Pv i σ' C' → watch w ds C' ∧ ∃ N : DSt → CMap → Prop, (∀ σ3 C3, N σ3 C3 → ∃ τ, Le τ σ3 ∧ Pv (i + 1) τ C3) ∧ g d σ' C' fun σ2 C2 => tb { D with nx := N, ct := N, bk := D.nx } σ2 C2) ∧
  (∀ σ' C', Pv ds.length σ' C' → watch w ds C' ∧ D.nx σ' C')
def dFor (it : DTI) (g : DTG) (tb : DTS) (D : DEnds) (σ : DSt) (C : CMap) : Prop := it σ C fun ds w C1 => forI ds w g tb D σ C1
theorem s_for {is : List Nat} {tg iter : Expr} {it : DTI} {gt : DTG} (hi : DI X tg iter it) (hg : DG X tg is gt) (hb : DSs X ba t) (hc : X.calm = true := by rfl) (hp : PassesOwn (model X.prog X.w) X.A X.env X.xe := by exact PassesOwn.never)
    (hs : ∀ x, foldedSetIterable iter X.env x = pure x := by intro _; rfl) : DS X (.For tg iter ba [] pos) (dFor it gt t) :=
  DS.of (ps_for hp hc hi hg hb hs) fun G F H C σV σ D DV R L q g => sim_upI G F H C σV σ _ _ R L q fun F1 H1 C1 ds w J e1 R1 ok hl q => by
    rw [forI] at q
    obtain ⟨Pv, ⟨τ0, l0, h0⟩, turn, fin⟩ := q
    refine ⟨fun i m σV' H' => m = ds.length - i ∧ i ≤ ds.length ∧ ∃ F' C' σ', Ex F1 F' ∧ Rel X.K G F' H' C' ∧ Loc X.K F' σV' σ' ∧ Pv i σ' C', ⟨ds.length, by simp, Nat.zero_le _, F1, C1, τ0, Ex.refl F1, R1, (L.mono e1).le l0, h0⟩, ?_⟩
    rintro i m σV2 H2 ⟨rfl, hi', F2, C2, σ2, e2, R2, L2, p2⟩
    by_cases hlt : i < ds.length
    · have hd : ds[i]? = some ds[i] := List.getElem?_eq_getElem hlt
      obtain ⟨hw, N, hN, q2⟩ := turn i ds[i] σ2 C2 hd p2
      refine .inr ⟨ok.go G F2 H2 C2 i e2 R2 hw hlt, fun σV' H' => ∃ F' C' σ', Ex F1 F' ∧ Rel X.K G F' H' C' ∧ Loc X.K F' σV' σ' ∧ ∃ τ, Le τ σ' ∧ Pv (i + 1) τ C', ?_, ?_⟩
      · rintro σV' H' ⟨F', C', σ', e', R', L', τ, l', p'⟩
        exact ⟨ds.length - (i + 1), by omega, rfl, hlt, F', C', τ, e', R', L'.le l', p'⟩
      · intro x H3 hy
        obtain ⟨F3, e3, R3, i3⟩ := ok.yld G F2 H2 C2 i ds[i] x H3 e2 R2 hw hd hy
        refine sim_upG G F3 H3 C2 σV2 σ2 x ds[i] _ _ R3 (L2.mono e3) i3 q2 fun F4 H4 C4 σV4 σ4 e4 R4 L4 _ q4 => ?_
        have e14 : Ex F1 F4 := (e2.trans e3).trans e4
        have eF := e1.trans e14
        have nn : ∀ F' H' C' σV' σ', Ex F4 F' → Rel X.K G F' H' C' → Loc X.K F' σV' σ' → N σ' C' → ∃ F'' C'' σ'', Ex F1 F'' ∧ Rel X.K G F'' H' C'' ∧ Loc X.K F'' σV' σ'' ∧ ∃ τ, Le τ σ'' ∧ Pv (i + 1) τ C'' := fun F' H' C' σV' σ' e' R' L' n' => ⟨F', C', σ', e14.trans e', R', L', hN _ _ n'⟩
        exact sim_upS G F4 H4 C4 σV4 σ4 _ _ R4 L4 q4 ⟨nn, g.rt.mono eF, fun F' H' C' σV' σ' e' => g.nx F' H' C' σV' σ' (eF.trans e'), nn⟩
    · have e : i = ds.length := by omega
      subst e
      obtain ⟨hw, q2⟩ := fin σ2 C2 p2
      exact .inl ⟨ok.stop G F2 H2 C2 e2 R2 hw, g.nx F2 H2 C2 σV2 σ2 (e1.trans e2) R2 L2 q2⟩
end

/-! ### comprehensions -/
section
variable {elt iter tg : Expr} {ifs : List Expr} {scope : Scope} {own : List (Str × Nat)} {pos : Pos} {it : DTI} {g : DTG} {is : List Nat} {tt : DTT} {te : DTE}
def DTs (X : Cx) (ifs : List Expr) (t : DTT) : Prop := PTs X ifs (upT X.K t)
def dYes (_ : DSt) (C : CMap) (Q : Bool → CMap → Prop) : Prop := Q true C
theorem ts_nil : DTs X [] dYes := ⟨fun pins st σ H Q I ⟨G, F, C, σ', Q', R, L, h, g⟩ => pts_nil.run pins st σ H Q I (g true F H C (Ex.refl F) R h)⟩
theorem ts_one {c : Expr} {t : DTT} (h : DT X c t) : DTs X [c] t := pts_one h
@[irreducible] def lcI (k : Bool) (ds : List D) (w : Option (Addr × List D)) (g : DTG) (tt : DTT) (te : DTE) (vs : List Nat) (σ : DSt) (C : CMap) (Q : DQ) : Prop := ∃ Pv : Nat → List D → CMap → Prop, Pv 0 [] C ∧
  (∀ i d acc C', ds[i]? = some d → Pv i acc C' → watch w ds C' ∧ ∃ (Y : D → CMap → Prop) (Z : CMap → Prop), (∀ y C4, Y y C4 → Pv (i + 1) (acc ++ [y]) C4) ∧ (∀ C3, Z C3 → Pv (i + 1) acc C3) ∧ g d (dwipe σ vs) C' fun σ2 C2 => tt σ2 C2 fun b C3 => bcase b (te σ2 C3 Y) (Z C3)) ∧
  (∀ acc C', Pv ds.length acc C' → watch w ds C' ∧ mk k acc C' Q)
def dLc (k : Bool) (it : DTI) (g : DTG) (tt : DTT) (te : DTE) (vs : List Nat) (σ : DSt) (C : CMap) (Q : DQ) : Prop := it σ C fun ds w C1 => lcI k ds w g tt te vs σ C1 Q
theorem sim_lc (k : Bool) {ti : TI} {gV : TG} {ttV : TT} {teV : TE} {vs : List Nat} (hv : ∀ i ∈ is, i ∈ vs) (hi : SimI K ti it) (hg : SimG K is gV g) (ht : SimT K ttV tt) (he : SimE K teV te) : SimE K (tLc ti gV ttV teV vs) (dLc k it g tt te vs) := fun G F H C σV σ Q QV R L q gq => by
  refine hi G F H C σV σ _ _ R L q fun F1 H1 C1 ds w J e1 R1 ok hl q => ?_
  rw [lcI] at q
  obtain ⟨Pv, h0, turn, fin⟩ := q
  intro Dl hD
  obtain ⟨fD, gD, cD⟩ := R1.free hD
  refine ⟨fun i m H' => m = ds.length - i ∧ i ≤ ds.length ∧ ∃ ws F' C' acc, Ex F1 F' ∧ Rel K (upd G Dl (.lst ws)) F' H' C' ∧ IsL K F' ws acc ∧ acc.length ≤ i ∧ Pv i acc C', ⟨ds.length, by simp, Nat.zero_le _, [], F1, C1, [], Ex.refl F1, R1.hold hD _, .nil, Nat.le_refl _, h0⟩, ?_⟩
  rintro i m H2 ⟨rfl, hi', ws, F2, C2, acc, e2, R2, il, ha, p2⟩
  by_cases hlt : i < ds.length
  · have hd : ds[i]? = some ds[i] := List.getElem?_eq_getElem hlt
    obtain ⟨hw, Y, Z, hY, hZ, q2⟩ := turn i ds[i] acc C2 hd p2
    refine .inr ⟨ok.go _ F2 H2 C2 i e2 R2 hw hlt, fun H' => ∃ ws F' C' acc, Ex F1 F' ∧ Rel K (upd G Dl (.lst ws)) F' H' C' ∧ IsL K F' ws acc ∧ acc.length ≤ i + 1 ∧ Pv (i + 1) acc C', ?_, ?_⟩
    · rintro H' ⟨ws', F', C', acc', e', R', il', ha', p'⟩
      exact ⟨ds.length - (i + 1), by omega, rfl, hlt, ws', F', C', acc', e', R', il', ha', p'⟩
    · intro x H3 hy
      obtain ⟨F3, e3, R3, i3⟩ := ok.yld _ F2 H2 C2 i ds[i] x H3 e2 R2 hw hd hy
      have L3 : Loc K F3 (wipe σV vs) (dwipe σ vs) := (L.mono (e1.trans (e2.trans e3))).wipe vs
      refine hg _ F3 H3 C2 (wipe σV vs) (dwipe σ vs) x ds[i] _ _ R3 L3 i3 q2 fun F4 H4 C4 σV4 σ4 e4 R4 L4 w4 q4 => ?_
      refine ⟨?_, ?_⟩
      · have z := w4 vs hv
        rw [z]
        have idem : ∀ (us : List Nat) (σ : L2.St), (∀ u ∈ us, u ∈ vs) → wipe (wipe σ us) vs = wipe σ vs := by
          intro us
          induction us with
          | nil => intro σ _; rfl
          | cons u us ih =>
            intro σ hu
            show wipe ((wipe σ us).set u none) vs = wipe σ vs
            rw [wipe_set_in vs _ (hu u List.mem_cons_self)]
            exact ih σ fun y hy => hu y (List.mem_cons_of_mem _ hy)
        exact idem vs σV fun u hu => hu
      refine ht _ F4 H4 C4 σV4 σ4 _ _ R4 L4 q4 fun b F5 H5 C5 e5 R5 q5 => ?_
      cases b with
      | false =>
        rw [if_neg Bool.false_ne_true]
        exact ⟨ws, F5, C5, acc, (((e2.trans e3).trans e4).trans e5), R5, IsL.mono ((e3.trans e4).trans e5) _ _ il, by omega, hZ _ q5⟩
      | true =>
        rw [if_pos rfl]
        refine he _ F5 H5 C5 σV4 σ4 _ _ R5 (L4.mono e5) q5 fun y dy F6 H6 C6 e6 R6 i6 q6 => ?_
        refine ⟨ws, R6.frm Dl _ upd_same, ?_, ?_⟩
        · rw [sizeLine_eq, il.length]; omega
        · refine ⟨ws ++ [y], F6, C6, acc ++ [dy], ((((e2.trans e3).trans e4).trans e5).trans e6), R6.grow _, (IsL.mono (((e3.trans e4).trans e5).trans e6) _ _ il).append (.cons i6 .nil), ?_, hY _ _ q6⟩
          rw [List.length_append]; show acc.length + 1 ≤ i + 1; omega
  · have e : i = ds.length := by omega
    subst e
    obtain ⟨hw, q2⟩ := fin acc C2 p2
    refine .inl ⟨ok.stop _ F2 H2 C2 e2 R2 hw, ?_⟩
    obtain ⟨hH, hF, hC, Rd⟩ := R2.drop gD
    cases k with
    | false =>
      obtain ⟨Rt, et⟩ := Rd.take hH hF gD hC
      exact gq _ _ _ H2 C2 ((e1.trans e2).trans et) Rt (.lst upd_same (IsL.mono et _ _ il)) q2
    | true =>
      exact gq _ _ F2 H2 _ (e1.trans e2) (Rd.takec hF gD (show COk K F2 H2 Dl (.lst acc) from ⟨ws, hH, il⟩)) (.cell Dl) (q2 Dl hC)
theorem e_lc (k : Bool) (own : List (Str × Nat)) (hN : X.N.Nodup) (hi : DI X tg iter it) (ok : BlkOk X.N X.env.scope scope own)
    (hg : ∀ (s : Shared) (H : Hp) (C : Addr) (cl : List (Str × Addr)) (fp : List Addr), DG (X.blk s H scope (compEnvC scope cl C X.env) fp) tg is g) (ht : ∀ (s : Shared) (H : Hp) (C : Addr) (cl : List (Str × Addr)) (fp : List Addr), DTs (X.blk s H scope (compEnvC scope cl C X.env) fp) ifs tt)
    (he : ∀ (s : Shared) (H : Hp) (C : Addr) (cl : List (Str × Addr)) (fp : List Addr), DE (X.blk s H scope (compEnvC scope cl C X.env) fp) elt te) (hv : ∀ i ∈ is, i ∈ own.map (·.2) := by decide) (hc : X.calm = true := by rfl) (hs : ∀ x, foldedSetIterable iter X.env x = pure x := by intro _; rfl) :
    DE X (.ListComp elt [⟨tg, iter, ifs, 0⟩] scope pos) (dLc k it g tt te (own.map (·.2))) :=
  DE.of (pe_lc (g := upG X.K is g) (tt := upT X.K tt) (te := upE X.K te) hc hN hi ok hg ht he hs) (sim_lc k hv sim_upI sim_upG sim_upT sim_upE)
theorem s_setLc (k : Bool) (i : Nat) {y : Str} {py spos : Pos} (own : List (Str × Nat)) (hN : X.N.Nodup) (hi : DI X tg iter it) (ok : BlkOk X.N X.env.scope scope own)
    (hg : ∀ (s : Shared) (H : Hp) (C : Addr) (cl : List (Str × Addr)) (fp : List Addr), DG (X.blk s H scope (compEnvC scope cl C X.env) fp) tg is g) (ht : ∀ (s : Shared) (H : Hp) (C : Addr) (cl : List (Str × Addr)) (fp : List Addr), DTs (X.blk s H scope (compEnvC scope cl C X.env) fp) ifs tt)
    (he : ∀ (s : Shared) (H : Hp) (C : Addr) (cl : List (Str × Addr)) (fp : List Addr), DE (X.blk s H scope (compEnvC scope cl C X.env) fp) elt te) (hsw : swapsWith (.ListComp elt [⟨tg, iter, ifs, 0⟩] scope pos) (some (.Name y py)) spos.line X.env = pure true)
    (hv : ∀ i ∈ is, i ∈ own.map (·.2) := by decide) (hy : X.N[i]? = some y := by rfl) (hyl : X.env.scope.names.lookup y = some .local := by rfl) (hc : X.calm = true := by rfl) (hs : ∀ x, foldedSetIterable iter X.env x = pure x := by intro _; rfl) :
    DS X (.Assign [.Name y py] (.ListComp elt [⟨tg, iter, ifs, 0⟩] scope pos) spos) (dSet i (dLc k it g tt te (own.map (·.2)))) :=
  DS.of (ps_setLc (g := upG X.K is g) (tt := upT X.K tt) (te := upE X.K te) hc hN hy hyl hsw hi ok hg ht he hs) fun G F H C σV σ D DV R L q gg => sim_lc k hv sim_upI sim_upG sim_upT sim_upE G F H C σV σ _ _ R L q fun v d F1 H1 C1 e1 R1 i1 q1 => gg.nx F1 H1 C1 _ _ e1 R1 ((L.mono e1).set i i1) q1
end

/-! ### a def -/
def dstart (N : List Str) (ds : List D) : DSt := ds.map some ++ List.replicate (N.length - ds.length) none
theorem loc_start {F : Hp} {N : List Str} {vs : List V} {ds : List D} (h : IsL K F vs ds) : Loc K F (L2.start N vs) (dstart N ds) := by
  refine ⟨by unfold L2.start dstart; simp [h.length], fun i d e => ?_⟩
  unfold dstart at e
  unfold L2.start
  by_cases hi : i < ds.length
  · rw [List.getElem?_append_left (by simpa using hi), List.getElem?_map] at e
    rw [List.getElem?_append_left (by simpa [h.length] using hi), List.getElem?_map]
    cases q : ds[i]? with
    | none => rw [q] at e; cases e
    | some x =>
      rw [q] at e; cases e
      obtain ⟨v, hv, iv⟩ := h.get q
      exact ⟨v, by rw [hv]; rfl, iv⟩
  · rw [List.getElem?_append_right (by simpa using hi), List.getElem?_replicate] at e
    split at e <;> cases e
def dBody (N : List Str) (t : DTS) : DSpec := fun ds C Q => t { nx := fun _ C => Q .non C, rt := Q } (dstart N ds) C
section
variable {P : Program} {w : World} {mg : Str → Option Value} {base : Heap}
theorem fn_d {x qual : Str} {st : Stmt} {f : Addr} {fd : FuncData} {N ps : List Str} {k : Nat} {t : DTS} (F : Fun K x qual st f fd) (S : FnScope N ps (defScope st))
    (hb : ∀ (cdv : Value) (A : Around) (outer : List Env) (s : Shared) (H : Hp) (E : XK), Room k (A.deeper (envOfC qual (defScope st) s.heap.objs.size f cdv)) → DSs (cxOf CX0 P w K mg base N qual (defScope st) f cdv A outer s H E).nox (defBody st) t) :
    FnD P w K mg base (k + 1) f fd ps (dBody N t) := by
  refine F.ok S (fun vs H Q E ⟨G, F, C, ds, QD, R, i, hl, hs, g⟩ => i.length.trans hl) fun cdv A outer s H vs Q E hr ⟨G, F, C, ds, QD, R, i, hl, hs, g⟩ => ?_
  refine ⟨_, hb cdv A outer s H E hr, G, F, C, dstart N ds, { nx := fun _ C => QD .non C, rt := QD }, R, loc_start i, hs, ⟨fun F' H' C' σV' σ' e R' L' q => g _ _ F' H' C' e R' .non q, g, fun F' H' C' σV' σ' e R' L' q => q.elim, fun F' H' C' σV' σ' e R' L' q => q.elim⟩⟩
end
end DL

namespace DL
open PySem PySem.Spec PyProof.Rows L2
variable {X : Cx} {K : PySem.W.Frag}

/-! ### what is walked -/
def iAny (K : PySem.W.Frag) (tl : TE) : TI := fun σ H R => tl σ H fun x H1 =>
  (∃ a, x = .ref a ∧ (∃ xs, SqL K H1 a xs) ∧ ((∀ xs, SqL K H1 a xs → xs.length ≤ 16777216) → R (Itl K a) H1)) ∨ (∃ a, x = .ref a ∧ (∃ xs, SqT K H1 a xs) ∧ ((∀ xs, SqT K H1 a xs → xs.length ≤ 16777216) → R (Itt K a) H1)) ∨ ∃ z, x = .str z ∧ R (Its z) H1
theorem pie_new {tg : Expr} {pins : List (Addr × Obj)} {σ : L2.St} {H : Hp} {s : Shared} {R : It → Hp → Prop} {J : It} {tn : Nat → Heap → Prop} {o : Obj} (I : Inv X pins σ H s)
    (T : Turn X.prog X.w X.K tg J [s.heap.objs.size] s.heap.objs.size tn) (h0 : tn 0 (s.heap.push o)) (q : R J H) : PIE X pins σ tg R (.ref s.heap.objs.size) { s with heap := s.heap.push o } := by
  have hf := I.hok.fresh (Nat.le_refl s.heap.objs.size)
  have I' : Inv X pins σ H { s with heap := s.heap.push o } := I.kept (t' := s.toks) fun b u z => Heap.get?_push_of_some _ z
  exact ⟨_, _, tn, J, H, rfl, I', T, h0, fun b hb => by rw [List.mem_singleton.mp hb]; exact I.fpOk (Nat.le_refl _) hf, q⟩
theorem pi_any {tg l : Expr} {tl : TE} (hl : PE X l tl) : PI X tg l (iAny X.K tl) := by
  refine ⟨fun pins s σ H R I hw => thn (hl.run pins s σ H _ I hw) fun v s' ⟨x, H', I', rx, cases3⟩ => ?_⟩
  rcases cases3 with ⟨a, hx, ⟨xs, hq⟩, q⟩ | ⟨a, hx, ⟨xs, hq⟩, q⟩ | ⟨z, hx, q⟩
  · subst hx; cases rx
    have ⟨its, _, pl, _⟩ := I'.list hq
    exact wpAny_pyIter_list pl.isList (pie_new I' (turn_list a _) ⟨_, Heap.get?_push_size _ rfl, rfl, rfl⟩ (q fun ys hy => by rw [← sizeLine_eq]; exact (let ⟨_, _, _, z⟩ := I'.list hy; z)))
  · subst hx; cases rx
    have ⟨its, _, pl, _⟩ := I'.tuple hq
    exact wpAny_pyIter_tuple (show s'.heap.IsTuple a its.toArray from pl) (pie_new I' (turn_tuple a _) ⟨_, Heap.get?_push_size _ rfl, rfl, rfl⟩ (q fun ys hy => by rw [← sizeLine_eq]; exact (let ⟨_, _, _, z⟩ := I'.tuple hy; z)))
  · subst hx
    obtain ⟨t, rfl⟩ := rx
    cases asc : z.cps.all (· < 128) with
    | true => exact wpAny_pyIter_ascii asc (pie_new I' (turn_str _ z t "str_ascii_iterator" (.inl rfl)) ⟨_, Heap.get?_push_size _ rfl, rfl, rfl⟩ q)
    | false => exact wpAny_pyIter_wide asc (pie_new I' (turn_str _ z t "str_iterator" (.inr rfl)) ⟨_, Heap.get?_push_size _ rfl, rfl, rfl⟩ q)
def wat (ds : List D) : D → Option (Addr × List D)
  | .cell a => some (a, ds)
  | _ => none
def chars (z : Str) : List D := z.cps.toList.map fun c => D.str ⟨#[c]⟩
/-- a list, a tuple, a text -/
def seqOf (C : CMap) : D → Option (List D)
  | .str z => if z.length ≤ 16777216 then some (chars z) else none
  | d => asQ C d
theorem seqOf_str {C : CMap} {z : Str} (h : z.length ≤ 16777216) : seqOf C (.str z) = some (chars z) := by show (if z.length ≤ 16777216 then some (chars z) else none) = _; rw [if_pos h]
theorem seqOf_lst {C : CMap} {ds : List D} : seqOf C (.lst ds) = some ds := rfl
theorem seqOf_tup {C : CMap} {ds : List D} : seqOf C (.tup ds) = some ds := rfl
theorem seqOf_ro {C : CMap} {ds : List D} : seqOf C (.ro ds) = some ds := rfl
theorem seqOf_cell {C : CMap} {a : Addr} {ds : List D} (h : C a = some (.lst ds)) : seqOf C (.cell a) = some ds := asQ_cell h
def dIn (t : DTE) (σ : DSt) (C : CMap) (Q : List D → Option (Addr × List D) → CMap → Prop) : Prop := t σ C fun d C1 => orF (seqOf C1 d) fun ds => Q ds (wat ds d) C1
theorem itl_frozen {F0 : Hp} {a : Addr} {vs : List V} {ds : List D} (h : SqL K F0 a vs) (i : IsL K F0 vs ds) : ItOk K F0 (Itl K a) none ds where
  go := fun G F H C j e R _ hj => by
    obtain ⟨v, hv, _⟩ := i.get (List.getElem?_eq_getElem hj)
    exact ⟨vs, v, ex_l (e.trans R.sub) h, hv⟩
  yld := fun G F H C j d x H' e R _ hd hy => by
    obtain ⟨rfl, hx⟩ := hy
    obtain ⟨v, hv, iv⟩ := i.get hd
    have z := hx vs (ex_l (e.trans R.sub) h)
    rw [hv] at z; cases z
    exact ⟨F, Ex.refl F, R, Is.mono e _ _ iv⟩
  stop := fun G F H C e R _ => ⟨vs, ex_l (e.trans R.sub) h, by rw [i.length]; exact Nat.le_refl _⟩
theorem itt_frozen {F0 : Hp} {a : Addr} {vs : List V} {ds : List D} (h : SqT K F0 a vs) (i : IsL K F0 vs ds) : ItOk K F0 (Itt K a) none ds where
  go := fun G F H C j e R _ hj => by
    obtain ⟨v, hv, _⟩ := i.get (List.getElem?_eq_getElem hj)
    exact ⟨vs, v, ex_t (e.trans R.sub) h, hv⟩
  yld := fun G F H C j d x H' e R _ hd hy => by
    obtain ⟨rfl, hx⟩ := hy
    obtain ⟨v, hv, iv⟩ := i.get hd
    have z := hx vs (ex_t (e.trans R.sub) h)
    rw [hv] at z; cases z
    exact ⟨F, Ex.refl F, R, Is.mono e _ _ iv⟩
  stop := fun G F H C e R _ => ⟨vs, ex_t (e.trans R.sub) h, by rw [i.length]; exact Nat.le_refl _⟩
theorem itl_cell {F0 : Hp} {a : Addr} {ds : List D} : ItOk K F0 (Itl K a) (some (a, ds)) ds where
  go := fun G F H C j e R w hj => by
    obtain ⟨_, _, vs, h1, il⟩ := R.own a _ w
    obtain ⟨v, hv, _⟩ := il.get (List.getElem?_eq_getElem hj)
    exact ⟨vs, v, SqL.of h1, hv⟩
  yld := fun G F H C j d x H' e R w hd hy => by
    obtain ⟨rfl, hx⟩ := hy
    obtain ⟨_, _, vs, h1, il⟩ := R.own a _ w
    obtain ⟨v, hv, iv⟩ := il.get hd
    have z := hx vs (SqL.of h1)
    rw [hv] at z; cases z
    exact ⟨F, Ex.refl F, R, iv⟩
  stop := fun G F H C e R w => by
    obtain ⟨_, _, vs, h1, il⟩ := R.own a _ w
    exact ⟨vs, SqL.of h1, by rw [il.length]; exact Nat.le_refl _⟩
theorem chars_get {z : Str} {i : Nat} : (chars z)[i]? = (z.cps[i]?).map fun c => D.str ⟨#[c]⟩ := by unfold chars; rw [List.getElem?_map, Array.getElem?_toList]
theorem chars_length {z : Str} : (chars z).length = z.cps.size := by unfold chars; rw [List.length_map, Array.length_toList]
theorem its_ok {F0 : Hp} {z : Str} : ItOk K F0 (Its z) none (chars z) where
  go := fun G F H C j e R _ hj => by rw [chars_length] at hj; exact hj
  yld := fun G F H C j d x H' e R _ hd hy => by
    obtain ⟨rfl, c, hc, rfl⟩ := hy
    rw [chars_get, hc] at hd
    cases hd
    exact ⟨F, Ex.refl F, R, .str _⟩
  stop := fun G F H C e R _ => by rw [chars_length]; exact Nat.le_refl _
theorem i_in {tg l : Expr} {t : DTE} (h : DE X l t) : DI X tg l (dIn t) :=
  DI.of (pi_any h) fun G F H C σV σ Q Rr R L q g => sim_upE G F H C σV σ _ _ R L q fun v d F1 H1 C1 e1 R1 i1 h0 => by
    obtain ⟨ds, hs, q1⟩ := orF_e h0
    cases d with
    | str z =>
      cases i1
      by_cases hz : z.length ≤ 16777216
      · rw [seqOf_str hz] at hs; cases hs
        exact .inr (.inr ⟨z, rfl, g F1 H1 C1 _ none _ e1 R1 its_ok (by rw [chars_length]; exact hz) q1⟩)
      · have : seqOf C1 (.str z) = none := by show (if z.length ≤ 16777216 then some (chars z) else none) = _; rw [if_neg hz]
        rw [this] at hs; cases hs
    | lst xs =>
      cases hs
      cases i1 with | lst h1 h2 =>
      exact .inl ⟨_, rfl, ⟨_, SqL.of (R1.sub _ _ h1)⟩, fun hl => g F1 H1 C1 _ none _ e1 R1 (itl_frozen (SqL.of h1) h2) (by rw [← h2.length]; exact hl _ (SqL.of (R1.sub _ _ h1))) q1⟩
    | ro xs =>
      cases hs
      cases i1 with | ro h1 h2 =>
      exact .inl ⟨_, rfl, ⟨_, ex_l R1.sub h1⟩, fun hl => g F1 H1 C1 _ none _ e1 R1 (itl_frozen h1 h2) (by rw [← h2.length]; exact hl _ (ex_l R1.sub h1)) q1⟩
    | tup xs =>
      cases hs
      cases i1 with | tup h1 h2 =>
      exact .inr (.inl ⟨_, rfl, ⟨_, ex_t R1.sub h1⟩, fun hl => g F1 H1 C1 _ none _ e1 R1 (itt_frozen h1 h2) (by rw [← h2.length]; exact hl _ (ex_t R1.sub h1)) q1⟩)
    | cell a =>
      cases i1
      have hc := cell_lst (ds := ds) hs
      obtain ⟨_, _, vs, h1, il⟩ := R1.own a _ hc
      exact .inl ⟨_, rfl, ⟨_, SqL.of h1⟩, fun hl => g F1 H1 C1 _ (some (a, _)) _ e1 R1 itl_cell (by rw [← il.length]; exact hl _ (SqL.of h1)) q1⟩
    | _ => cases hs
/-- range -/
def rgD (lo : Int) (n : Nat) : List D := (List.range n).map fun i => D.int (lo + (i : Nat))
theorem rgD_length {lo : Int} {n : Nat} : (rgD lo n).length = n := by unfold rgD; rw [List.length_map, List.length_range]
theorem rgD_get {lo : Int} {n i : Nat} (h : i < n) : (rgD lo n)[i]? = some (.int (lo + (i : Nat))) := by unfold rgD; rw [List.getElem?_map, List.getElem?_range h]; rfl
theorem itr_ok {F0 : Hp} {lo : Int} {n : Nat} : ItOk K F0 (Itr lo n) none (rgD lo n) where
  go := fun G F H C j e R _ hj => by rw [rgD_length] at hj; exact hj
  yld := fun G F H C j d x H' e R _ hd hy => by
    obtain ⟨rfl, rfl⟩ := hy
    have hj : j < n := by
      have := (List.getElem?_eq_some_iff.mp hd).1
      rw [rgD_length] at this; exact this
    rw [rgD_get hj] at hd
    cases hd
    exact ⟨F, Ex.refl F, R, .int _⟩
  stop := fun G F H C e R _ => by rw [rgD_length]; exact Nat.le_refl _
def dRg1 (t : DTA) (σ : DSt) (C : CMap) (Q : List D → Option (Addr × List D) → CMap → Prop) : Prop := t σ C fun ds C1 => one1 ds fun d => isI d fun n => -16777216 ≤ n ∧ n ≤ 16777216 ∧ Q (rgD 0 n.toNat) none C1
def dRg2 (t : DTA) (σ : DSt) (C : CMap) (Q : List D → Option (Addr × List D) → CMap → Prop) : Prop := t σ C fun ds C1 => two2 ds fun d e => isI d fun a => isI e fun b => (-4611686018427387904 ≤ a ∧ a < 4611686018427387904 ∧ -4611686018427387904 ≤ b ∧ b < 4611686018427387904) ∧ b - a ≤ 16777216 ∧ Q (rgD a (b - a).toNat) none C1
section
variable {a b c tg : Expr} {dt : DTA} {p pos : Pos}
theorem i_rg1 (hm : X.mg "range" = none) (ha : DA X [a] dt) (hg : Gl X "range" := by rfl) (hs : starEach [a] X.env = [(false, eval a X.env)] := by rfl) : DI X tg (.Call (.Name "range" p) [a] [] pos) (dRg1 dt) :=
  DI.of (pi_range1 hg hm ha hs) fun G F H C σV σ Q Rr R L q g => sim_upA G F H C σV σ _ _ R L q fun vs ds F1 H1 C1 e1 R1 i1 h0 => by
    obtain ⟨d, hd, h0⟩ := one1_e h0
    obtain ⟨n, hn, h1, h2, q1⟩ := isI_e h0
    subst hd; subst hn
    cases i1 with | cons j1 j2 =>
    cases j2; cases j1
    exact ⟨n, rfl, by omega, by omega, g F1 H1 C1 _ none _ e1 R1 itr_ok (by rw [rgD_length]; omega) q1⟩
theorem i_rg2 (hm : X.mg "range" = none) (ha : DA X [a, b] dt) (hg : Gl X "range" := by rfl) (hs : starEach [a, b] X.env = [(false, eval a X.env), (false, eval b X.env)] := by rfl) (hs2 : starEach [b] X.env = [(false, eval b X.env)] := by rfl) : DI X tg (.Call (.Name "range" p) [a, b] [] pos) (dRg2 dt) :=
  DI.of (pi_range2 hg hm ha hs hs2) fun G F H C σV σ Q Rr R L q g => sim_upA G F H C σV σ _ _ R L q fun vs ds F1 H1 C1 e1 R1 i1 h0 => by
    obtain ⟨d, e, hd, h0⟩ := two2_e h0
    obtain ⟨n, hn, h0⟩ := isI_e h0
    obtain ⟨m, hm, h1, h2, q1⟩ := isI_e h0
    subst hd; subst hn; subst hm
    cases i1 with | cons j1 j2 =>
    cases j2 with | cons j3 j4 =>
    cases j4; cases j1; cases j3
    exact ⟨n, m, rfl, h1, g F1 H1 C1 _ none _ e1 R1 itr_ok (by rw [rgD_length]; omega) q1⟩
end
/-- enumerate of a list -/
def enumD (ds : List D) : List D := ds.zipIdx.map fun x => D.tup [.int (x.2 : Nat), x.1]
theorem enumD_length {ds : List D} : (enumD ds).length = ds.length := by unfold enumD; rw [List.length_map, List.length_zipIdx]
theorem enumD_get {ds : List D} {i : Nat} : (enumD ds)[i]? = (ds[i]?).map fun d => D.tup [.int (i : Nat), d] := by
  unfold enumD
  rw [List.getElem?_map, List.getElem?_zipIdx]
  cases ds[i]? with
  | none => rfl
  | some d => show some _ = some _; simp
theorem ite_frozen {F0 : Hp} {a : Addr} {vs : List V} {ds : List D} (h : SqL K F0 a vs) (i : IsL K F0 vs ds) : ItOk K F0 (Ite K a) none (enumD ds) where
  go := fun G F H C j e R _ hj => by
    rw [enumD_length] at hj
    obtain ⟨v, hv, _⟩ := i.get (List.getElem?_eq_getElem hj)
    exact ⟨vs, v, ex_l (e.trans R.sub) h, hv⟩
  yld := fun G F H C j d x H' e R _ hd hy => by
    obtain ⟨T, x1, rfl, hT, rfl, hx⟩ := hy
    rw [enumD_get] at hd
    cases hdj : ds[j]? with
    | none => rw [hdj] at hd; cases hd
    | some d0 =>
      rw [hdj] at hd; cases hd
      obtain ⟨v, hv, iv⟩ := i.get hdj
      have z := hx vs (ex_l (e.trans R.sub) h)
      rw [hv] at z; cases z
      obtain ⟨R', e'⟩ := R.new hT _
      exact ⟨_, e', R', .tup (SqT.of upd_same) (.cons (.int _) (.cons (Is.mono (e.trans e') _ _ iv) .nil))⟩
  stop := fun G F H C e R _ => ⟨vs, ex_l (e.trans R.sub) h, by rw [enumD_length, i.length]; exact Nat.le_refl _⟩
/-- a frozen list -/
theorem ite_cell {F0 : Hp} {a : Addr} {ds : List D} : ItOk K F0 (Ite K a) (some (a, ds)) (enumD ds) where
  go := fun G F H C j e R w hj => by
    rw [enumD_length] at hj
    obtain ⟨_, _, vs, h1, il⟩ := R.own a _ w
    obtain ⟨v, hv, _⟩ := il.get (List.getElem?_eq_getElem hj)
    exact ⟨vs, v, SqL.of h1, hv⟩
  yld := fun G F H C j d x H' e R w hd hy => by
    obtain ⟨T, x1, rfl, hT, rfl, hx⟩ := hy
    rw [enumD_get] at hd
    cases hdj : ds[j]? with
    | none => rw [hdj] at hd; cases hd
    | some d0 =>
      rw [hdj] at hd; cases hd
      obtain ⟨_, _, vs, h1, il⟩ := R.own a _ w
      obtain ⟨v, hv, iv⟩ := il.get hdj
      have z := hx vs (SqL.of h1)
      rw [hv] at z; cases z
      obtain ⟨R', e'⟩ := R.new hT _
      exact ⟨_, e', R', .tup (SqT.of upd_same) (.cons (.int _) (.cons (Is.mono e' _ _ iv) .nil))⟩
  stop := fun G F H C e R w => by
    obtain ⟨_, _, vs, h1, il⟩ := R.own a _ w
    exact ⟨vs, SqL.of h1, by rw [enumD_length, il.length]; exact Nat.le_refl _⟩
def frL : D → Option (List D)
  | .lst xs => some xs
  | .ro xs => some xs
  | _ => none
theorem frL_e {d : D} {xs : List D} (h : frL d = some xs) : d = .lst xs ∨ d = .ro xs := by
  cases d with
  | lst ys => cases h; exact .inl rfl
  | ro ys => cases h; exact .inr rfl
  | _ => cases h
/-- the argument frozen, so that it stands -/
def dEnum (t : DTA) (σ : DSt) (C : CMap) (Q : List D → Option (Addr × List D) → CMap → Prop) : Prop := t σ C fun ds C1 => one1 ds fun d => orF (asR C1 d) fun xs => Q (enumD xs) (wat xs d) C1
theorem lst_sq {G F H : Hp} {C : CMap} {v : V} {d : D} {xs : List D} (R : Rel K G F H C) (h : d = .lst xs ∨ d = .ro xs) (i : Is K F v d) : ∃ a vs, v = .ref a ∧ SqL K F a vs ∧ IsL K F vs xs := by
  rcases h with rfl | rfl
  · cases i with | lst h1 h2 => exact ⟨_, _, rfl, SqL.of h1, h2⟩
  · cases i with | ro h1 h2 => exact ⟨_, _, rfl, h1, h2⟩
/-- .. with the length told by the heap -/
def iEnumL (K : PySem.W.Frag) (ta : TA) : TI := fun σ H R => ta σ H fun vs H1 => ∃ a xs, vs = [.ref a] ∧ SqL K H1 a xs ∧ (xs.length ≤ 16777216 → R (Ite K a) H1)
theorem pa_len {es : List Expr} {t : TA} (h : PA X es t) : PA X es (fun σ H Q => t σ H fun vs H1 => (∀ a xs, SqL X.K H1 a xs → xs.length ≤ 16777216) → Q vs H1) :=
  ⟨fun pos pins s σ H Q I q => thn (h.run pos pins s σ H _ I q) fun us s1 ⟨vs, H1, I1, r1, q1⟩ => ⟨vs, H1, I1, r1, q1 fun a xs hs => by rw [← sizeLine_eq]; exact (let ⟨_, _, _, z⟩ := I1.list hs; z)⟩⟩
section
variable {a b : Expr} {dt : DTA} {p pos tpos : Pos} {elts : List Expr} {kk : Nat}
theorem i_enum (hm : X.mg "enumerate" = none) (ha : DA X [a] dt) (hg : Gl X "enumerate" := by rfl) (hs : starEach [a] X.env = [(false, eval a X.env)] := by rfl) : DI X (.Tuple elts kk tpos) (.Call (.Name "enumerate" p) [a] [] pos) (dEnum dt) :=
  DI.of (pi_enum hg hm (pa_len ha) hs) fun G F H C σV σ Q Rr R L q g => sim_upA G F H C σV σ _ _ R L q fun vs ds F1 H1 C1 e1 R1 i1 h0 hl => by
    obtain ⟨d, hd, h0⟩ := one1_e h0
    obtain ⟨xs, hx, q1⟩ := orF_e h0
    subst hd
    cases i1 with | cons j1 j2 =>
    cases j2
    obtain ⟨aa, ws, rfl, hsH, il⟩ := asR_ok R1 j1 hx
    refine ⟨aa, ws, rfl, hsH, g F1 H1 C1 _ (wat xs d) _ e1 R1 ?_ (by rw [enumD_length, ← il.length]; exact hl _ _ hsH) q1⟩
    cases d with
    | lst ys => cases hx; cases j1 with | lst h1 h2 => exact ite_frozen (SqL.of h1) h2
    | ro ys => cases hx; cases j1 with | ro h1 h2 => exact ite_frozen h1 h2
    | cell b => cases j1; exact ite_cell
    | _ => cases hx
/-- zip of two lists -/
def zipD (xs ys : List D) : List D := (xs.zip ys).map fun x => D.tup [x.1, x.2]
theorem zipD_length {xs ys : List D} : (zipD xs ys).length = min xs.length ys.length := by unfold zipD; rw [List.length_map, List.length_zip]
theorem zipD_get {xs ys : List D} {i : Nat} {d : D} (h : (zipD xs ys)[i]? = some d) : ∃ x y, xs[i]? = some x ∧ ys[i]? = some y ∧ d = .tup [x, y] := by
  unfold zipD at h
  rw [List.getElem?_map] at h
  cases e : (xs.zip ys)[i]? with
  | none => rw [e] at h; cases h
  | some q =>
    rw [e] at h; cases h
    have z := List.getElem?_zip_eq_some.mp e
    exact ⟨q.1, q.2, z.1, z.2, rfl⟩
theorem itz_frozen {F0 : Hp} {a b : Addr} {vs ws : List V} {xs ys : List D} (h : SqL K F0 a vs) (i : IsL K F0 vs xs) (h' : SqL K F0 b ws) (i' : IsL K F0 ws ys) : ItOk K F0 (Itz K a b) none (zipD xs ys) where
  go := fun G F H C j e R _ hj => by
    rw [zipD_length] at hj
    obtain ⟨v, hv, _⟩ := i.get (List.getElem?_eq_getElem (show j < xs.length by omega))
    obtain ⟨u, hu, _⟩ := i'.get (List.getElem?_eq_getElem (show j < ys.length by omega))
    exact ⟨vs, ws, v, u, ex_l (e.trans R.sub) h, ex_l (e.trans R.sub) h', hv, hu⟩
  yld := fun G F H C j d x H' e R _ hd hy => by
    obtain ⟨T, x1, y1, rfl, hT, rfl, hx, hy1⟩ := hy
    obtain ⟨dx, dy, h1, h2, rfl⟩ := zipD_get hd
    obtain ⟨v, hv, iv⟩ := i.get h1
    obtain ⟨u, hu, iu⟩ := i'.get h2
    have z := hx vs (ex_l (e.trans R.sub) h)
    rw [hv] at z; cases z
    have z := hy1 ws (ex_l (e.trans R.sub) h')
    rw [hu] at z; cases z
    obtain ⟨R', e'⟩ := R.new hT _
    exact ⟨_, e', R', .tup (SqT.of upd_same) (.cons (Is.mono (e.trans e') _ _ iv) (.cons (Is.mono (e.trans e') _ _ iu) .nil))⟩
  stop := fun G F H C e R _ => ⟨vs, ws, ex_l (e.trans R.sub) h, ex_l (e.trans R.sub) h', by rw [zipD_length, i.length, i'.length]; omega⟩
def dZip (t : DTA) (σ : DSt) (C : CMap) (Q : List D → Option (Addr × List D) → CMap → Prop) : Prop := t σ C fun ds C1 => two2 ds fun d e => orF (frL d) fun xs => orF (frL e) fun ys => Q (zipD xs ys) none C1
theorem i_zip (hm : X.mg "zip" = none) (ha : DA X [a, b] dt) (hg : Gl X "zip" := by rfl) (hs : starEach [a, b] X.env = (false, eval a X.env) :: starEach [b] X.env := by rfl) (hpl : (backTo pos (starEach [b] X.env)).any (·.1) = false := by rfl) : DI X (.Tuple elts kk tpos) (.Call (.Name "zip" p) [a, b] [] pos) (dZip dt) :=
  DI.of (pi_zip hg hm (pa_len ha) hs hpl) fun G F H C σV σ Q Rr R L q g => sim_upA G F H C σV σ _ _ R L q fun vs ds F1 H1 C1 e1 R1 i1 h0 hl => by
    obtain ⟨d, e, hd, h0⟩ := two2_e h0
    obtain ⟨xs, hx, h0⟩ := orF_e h0
    obtain ⟨ys, hy, q1⟩ := orF_e h0
    have hx := frL_e hx
    have hy := frL_e hy
    subst hd
    cases i1 with | cons j1 j2 =>
    cases j2 with | cons j3 j4 =>
    cases j4
    obtain ⟨aa, ws, rfl, hs, il⟩ := lst_sq R1 hx j1
    obtain ⟨bb, us, rfl, hs', il'⟩ := lst_sq R1 hy j3
    have hsH := ex_l R1.sub hs
    exact ⟨aa, bb, ws, us, rfl, hsH, ex_l R1.sub hs', g F1 H1 C1 _ none _ e1 R1 (itz_frozen hs il hs' il') (by have := hl _ _ hsH; rw [zipD_length, ← il.length]; omega) q1⟩
end
end DL

namespace DL
open PySem PySem.Spec PyProof.Rows L2
variable {X : Cx} {K : PySem.W.Frag}

/-! ### built-in functions -/
def isS (d : D) (k : Str → Prop) : Prop := match d with
  | .str b => k b
  | _ => False
theorem isS_e {d : D} {k : Str → Prop} (h : isS d k) : ∃ b, d = .str b ∧ k b := by
  cases d <;> first | exact ⟨_, rfl, h⟩ | exact h.elim
/-- a frozen list, a tuple -/
def frS : D → Option (List D)
  | .lst xs => some xs
  | .ro xs => some xs
  | .tup xs => some xs
  | _ => none
theorem frS_e {d : D} {xs : List D} (h : frS d = some xs) : d = .lst xs ∨ d = .ro xs ∨ d = .tup xs := by
  cases d with
  | lst ys => cases h; exact .inl rfl
  | ro ys => cases h; exact .inr (.inl rfl)
  | tup ys => cases h; exact .inr (.inr rfl)
  | _ => cases h
theorem is1 {F : Hp} {vs : List V} {d : D} (h : IsL K F vs [d]) : ∃ v, vs = [v] ∧ Is K F v d := by
  cases h with | cons h1 h2 => cases h2; exact ⟨_, rfl, h1⟩
theorem is2 {F : Hp} {vs : List V} {d e : D} (h : IsL K F vs [d, e]) : ∃ v w, vs = [v, w] ∧ Is K F v d ∧ Is K F w e := by
  cases h with | cons h1 h2 => cases h2 with | cons h2 h3 => cases h3; exact ⟨_, _, rfl, h1, h2⟩
/-- len -/
def lenD (C : CMap) : D → Option Nat
  | .str s => if s.length ≤ 16777216 then some s.length else none
  | .cell a => match C a with | some (.lst ds) => some ds.length | some (.dK kvs) => some kvs.length | some (.dT kvs) => some kvs.length | _ => none
  | d => (asQ C d).map List.length
theorem lenD_str {C : CMap} {s : Str} (h : s.length ≤ 16777216) : lenD C (.str s) = some s.length := by show (if s.length ≤ 16777216 then some s.length else none) = _; rw [if_pos h]
theorem lenD_cell {C : CMap} {a : Addr} {ds : List D} (h : C a = some (.lst ds)) : lenD C (.cell a) = some ds.length := by show (match C a with | some (.lst ds) => some ds.length | some (.dK kvs) => some kvs.length | some (.dT kvs) => some kvs.length | _ => none) = _; simp only [h]
theorem lenD_dK {C : CMap} {a : Addr} {ds : List (Key × D)} (h : C a = some (.dK ds)) : lenD C (.cell a) = some ds.length := by show (match C a with | some (.lst ds) => some ds.length | some (.dK kvs) => some kvs.length | some (.dT kvs) => some kvs.length | _ => none) = _; simp only [h]
theorem lenD_dT {C : CMap} {a : Addr} {ds : List (List Key × D)} (h : C a = some (.dT ds)) : lenD C (.cell a) = some ds.length := by show (match C a with | some (.lst ds) => some ds.length | some (.dK kvs) => some kvs.length | some (.dT kvs) => some kvs.length | _ => none) = _; simp only [h]
theorem lenD_lst {C : CMap} {ds : List D} : lenD C (.lst ds) = some ds.length := rfl
theorem lenD_tup {C : CMap} {ds : List D} : lenD C (.tup ds) = some ds.length := rfl
theorem lenD_ro {C : CMap} {ds : List D} : lenD C (.ro ds) = some ds.length := rfl
theorem IsK.len {κ : Type} {F : Hp} : ∀ {vs : List (κ × V)} {ds : List (κ × D)}, IsK K F vs ds → vs.length = ds.length
  | _, _, .nil => rfl
  | _, _, .cons _ t => by simp [IsK.len t]
def drLen : DRC := fun ds C Q => one1 ds fun d => orF (lenD C d) fun n => Q (.int (n : Nat)) C
theorem b_len : BR X (.builtin "len") drLen := ⟨_, L2.CallR.or call_len (L2.CallR.or call_lenD call_len_dT), fun G F H C vs ds Q QV R i h0 g => by
  obtain ⟨d, hd, h0⟩ := one1_e h0
  obtain ⟨n, hn, q⟩ := orF_e h0
  subst hd
  obtain ⟨v, rfl, iv⟩ := is1 i
  have q' := g (.int (n : Nat)) _ F H C (Ex.refl F) R (.int _) q
  cases d with
  | str s =>
    cases iv
    by_cases hs : s.length ≤ 16777216
    · rw [lenD_str hs] at hn; cases hn
      exact .inl ⟨_, _, rfl, ⟨by rw [sizeLine_eq]; exact hs, rfl⟩, q'⟩
    · have : lenD C (.str s) = none := by show (if s.length ≤ 16777216 then some s.length else none) = _; rw [if_neg hs]
      rw [this] at hn; cases hn
  | lst xs => cases hn; cases iv with | lst h1 h2 => exact .inl ⟨_, _, rfl, .inl ⟨_, SqL.of (R.sub _ _ h1), h2.length.symm⟩, q'⟩
  | ro xs => cases hn; cases iv with | ro h1 h2 => exact .inl ⟨_, _, rfl, .inl ⟨_, ex_l R.sub h1, h2.length.symm⟩, q'⟩
  | tup xs => cases hn; cases iv with | tup h1 h2 => exact .inl ⟨_, _, rfl, .inr ⟨_, ex_t R.sub h1, h2.length.symm⟩, q'⟩
  | cell a =>
    cases iv
    cases e : C a with
    | none => simp only [lenD, e] at hn; cases hn
    | some o =>
      cases o with
      | lst xs =>
        rw [lenD_cell e] at hn; cases hn
        obtain ⟨_, _, ws, h1, h2⟩ := R.own a _ e
        exact .inl ⟨_, _, rfl, .inl ⟨_, SqL.of h1, h2.length.symm⟩, q'⟩
      | dK xs =>
        rw [lenD_dK e] at hn; cases hn
        obtain ⟨_, _, ws, h1, h2⟩ := R.own a _ e
        exact .inr (.inl ⟨a, ws, rfl, h1, by rw [IsK.len h2]; exact q'⟩)
      | dT xs =>
        rw [lenD_dT e] at hn; cases hn
        obtain ⟨_, _, ws, h1, h2⟩ := R.own a _ e
        exact .inr (.inr ⟨a, ws, rfl, h1, by rw [IsK.len h2]; exact q'⟩)
      | ins => simp only [lenD, e] at hn; cases hn
      | box => simp only [lenD, e] at hn; cases hn
  | _ => cases hn⟩
/-- int, str, repr, abs -/
def drInt : DRC := fun ds C Q => one1 ds fun d => match d with
  | .int i => Q (.int i) C
  | .bl b => Q (.int (if b then 1 else 0)) C
  | .str a => a.length ≤ 640 ∧ orF (PySem.intText? a) fun n => Q (.int n) C
  | _ => False
theorem b_int : BR X (.type "int") drInt := ⟨_, L2.CallR.or call_int1 call_int_str, fun G F H C vs ds Q QV R i h0 g => by
  obtain ⟨d, hd, h⟩ := one1_e h0
  subst hd
  obtain ⟨v, rfl, iv⟩ := is1 i
  cases d with
  | int n => cases iv; exact .inl (.inl ⟨_, rfl, g _ _ F H C (Ex.refl F) R (.int _) h⟩)
  | bl n => cases iv; exact .inl (.inr ⟨_, rfl, g _ _ F H C (Ex.refl F) R (.int _) h⟩)
  | str a => cases iv; obtain ⟨h2, h3⟩ := h; obtain ⟨n, h1, q⟩ := orF_e h3; exact .inr ⟨_, _, rfl, h1, h2, g _ _ F H C (Ex.refl F) R (.int _) q⟩
  | _ => exact h.elim⟩
/-- the size of an int that str may write -/
def strOk (i : Int) : Prop := i.natAbs.log2 < 1920
theorem strOk_of {i : Int} (h : i.natAbs < 2 ^ 1900) : strOk i := Nat.lt_of_lt_of_le (PySem.Flt.log2_lt_of (by decide) h) (by decide)
def drStr : DRC := fun ds C Q => one1 ds fun d => match d with
  | .int i => strOk i ∧ Q (.str (toString i)) C
  | .str s => Q (.str s) C
  | _ => False
theorem b_str : BR X (.type "str") drStr := ⟨_, L2.CallR.or call_str_int SkE.call_str_str, fun G F H C vs ds Q QV R i h0 g => by
  obtain ⟨d, hd, h⟩ := one1_e h0
  subst hd
  obtain ⟨v, rfl, iv⟩ := is1 i
  cases d with
  | int n => cases iv; exact .inl ⟨_, rfl, h.1, g _ _ F H C (Ex.refl F) R (.str _) h.2⟩
  | str s => cases iv; exact .inr ⟨_, rfl, g _ _ F H C (Ex.refl F) R (.str _) h⟩
  | _ => exact h.elim⟩
theorem call_repr_str : CallR X (.builtin "repr") (fun xs H Q => ∃ s, xs = [.str s] ∧ (reprText s).length ≤ sizeLine ∧ Q (.str (reprText s)) H) := by
  rintro pins st σ H xs us Q I r ⟨s, rfl, hz, q⟩
  obtain ⟨u, rfl, t, rfl⟩ := vals1 r
  exact PySem.P.repr_of_str ⟨.str _, H, I.tok _, ⟨_, rfl⟩, q⟩ hz
def drRepr : DRC := fun ds C Q => one1 ds fun d => match d with
  | .int i => strOk i ∧ Q (.str (toString i)) C
  | .str s => (reprText s).length ≤ 16777216 ∧ Q (.str (reprText s)) C
  | _ => False
theorem b_repr : BR X (.builtin "repr") drRepr := ⟨_, L2.CallR.or SkE.call_repr_int call_repr_str, fun G F H C vs ds Q QV R i h0 g => by
  obtain ⟨d, hd, h⟩ := one1_e h0
  subst hd
  obtain ⟨v, rfl, iv⟩ := is1 i
  cases d with
  | int n => cases iv; exact .inl ⟨_, rfl, h.1, g _ _ F H C (Ex.refl F) R (.str _) h.2⟩
  | str s => cases iv; exact .inr ⟨_, rfl, by rw [sizeLine_eq]; exact h.1, g _ _ F H C (Ex.refl F) R (.str _) h.2⟩
  | _ => exact h.elim⟩
def drAbs : DRC := fun ds C Q => one1 ds fun d => isI d fun i => Q (.int (if i < 0 then -i else i)) C
theorem b_abs : BR X (.builtin "abs") drAbs := ⟨_, call_abs, fun G F H C vs ds Q QV R i h0 g => by
  obtain ⟨d, hd, h⟩ := one1_e h0
  obtain ⟨n, hn, q⟩ := isI_e h
  subst hd; subst hn; obtain ⟨v, rfl, iv⟩ := is1 i; cases iv; exact ⟨_, rfl, g _ _ F H C (Ex.refl F) R (.int _) q⟩⟩
/-- a list of ints, of texts, of bools -/
def intsD : List D → Option (List Int)
  | [] => some []
  | .int i :: r => (intsD r).map (i :: ·)
  | _ => none
theorem intsD_e : ∀ {ds : List D} {ns : List Int}, intsD ds = some ns → ds = ns.map D.int
  | [], _, h => by cases h; rfl
  | .int i :: r, ns, h => by
    unfold intsD at h
    cases e : intsD r with
    | none => rw [e] at h; cases h
    | some ms => rw [e] at h; cases h; rw [intsD_e e]; rfl
  | .non :: _, _, h => by cases h
  | .bl _ :: _, _, h => by cases h
  | .str _ :: _, _, h => by cases h
  | .tup _ :: _, _, h => by cases h
  | .lst _ :: _, _, h => by cases h
  | .ro _ :: _, _, h => by cases h
  | .cell _ :: _, _, h => by cases h
  | .ty _ :: _, _, h => by cases h
theorem intsD_map : ∀ (ns : List Int), intsD (ns.map D.int) = some ns
  | [] => rfl
  | n :: ns => by show (intsD (ns.map D.int)).map (n :: ·) = _; rw [intsD_map ns]; rfl
def blsD : List D → Option (List Bool)
  | [] => some []
  | .bl i :: r => (blsD r).map (i :: ·)
  | _ => none
theorem blsD_e : ∀ {ds : List D} {ns : List Bool}, blsD ds = some ns → ds = ns.map D.bl
  | [], _, h => by cases h; rfl
  | .bl i :: r, ns, h => by
    unfold blsD at h
    cases e : blsD r with
    | none => rw [e] at h; cases h
    | some ms => rw [e] at h; cases h; rw [blsD_e e]; rfl
  | .non :: _, _, h => by cases h
  | .int _ :: _, _, h => by cases h
  | .str _ :: _, _, h => by cases h
  | .tup _ :: _, _, h => by cases h
  | .lst _ :: _, _, h => by cases h
  | .ro _ :: _, _, h => by cases h
  | .cell _ :: _, _, h => by cases h
  | .ty _ :: _, _, h => by cases h
theorem blsD_map : ∀ (ns : List Bool), blsD (ns.map D.bl) = some ns
  | [] => rfl
  | n :: ns => by show (blsD (ns.map D.bl)).map (n :: ·) = _; rw [blsD_map ns]; rfl
def strsD : List D → Option (List Str)
  | [] => some []
  | .str i :: r => (strsD r).map (i :: ·)
  | _ => none
theorem strsD_e : ∀ {ds : List D} {ns : List Str}, strsD ds = some ns → ds = ns.map D.str
  | [], _, h => by cases h; rfl
  | .str i :: r, ns, h => by
    unfold strsD at h
    cases e : strsD r with
    | none => rw [e] at h; cases h
    | some ms => rw [e] at h; cases h; rw [strsD_e e]; rfl
  | .non :: _, _, h => by cases h
  | .bl _ :: _, _, h => by cases h
  | .int _ :: _, _, h => by cases h
  | .tup _ :: _, _, h => by cases h
  | .lst _ :: _, _, h => by cases h
  | .ro _ :: _, _, h => by cases h
  | .cell _ :: _, _, h => by cases h
  | .ty _ :: _, _, h => by cases h
theorem strsD_map : ∀ (ns : List Str), strsD (ns.map D.str) = some ns
  | [] => rfl
  | n :: ns => by show (strsD (ns.map D.str)).map (n :: ·) = _; rw [strsD_map ns]; rfl
/-- a list of ints; the greatest, the least, the sum -/
def maxL : Int → List Int → Int
  | m, [] => m
  | m, x :: r => maxL (if x > m then x else m) r
def minL : Int → List Int → Int
  | m, [] => m
  | m, x :: r => minL (if x < m then x else m) r
theorem maxL_mem : ∀ (r : List Int) (m : Int), maxL m r ∈ m :: r ∧ ∀ y ∈ m :: r, y ≤ maxL m r
  | [], m => by simp [maxL]
  | x :: r, m => by
    by_cases hx : x > m
    · obtain ⟨h1, h2⟩ := maxL_mem r x
      have e : maxL m (x :: r) = maxL x r := by show maxL (if x > m then x else m) r = _; rw [if_pos hx]
      rw [e]
      have hm := h2 _ List.mem_cons_self
      refine ⟨List.mem_cons_of_mem _ h1, fun y hy => ?_⟩
      rcases List.mem_cons.mp hy with e | e
      · subst e; omega
      · exact h2 y e
    · obtain ⟨h1, h2⟩ := maxL_mem r m
      have e : maxL m (x :: r) = maxL m r := by show maxL (if x > m then x else m) r = _; rw [if_neg hx]
      rw [e]
      have hm := h2 _ List.mem_cons_self
      refine ⟨?_, fun y hy => ?_⟩
      · rcases List.mem_cons.mp h1 with e | e
        · rw [e]; exact List.mem_cons_self
        · exact List.mem_cons_of_mem _ (List.mem_cons_of_mem _ e)
      · rcases List.mem_cons.mp hy with e | e
        · subst e; exact hm
        · rcases List.mem_cons.mp e with e | e
          · subst e; omega
          · exact h2 y (List.mem_cons_of_mem _ e)
theorem minL_mem : ∀ (r : List Int) (m : Int), minL m r ∈ m :: r ∧ ∀ y ∈ m :: r, minL m r ≤ y
  | [], m => by simp [minL]
  | x :: r, m => by
    by_cases hx : x < m
    · obtain ⟨h1, h2⟩ := minL_mem r x
      have e : minL m (x :: r) = minL x r := by show minL (if x < m then x else m) r = _; rw [if_pos hx]
      rw [e]
      have hm := h2 _ List.mem_cons_self
      refine ⟨List.mem_cons_of_mem _ h1, fun y hy => ?_⟩
      rcases List.mem_cons.mp hy with e | e
      · subst e; omega
      · exact h2 y e
    · obtain ⟨h1, h2⟩ := minL_mem r m
      have e : minL m (x :: r) = minL m r := by show minL (if x < m then x else m) r = _; rw [if_neg hx]
      rw [e]
      have hm := h2 _ List.mem_cons_self
      refine ⟨?_, fun y hy => ?_⟩
      · rcases List.mem_cons.mp h1 with e | e
        · rw [e]; exact List.mem_cons_self
        · exact List.mem_cons_of_mem _ (List.mem_cons_of_mem _ e)
      · rcases List.mem_cons.mp hy with e | e
        · subst e; exact hm
        · rcases List.mem_cons.mp e with e | e
          · subst e; omega
          · exact h2 y (List.mem_cons_of_mem _ e)
def drMax1 (d : D) (C : CMap) (Q : DQ) : Prop := orF (asR C d) fun xs => orF (intsD xs) fun ns => match ns with
    | m :: r => Q (.int (maxL m r)) C
    | [] => False
def drMax : DRC := fun ds C Q => match ds with
  | [x, y] => isI x fun i => isI y fun j => Q (.int (max i j)) C
  | [d] => drMax1 d C Q
  | _ => False
theorem b_max (hc : X.calm = true := by rfl) : BR X (.builtin "max") drMax := ⟨_, L2.CallR.or (call_max2 hc) (cr_max hc), fun G F H C vs ds Q QV R i h g => by
  match ds, i, h with
  | [], _, h => exact h.elim
  | _ :: _ :: _ :: _, _, h => exact h.elim
  | [d], i, h0 =>
    obtain ⟨xs, h1, h0⟩ := orF_e h0
    obtain ⟨ns, h2, q⟩ := orF_e h0
    rw [intsD_e h2] at h1
    cases ns with
    | nil => exact q.elim
    | cons m r =>
    obtain ⟨v, rfl, iv⟩ := is1 i
    obtain ⟨a, vs, rfl, hs, il⟩ := asR_ok R iv h1
    have e := il.ints
    subst e
    refine Or.inr ⟨a, m :: r, rfl, hs, by simp, fun y hy hle => ?_⟩
    obtain ⟨h1, h2⟩ := maxL_mem r m
    have e : y = maxL m r := by have := h2 y hy; have := hle _ h1; omega
    subst e
    exact g _ _ F H C (Ex.refl F) R (.int _) q
  | [x, y], i, h =>
    obtain ⟨a, rfl, h⟩ := isI_e h
    obtain ⟨b, rfl, h⟩ := isI_e h
    obtain ⟨v, w, rfl, iv, iw⟩ := is2 i; cases iv; cases iw
    refine Or.inl ⟨_, _, rfl, g _ _ F H C (Ex.refl F) R (.int _) ?_⟩
    have e : (if b > a then b else a) = max a b := by split <;> omega
    rw [e]; exact h⟩
def drMin1 (d : D) (C : CMap) (Q : DQ) : Prop := orF (asR C d) fun xs => orF (intsD xs) fun ns => match ns with
    | m :: r => Q (.int (minL m r)) C
    | [] => False
def drMin : DRC := fun ds C Q => match ds with
  | [x, y] => isI x fun i => isI y fun j => Q (.int (min i j)) C
  | [d] => drMin1 d C Q
  | _ => False
theorem b_min (hc : X.calm = true := by rfl) : BR X (.builtin "min") drMin := ⟨_, L2.CallR.or (call_min2 hc) (cr_min hc), fun G F H C vs ds Q QV R i h g => by
  match ds, i, h with
  | [], _, h => exact h.elim
  | _ :: _ :: _ :: _, _, h => exact h.elim
  | [d], i, h0 =>
    obtain ⟨xs, h1, h0⟩ := orF_e h0
    obtain ⟨ns, h2, q⟩ := orF_e h0
    rw [intsD_e h2] at h1
    cases ns with
    | nil => exact q.elim
    | cons m r =>
    obtain ⟨v, rfl, iv⟩ := is1 i
    obtain ⟨a, vs, rfl, hs, il⟩ := asR_ok R iv h1
    have e := il.ints
    subst e
    refine Or.inr ⟨a, m :: r, rfl, hs, by simp, fun y hy hle => ?_⟩
    obtain ⟨h1, h2⟩ := minL_mem r m
    have e : y = minL m r := by have := h2 y hy; have := hle _ h1; omega
    subst e
    exact g _ _ F H C (Ex.refl F) R (.int _) q
  | [x, y], i, h =>
    obtain ⟨a, rfl, h⟩ := isI_e h
    obtain ⟨b, rfl, h⟩ := isI_e h
    obtain ⟨v, w, rfl, iv, iw⟩ := is2 i; cases iv; cases iw
    refine Or.inl ⟨_, _, rfl, g _ _ F H C (Ex.refl F) R (.int _) ?_⟩
    have e : (if b < a then b else a) = min a b := by split <;> omega
    rw [e]; exact h⟩
def drSum : DRC := fun ds C Q => one1 ds fun d => orF (asR C d) fun xs => orF (intsD xs) fun ns => Q (.int ns.sum) C
theorem b_sum (hc : X.calm = true := by rfl) : BR X (.builtin "sum") drSum := ⟨_, cr_sum hc, fun G F H C vs ds Q QV R i h0 g => by
  obtain ⟨d, hd, h0⟩ := one1_e h0
  obtain ⟨xs, h, h0⟩ := orF_e h0
  obtain ⟨ns, h2, q⟩ := orF_e h0
  subst hd
  rw [intsD_e h2] at h
  obtain ⟨v, rfl, iv⟩ := is1 i
  obtain ⟨a, vs, rfl, hs, il⟩ := asR_ok R iv h
  have e := il.ints
  subst e
  exact ⟨a, ns, rfl, hs, g _ _ F H C (Ex.refl F) R (.int _) q⟩⟩
def drAny : DRC := fun ds C Q => one1 ds fun d => orF (asR C d) fun xs => orF (blsD xs) fun ns => Q (.bl (ns.any id)) C
theorem b_any (hc : X.calm = true := by rfl) : BR X (.builtin "any") drAny := ⟨_, cr_any hc, fun G F H C vs ds Q QV R i h0 g => by
  obtain ⟨d, hd, h0⟩ := one1_e h0
  obtain ⟨xs, h, h0⟩ := orF_e h0
  obtain ⟨ns, h2, q⟩ := orF_e h0
  subst hd
  rw [blsD_e h2] at h
  obtain ⟨v, rfl, iv⟩ := is1 i
  obtain ⟨a, vs, rfl, hs, il⟩ := asR_ok R iv h
  have e := il.bls
  subst e
  exact ⟨a, ns, rfl, hs, g _ _ F H C (Ex.refl F) R (.bl _) q⟩⟩
def drAll : DRC := fun ds C Q => one1 ds fun d => orF (asR C d) fun xs => orF (blsD xs) fun ns => Q (.bl (ns.all id)) C
theorem b_all (hc : X.calm = true := by rfl) : BR X (.builtin "all") drAll := ⟨_, cr_all hc, fun G F H C vs ds Q QV R i h0 g => by
  obtain ⟨d, hd, h0⟩ := one1_e h0
  obtain ⟨xs, h, h0⟩ := orF_e h0
  obtain ⟨ns, h2, q⟩ := orF_e h0
  subst hd
  rw [blsD_e h2] at h
  obtain ⟨v, rfl, iv⟩ := is1 i
  obtain ⟨a, vs, rfl, hs, il⟩ := asR_ok R iv h
  have e := il.bls
  subst e
  exact ⟨a, ns, rfl, hs, g _ _ F H C (Ex.refl F) R (.bl _) q⟩⟩
/-- list(xs), tuple(xs) -/
def drList (k : Bool) : DRC := fun ds C Q => one1 ds fun d => orF (asQ C d) fun xs => mk k xs C Q
theorem b_list (k : Bool) : BR X (.type "list") (drList k) := ⟨_, call_list_of, fun G F H C vs ds Q QV R i h0 g => by
  obtain ⟨d, hd, h0⟩ := one1_e h0
  obtain ⟨xs, h, q⟩ := orF_e h0
  subst hd
  obtain ⟨v, rfl, iv⟩ := is1 i
  obtain ⟨a, vs, rfl, hs, il⟩ := asQ_ok R iv h
  exact ⟨a, vs, rfl, hs, fun l hl => mk_ok k R hl il q g⟩⟩
def drTuple : DRC := fun ds C Q => one1 ds fun d => orF (asQ C d) fun xs => Q (.tup xs) C
theorem b_tuple : BR X (.type "tuple") drTuple := ⟨_, call_tuple_of, fun G F H C vs ds Q QV R i h0 g => by
  obtain ⟨d, hd, h0⟩ := one1_e h0
  obtain ⟨xs, h, q⟩ := orF_e h0
  subst hd
  obtain ⟨v, rfl, iv⟩ := is1 i
  cases d with
  | tup ys => cases h; cases iv with | tup h1 h2 => exact ⟨_, _, rfl, .inr ⟨ex_t R.sub h1, g _ _ F H C (Ex.refl F) R (.tup h1 h2) q⟩⟩
  | lst ys => cases h; cases iv with | lst h1 h2 => exact ⟨_, _, rfl, .inl ⟨SqL.of (R.sub _ _ h1), fun l hl => tup_ok R hl h2 q g⟩⟩
  | ro ys => cases h; cases iv with | ro h1 h2 => exact ⟨_, _, rfl, .inl ⟨ex_l R.sub h1, fun l hl => tup_ok R hl h2 q g⟩⟩
  | cell a =>
    cases iv
    obtain ⟨_, _, vs, h1, h2⟩ := R.own a _ (cell_lst (ds := xs) h)
    exact ⟨_, _, rfl, .inl ⟨SqL.of h1, fun l hl => tup_ok R hl h2 q g⟩⟩
  | _ => cases h⟩
/-- isinstance(x, T), T a built-in type -/
def tyN (C : CMap) : D → Option String
  | .non => some "NoneType"
  | .bl _ => some "bool"
  | .int _ => some "int"
  | .str _ => some "str"
  | .tup _ => some "tuple"
  | .lst _ => some "list"
  | .cell a => match C a with | some (.lst _) => some "list" | some (.dK _) => some "dict" | some (.dT _) => some "dict" | _ => none
  | _ => none
theorem tyN_ok {X : Cx} {G F H : Hp} {C : CMap} {v : V} {d : D} {T : String} (R : Rel K G F H C) (i : Is K F v d) (h : tyN C d = some T) : TyX K H v (.type T) := by
  cases d with
  | non => cases h; cases i; exact .base .non
  | bl b => cases h; cases i; exact .base (.bl b)
  | int b => cases h; cases i; exact .base (.int b)
  | str b => cases h; cases i; exact .base (.str b)
  | tup xs =>
    cases h
    cases i with | tup h1 h2 =>
    rcases ex_t R.sub h1 with (e | ⟨o, e⟩) | ⟨o, its, n, e, c, _⟩
    · exact .base (.tup e)
    · exact .fTuple e
    · exact .kTuple e c
  | lst xs => cases h; cases i with | lst h1 h2 => exact .base (.lst (R.sub _ _ h1))
  | cell a =>
    cases i
    cases e : C a with
    | none => simp only [tyN, e] at h; cases h
    | some o =>
      obtain ⟨_, _, ok⟩ := R.own a _ e
      cases o with
      | lst xs => simp only [tyN, e] at h; cases h; obtain ⟨vs, h1, _⟩ := ok; exact .base (.lst h1)
      | dK xs => simp only [tyN, e] at h; cases h; obtain ⟨vs, h1, _⟩ := ok; exact .base (.dK h1)
      | dT xs => simp only [tyN, e] at h; cases h; obtain ⟨vs, h1, _⟩ := ok; exact .base (.dT h1)
      | ins => simp only [tyN, e] at h; cases h
      | box => simp only [tyN, e] at h; cases h
  | _ => cases h
def drIsi : DRC := fun ds C Q => two2 ds fun d e => match e with
  | .ty U => orF (tyN C d) fun T => orF (kitB T U) fun b => Q (.bl b) C
  | _ => False
theorem b_isi : BR X (.builtin "isinstance") drIsi := ⟨_, call_isi, fun G F H C vs ds Q QV R i h0 g => by
  obtain ⟨d, e, hd, h0⟩ := two2_e h0
  cases e with
  | ty U =>
   obtain ⟨T, hT, h0⟩ := orF_e h0
   obtain ⟨b, hk, q⟩ := orF_e h0
   subst hd
   obtain ⟨v, w, rfl, iv, iw⟩ := is2 i
   cases iw
   exact ⟨v, _, _, _, b, rfl, .ty U, tyN_ok (X := X) R iv hT, kit_ty hk, g _ _ F H C (Ex.refl F) R (.bl _) q⟩
  | _ => exact h0.elim⟩
/-- a built-in type as a value -/
theorem e_ty (T : String) {x : Str} {pos : Pos} (hm : X.mg x = none) (hg : Gl X x := by rfl) (hv : bootBuiltins x = some (.type T) := by decide +kernel) (hn : x ≠ "__name__" := by decide) (hd : (x == ("__debug__" : Str)) = false := by decide) : DE X (.Name x pos) (dC (.ty T)) :=
  DE.of (pe_bltn (v := .ty T) hg hm hv rfl hn hd) (sim_c fun _ => .ty T)

/-! ### methods -/
def drApp : DRM := fun x ds C Q => inL C x fun a xs => one1 ds fun d => xs.length < 16777216 ∧ Q .non (cset C a (.lst (xs ++ [d])))
theorem m_app : MR X "list" "append" drApp := ⟨_, _, PySem.F.plainAttrs_list, PySem.F.slot_list_append, PySem.F.type_list_append, mt_append, fun G F H C v d vs ds Q QV R iv i h0 g => by
  obtain ⟨a, xs, hx, hc, h0⟩ := inL_e h0
  obtain ⟨e, hd, hl, q⟩ := one1_e h0
  subst hx; subst hd
  cases iv
  obtain ⟨w, rfl, iw⟩ := is1 i
  obtain ⟨_, _, ws, h1, h2⟩ := R.own a _ hc
  exact ⟨a, ws, w, rfl, rfl, h1, by rw [sizeLine_eq, h2.length]; exact hl, g _ _ F _ _ (Ex.refl F) (R.put hc (show COk X.K F _ a (.lst (xs ++ [e])) from ⟨_, upd_same, h2.append (.cons iw .nil)⟩)) .non q⟩⟩
def drPop : DRM := fun x ds C Q => inL C x fun a xs => match ds with
  | [] => orF xs[xs.length - 1]? fun d => Q d (cset C a (.lst xs.dropLast))
  | [.int i] => (-9223372036854775808 ≤ i ∧ i < 9223372036854775808) ∧ orF (seqIndex? i xs.length) fun k => orF xs[k]? fun d => Q d (cset C a (.lst (xs.eraseIdx k)))
  | _ => False
theorem m_pop : MR X "list" "pop" drPop := ⟨_, _, PySem.F.plainAttrs_list, PySem.F.slot_list_pop, PySem.F.type_list_pop, MtR.or mt_pop mt_popAt, fun G F H C v d vs ds Q QV R iv i h0 g => by
  obtain ⟨a, xs, hx, hc, h⟩ := inL_e h0
  subst hx
  cases iv
  obtain ⟨_, _, ws, h1, h2⟩ := R.own a _ hc
  have cs : (ds = [] ∧ ∃ d, xs[xs.length - 1]? = some d ∧ Q d (cset C a (.lst xs.dropLast))) ∨ ∃ i k d, ds = [.int i] ∧ -9223372036854775808 ≤ i ∧ i < 9223372036854775808 ∧ seqIndex? i xs.length = some k ∧ xs[k]? = some d ∧ Q d (cset C a (.lst (xs.eraseIdx k))) := by
    match ds, h with
    | [], h => obtain ⟨d, h1, h2⟩ := orF_e h; exact .inl ⟨rfl, d, h1, h2⟩
    | [.int n], h => obtain ⟨⟨n1, n2⟩, h⟩ := h; obtain ⟨k, h1, h⟩ := orF_e h; obtain ⟨d, h2, q⟩ := orF_e h; exact .inr ⟨n, k, d, rfl, n1, n2, h1, h2, q⟩
  rcases cs with ⟨rfl, e, he, q⟩ | ⟨n, k, e, rfl, n1, n2, hk, he, q⟩
  · cases i
    obtain ⟨w, hw, iw⟩ := h2.get he
    exact .inl ⟨a, ws, w, rfl, rfl, h1, by rw [h2.length]; exact hw, g _ _ F _ _ (Ex.refl F) (R.put hc (show COk X.K F _ a (.lst xs.dropLast) from ⟨_, upd_same, h2.dropLast⟩)) iw q⟩
  · obtain ⟨u, rfl, iu⟩ := is1 i
    cases iu
    obtain ⟨w, hw, iw⟩ := h2.get he
    exact .inr ⟨a, ws, n, k, w, rfl, rfl, h1, n1, n2, by rw [h2.length]; exact hk, hw, g _ _ F _ _ (Ex.refl F) (R.put hc (show COk X.K F _ a (.lst (xs.eraseIdx k)) from ⟨_, upd_same, h2.eraseIdx k⟩)) iw q⟩⟩
def drExt : DRM := fun x ds C Q => inL C x fun a xs => one1 ds fun d => orF (asL C d) fun ys => xs.length + ys.length ≤ 16777216 ∧ Q .non (cset C a (.lst (xs ++ ys)))
theorem m_ext : MR X "list" "extend" drExt := ⟨_, _, PySem.F.plainAttrs_list, PySem.F.slot_list_extend, PySem.F.type_list_extend, mt_extend, fun G F H C v d vs ds Q QV R iv i h0 g => by
  obtain ⟨a, xs, hx, hc, h0⟩ := inL_e h0
  obtain ⟨e, hd, h0⟩ := one1_e h0
  obtain ⟨ys, hy, hl, q⟩ := orF_e h0
  subst hx; subst hd
  cases iv
  obtain ⟨w, rfl, iw⟩ := is1 i
  obtain ⟨_, _, ws, h1, h2⟩ := R.own a _ hc
  obtain ⟨b, us, rfl, h3, h4⟩ := asL_ok R iw hy
  exact ⟨a, b, ws, us, rfl, rfl, h1, h3, by rw [sizeLine_eq, h2.length, h4.length]; exact hl, g _ _ F _ _ (Ex.refl F) (R.put hc (show COk X.K F _ a (.lst (xs ++ ys)) from ⟨_, upd_same, h2.append h4⟩)) .non q⟩⟩
/-- of texts -/
def drJoin : DRM := fun x ds C Q => isS x fun a => one1 ds fun d => orF (asQ C d) fun xs => orF (strsD xs) fun ys => (ys.map (·.length)).sum + ys.length * a.length ≤ 16777216 ∧ Q (.str (Txt.join a ys)) C
theorem m_join : MR X "str" "join" drJoin := ⟨_, _, PySem.F.plainAttrs_str, PySem.F.slot_str_join, PySem.F.type_str_join, mt_join, fun G F H C v d vs ds Q QV R iv i h0 g => by
  obtain ⟨a, hx, h0⟩ := isS_e h0
  obtain ⟨e, hd, h0⟩ := one1_e h0
  obtain ⟨xs, hy, h0⟩ := orF_e h0
  obtain ⟨ys, hs, hl, q⟩ := orF_e h0
  rw [strsD_e hs] at hy
  subst hx; subst hd
  cases iv
  obtain ⟨w, rfl, iw⟩ := is1 i
  obtain ⟨b, us, rfl, h3, h4⟩ := asQ_ok R iw hy
  have e := h4.strs
  subst e
  exact ⟨a, b, ys, rfl, rfl, h3, hl, g _ _ F H C (Ex.refl F) R (.str _) q⟩⟩
def drSplit (k : Bool) : DRM := fun x ds C Q => isS x fun a => one1 ds fun e => isS e fun b => (b.length == 0) = false ∧ a.length + 2 ≤ 16777216 ∧ mk k ((Txt.split a b).map D.str) C Q
theorem m_split (k : Bool) : MR X "str" "split" (drSplit k) := ⟨_, _, PySem.F.plainAttrs_str, PySem.F.slot_str_split, PySem.F.type_str_split, mt_split, fun G F H C v d vs ds Q QV R iv i h0 g => by
  obtain ⟨a, hx, h0⟩ := isS_e h0
  obtain ⟨e, hd, h0⟩ := one1_e h0
  obtain ⟨b, hb, h1, h2, q⟩ := isS_e h0
  subst hx; subst hd; subst hb
  cases iv
  obtain ⟨w, rfl, iw⟩ := is1 i
  cases iw
  exact ⟨a, b, rfl, rfl, h1, by rw [sizeLine_eq]; exact h2, fun p hp => mk_ok k R hp (IsL.of_strs _) q g⟩⟩
def drStarts : DRM := fun x ds C Q => isS x fun a => one1 ds fun e => isS e fun b => Q (.bl (Txt.startswith a b)) C
theorem m_starts : MR X "str" "startswith" drStarts := ⟨_, _, PySem.F.plainAttrs_str, PySem.F.slot_str_startswith, PySem.F.type_str_startswith, mt_startswith, fun G F H C v d vs ds Q QV R iv i h0 g => by
  obtain ⟨a, hx, h0⟩ := isS_e h0
  obtain ⟨e, hd, h0⟩ := one1_e h0
  obtain ⟨b, hb, q⟩ := isS_e h0
  subst hx; subst hd; subst hb
  cases iv
  obtain ⟨w, rfl, iw⟩ := is1 i
  cases iw
  exact ⟨a, b, rfl, rfl, g _ _ F H C (Ex.refl F) R (.bl _) q⟩⟩
def drLower : DRM := fun x ds C Q => isS x fun a => ds = [] ∧ a.length ≤ 5592405 ∧ Q (.str (Txt.lower a)) C
theorem m_lower : MR X "str" "lower" drLower := ⟨_, _, PySem.F.plainAttrs_str, PySem.F.slot_str_lower, PySem.F.type_str_lower, mt_lower, fun G F H C v d vs ds Q QV R iv i h0 g => by
  obtain ⟨a, hx, hd, hl, q⟩ := isS_e h0
  subst hx; subst hd
  cases iv; cases i
  exact ⟨a, rfl, rfl, hl, g _ _ F H C (Ex.refl F) R (.str _) q⟩⟩
/-- reversed -/
def dRev (t : DTE) (σ : DSt) (C : CMap) (Q : List D → Option (Addr × List D) → CMap → Prop) : Prop := t σ C fun d C1 => orF (frS d) fun xs => Q xs.reverse none C1
theorem itv_frozen {F0 : Hp} {a : Addr} {vs : List V} {ds : List D} (h : SqL K F0 a vs) (i : IsL K F0 vs ds) : ItOk K F0 (Itv K a vs.length) none ds.reverse where
  go := fun G F H C j e R _ hj => by
    rw [List.length_reverse] at hj
    obtain ⟨v, hv, _⟩ := i.get (List.getElem?_eq_getElem (show ds.length - 1 - j < ds.length by omega))
    exact ⟨by rw [i.length]; exact hj, vs, v, ex_l (e.trans R.sub) h, by rw [i.length]; exact hv⟩
  yld := fun G F H C j d x H' e R _ hd hy => by
    obtain ⟨rfl, hx⟩ := hy
    have hj : j < ds.length := by have := (List.getElem?_eq_some_iff.mp hd).1; rw [List.length_reverse] at this; exact this
    rw [List.getElem?_reverse hj] at hd
    obtain ⟨v, hv, iv⟩ := i.get hd
    have z := hx vs (ex_l (e.trans R.sub) h)
    rw [i.length, hv] at z; cases z
    exact ⟨F, Ex.refl F, R, Is.mono e _ _ iv⟩
  stop := fun G F H C e R _ => by show vs.length ≤ _; rw [List.length_reverse, i.length]; exact Nat.le_refl _
theorem itvT_frozen {F0 : Hp} {a : Addr} {vs : List V} {ds : List D} (h : SqT K F0 a vs) (i : IsL K F0 vs ds) : ItOk K F0 (RT.ItvT K a vs.length) none ds.reverse where
  go := fun G F H C j e R _ hj => by
    rw [List.length_reverse] at hj
    obtain ⟨v, hv, _⟩ := i.get (List.getElem?_eq_getElem (show ds.length - 1 - j < ds.length by omega))
    exact ⟨by rw [i.length]; exact hj, vs, v, ex_t (e.trans R.sub) h, by rw [i.length]; exact hv⟩
  yld := fun G F H C j d x H' e R _ hd hy => by
    obtain ⟨rfl, hx⟩ := hy
    have hj : j < ds.length := by have := (List.getElem?_eq_some_iff.mp hd).1; rw [List.length_reverse] at this; exact this
    rw [List.getElem?_reverse hj] at hd
    obtain ⟨v, hv, iv⟩ := i.get hd
    have z := hx vs (ex_t (e.trans R.sub) h)
    rw [i.length, hv] at z; cases z
    exact ⟨F, Ex.refl F, R, Is.mono e _ _ iv⟩
  stop := fun G F H C e R _ => by show vs.length ≤ _; rw [List.length_reverse, i.length]; exact Nat.le_refl _
theorem pe_len {e : Expr} {t : TE} (h : PE X e t) : PE X e (fun σ H Q => t σ H fun v H1 => ((∀ a xs, SqL X.K H1 a xs → xs.length ≤ 16777216) ∧ ∀ a xs, SqT X.K H1 a xs → xs.length ≤ 16777216) → Q v H1) :=
  ⟨fun pins s σ H Q I q => thn (h.run pins s σ H _ I q) fun us s1 ⟨vs, H1, I1, r1, q1⟩ => ⟨vs, H1, I1, r1, q1 ⟨fun a xs hs => by rw [← sizeLine_eq]; exact (let ⟨_, _, _, z⟩ := I1.list hs; z), fun a xs hs => by rw [← sizeLine_eq]; exact (let ⟨_, _, _, z⟩ := I1.tuple hs; z)⟩⟩⟩
theorem i_rev {tg e : Expr} {t : DTE} {p pos : Pos} (hm : X.mg "reversed" = none) (he : DE X e t) (hg : Gl X "reversed" := by rfl) (hs : starEach [e] X.env = (false, eval e X.env) :: starEach [] X.env := by rfl) : DI X tg (.Call (.Name "reversed" p) [e] [] pos) (dRev t) :=
  DI.of (RT.pi_revA hg hm (pe_len he) hs) fun G F H C σV σ Q Rr R L q g => sim_upE G F H C σV σ _ _ R L q fun v d F1 H1 C1 e1 R1 i1 h0 ⟨l1, l2⟩ => by
    obtain ⟨xs, hd, q1⟩ := orF_e h0
    rcases frS_e hd with rfl | rfl | rfl
    · cases i1 with | lst h1 h2 =>
      have hsH := ex_l (K := X.K) R1.sub (SqL.of h1)
      exact ⟨_, _, rfl, .inl ⟨hsH, g F1 H1 C1 _ none _ e1 R1 (itv_frozen (SqL.of h1) h2) (by rw [List.length_reverse, ← h2.length]; exact l1 _ _ hsH) q1⟩⟩
    · cases i1 with | ro h1 h2 =>
      have hsH := ex_l R1.sub h1
      exact ⟨_, _, rfl, .inl ⟨hsH, g F1 H1 C1 _ none _ e1 R1 (itv_frozen h1 h2) (by rw [List.length_reverse, ← h2.length]; exact l1 _ _ hsH) q1⟩⟩
    · cases i1 with | tup h1 h2 =>
      have hsH := ex_t R1.sub h1
      exact ⟨_, _, rfl, .inr ⟨hsH, g F1 H1 C1 _ none _ e1 R1 (itvT_frozen h1 h2) (by rw [List.length_reverse, ← h2.length]; exact l2 _ _ hsH) q1⟩⟩
end DL

namespace DL
open PySem PySem.Spec PyProof.Rows L2
/-- a def that stands under the name x -/
def Dn (P : Program) (w : World) (K : PySem.W.Frag) (mg : Str → Option Value) (base : Heap) (k : Nat) (x : Str) (ps : List Str) (S : DSpec) : Prop :=
  ∃ (f : Addr) (fd : FuncData), FnD P w K mg base k f fd ps S ∧ mg x = some (.ref f) ∧ PySem.W.keepIn K (.ref f) = true ∧ Binds K fd ps []
variable {X : Cx} {k : Nat} {x : Str} {ps : List Str} {S : DSpec} {p pos : Pos} {e : Expr} {es : List Expr} {dt : DTA}
theorem e_def {n : Nat} (G : Dn X.prog X.w X.K X.mg X.base k x ps S) (hr : Room k X.A) (ha : DA X (e :: es) dt) (hn : ps.length = n := by rfl) (hg : Gl X x := by rfl) (hdb : (x == ("__debug__" : Str)) = false := by decide)
    (he : starEach (e :: es) X.env = (false, eval e X.env) :: starEach es X.env := by rfl) (hpl : (backTo pos (starEach es X.env)).any (·.1) = false := by rfl) :
    DE X (.Call (.Name x p) (e :: es) [] pos) (dCallN n S dt) :=
  let ⟨f, fd, F, hm, hk, hb⟩ := G
  hn ▸ e_call F hr hg hm hk hb ha hdb he hpl
theorem e_def0 {n : Nat} (G : Dn X.prog X.w X.K X.mg X.base k x ps S) (hr : Room k X.A) (hn : ps.length = n := by rfl) (hg : Gl X x := by rfl) (hdb : (x == ("__debug__" : Str)) = false := by decide) : DE X (.Call (.Name x p) [] [] pos) (dCallN n S dNil) :=
  let ⟨f, fd, F, hm, hk, hb⟩ := G
  hn ▸ e_call0 F hr hg hm hk hb hdb
end DL

namespace DL
open PySem PySem.Spec PyProof.Rows L2

/-! ### equal data -/
theorem deq_int {a b : Int} : deq (.int a) (.int b) = decide (a = b) := by
  show PyData.eqv (.int a) (.int b) = _; rw [PyData.eqv]; exact Bool.beq_eq_decide_eq a b
theorem deq_str {a b : Str} : deq (.str a) (.str b) = decide (a = b) := by
  show PyData.eqv (.str a) (.str b) = _; rw [PyData.eqv]; by_cases h : a = b
  · subst h; simp
  · rw [decide_eq_false h]; exact Bool.eq_false_iff.mpr fun q => h (eq_of_beq q)
theorem deq_bl {a b : Bool} : deq (.bl a) (.bl b) = decide (a = b) := by
  show PyData.eqv (.bool a) (.bool b) = _; rw [PyData.eqv]; exact Bool.beq_eq_decide_eq a b
theorem deq_non : deq .non .non = true := by show PyData.eqv .none .none = _; rw [PyData.eqv]
theorem deq_tup {a b : List D} : deq (.tup a) (.tup b) = deqL a b := by show PyData.eqv (.tuple (dpL a)) (.tuple (dpL b)) = _; rw [PyData.eqv]; rfl
theorem deq_lst {a b : List D} : deq (.lst a) (.lst b) = deqL a b := by show PyData.eqv (.list (dpL a)) (.list (dpL b)) = _; rw [PyData.eqv]; rfl
theorem deqL_nil : deqL [] [] = true := by show PyData.eqvAll [] [] = _; rw [PyData.eqvAll]
theorem deqL_cons {x y : D} {xs ys : List D} : deqL (x :: xs) (y :: ys) = (deq x y && deqL xs ys) := by show PyData.eqvAll (dp x :: dpL xs) (dp y :: dpL ys) = _; rw [PyData.eqvAll]; rfl
theorem deqL_nc {y : D} {ys : List D} : deqL [] (y :: ys) = false := by show PyData.eqvAll [] (dp y :: dpL ys) = _; rw [PyData.eqvAll] <;> simp
theorem deqL_cn {y : D} {ys : List D} : deqL (y :: ys) [] = false := by show PyData.eqvAll (dp y :: dpL ys) [] = _; rw [PyData.eqvAll] <;> simp
theorem flat_mono : ∀ (n m : Nat) (d : D), n ≤ m → flat n d = true → flat m d = true
  | n, m, .non, _, _ => by cases m <;> rfl
  | n, m, .bl _, _, _ => by cases m <;> rfl
  | n, m, .int _, _, _ => by cases m <;> rfl
  | n, m, .str _, _, _ => by cases m <;> rfl
  | n + 1, m + 1, .tup ds, h, f => by
    show ds.all (flat m) = true
    have f : ds.all (flat n) = true := f
    rw [List.all_eq_true] at f ⊢
    exact fun x hx => flat_mono n m x (by omega) (f x hx)
  | n + 1, m + 1, .lst ds, h, f => by
    show ds.all (flat m) = true
    have f : ds.all (flat n) = true := f
    rw [List.all_eq_true] at f ⊢
    exact fun x hx => flat_mono n m x (by omega) (f x hx)
  | n + 1, m + 1, .ro ds, h, f => by
    show ds.all (flat m) = true
    have f : ds.all (flat n) = true := f
    rw [List.all_eq_true] at f ⊢
    exact fun x hx => flat_mono n m x (by omega) (f x hx)

  | n, m, .cell _, _, f => by cases n <;> cases f
  | n, m, .ty _, _, f => by cases n <;> cases f
  | 0, m, .tup _, _, f => by cases f
  | 0, m, .lst _, _, f => by cases f
  | 0, m, .ro _, _, f => by cases f

/-! ### plain values as data -/
class En (α : Type) where
  e : α → D
  dep : Nat
  fl : ∀ x, flat dep (e x) = true
  inj : ∀ x y, deq (e x) (e y) = true ↔ x = y
abbrev E {α : Type} [En α] (x : α) : D := En.e x
abbrev EL {α : Type} [En α] (xs : List α) : List D := xs.map En.e
instance : En Int := ⟨.int, 0, fun _ => rfl, fun x y => by rw [deq_int, decide_eq_true_eq]⟩
instance : En Bool := ⟨.bl, 0, fun _ => rfl, fun x y => by rw [deq_bl, decide_eq_true_eq]⟩
instance : En Str := ⟨.str, 0, fun _ => rfl, fun x y => by rw [deq_str, decide_eq_true_eq]⟩
theorem En.all {α : Type} [En α] (n : Nat) (h : En.dep α ≤ n) (xs : List α) : (EL xs).all (flat n) = true := by
  rw [List.all_eq_true]
  intro d hd
  obtain ⟨x, _, rfl⟩ := List.mem_map.mp hd
  exact flat_mono _ _ _ h (En.fl x)
theorem En.fl30 {α : Type} [En α] (x : α) (h : En.dep α ≤ 30 := by decide) : flat 30 (E x) = true := flat_mono _ _ _ h (En.fl x)
theorem En.all30 {α : Type} [En α] (xs : List α) (h : En.dep α ≤ 30 := by decide) : (EL xs).all (flat 30) = true := En.all 30 h xs
theorem En.deqL {α : Type} [En α] : ∀ xs ys : List α, deqL (EL xs) (EL ys) = true ↔ xs = ys
  | [], [] => by simp [EL, deqL_nil]
  | [], y :: ys => by rw [EL, EL, List.map_nil, List.map_cons, deqL_nc]; simp
  | x :: xs, [] => by rw [EL, EL, List.map_nil, List.map_cons, deqL_cn]; simp
  | x :: xs, y :: ys => by
    show DL.deqL (En.e x :: EL xs) (En.e y :: EL ys) = true ↔ _
    rw [deqL_cons, Bool.and_eq_true, En.inj, En.deqL xs ys, List.cons.injEq]
instance {α : Type} [En α] : En (List α) := ⟨fun xs => .lst (EL xs), En.dep α + 1, fun xs => En.all _ (Nat.le_refl _) xs, fun x y => by rw [deq_lst]; exact En.deqL x y⟩
structure Tp (α : Type) where
  l : List α
  deriving DecidableEq
instance {α : Type} [En α] : En (Tp α) := ⟨fun xs => .tup (EL xs.l), En.dep α + 1, fun xs => En.all _ (Nat.le_refl _) xs.l, fun x y => by rw [deq_tup, En.deqL]; cases x; cases y; simp⟩
instance {α β : Type} [En α] [En β] : En (α × β) := ⟨fun x => .tup [E x.1, E x.2], max (En.dep α) (En.dep β) + 1,
  fun x => by show (flat _ _ && (flat _ _ && true)) = true; rw [flat_mono _ _ _ (Nat.le_max_left _ _) (En.fl x.1), flat_mono _ _ _ (Nat.le_max_right _ _) (En.fl x.2)]; rfl,
  fun x y => by
    rw [deq_tup, deqL_cons, deqL_cons, deqL_nil, Bool.and_true, Bool.and_eq_true, En.inj, En.inj]
    cases x; cases y; simp⟩
structure T3 (α β γ : Type) where
  a : α
  b : β
  c : γ
  deriving DecidableEq
instance {α β γ : Type} [En α] [En β] [En γ] : En (T3 α β γ) := ⟨fun x => .tup [E x.a, E x.b, E x.c], max (En.dep α) (max (En.dep β) (En.dep γ)) + 1,
  fun x => by
    show (flat _ _ && (flat _ _ && (flat _ _ && true))) = true
    rw [flat_mono _ _ _ (by omega) (En.fl x.a), flat_mono _ _ _ (by omega) (En.fl x.b), flat_mono _ _ _ (by omega) (En.fl x.c)]; rfl,
  fun x y => by
    rw [deq_tup, deqL_cons, deqL_cons, deqL_cons, deqL_nil, Bool.and_true, Bool.and_eq_true, Bool.and_eq_true, En.inj, En.inj, En.inj]
    cases x; cases y; simp⟩
structure T4 (α β γ δ : Type) where
  a : α
  b : β
  c : γ
  d : δ
  deriving DecidableEq
instance {α β γ δ : Type} [En α] [En β] [En γ] [En δ] : En (T4 α β γ δ) := ⟨fun x => .tup [E x.a, E x.b, E x.c, E x.d], max (En.dep α) (max (En.dep β) (max (En.dep γ) (En.dep δ))) + 1,
  fun x => by
    show (flat _ _ && (flat _ _ && (flat _ _ && (flat _ _ && true)))) = true
    rw [flat_mono _ _ _ (by omega) (En.fl x.a), flat_mono _ _ _ (by omega) (En.fl x.b), flat_mono _ _ _ (by omega) (En.fl x.c), flat_mono _ _ _ (by omega) (En.fl x.d)]; rfl,
  fun x y => by
    rw [deq_tup, deqL_cons, deqL_cons, deqL_cons, deqL_cons, deqL_nil, Bool.and_true, Bool.and_eq_true, Bool.and_eq_true, Bool.and_eq_true, En.inj, En.inj, En.inj, En.inj]
    cases x; cases y; simp⟩
/-- not None -/
class EnS (α : Type) [En α] where
  l : ∀ x : α, deq (En.e x) .non = false
  r : ∀ x : α, deq .non (En.e x) = false
instance : EnS Int := ⟨fun x => by show PyData.eqv (.int x) .none = _; rw [PyData.eqv]; all_goals simp, fun x => by show PyData.eqv .none (.int x) = _; rw [PyData.eqv]; all_goals simp⟩
instance : EnS Bool := ⟨fun x => by show PyData.eqv (.bool x) .none = _; rw [PyData.eqv]; all_goals simp, fun x => by show PyData.eqv .none (.bool x) = _; rw [PyData.eqv]; all_goals simp⟩
instance : EnS Str := ⟨fun x => by show PyData.eqv (.str x) .none = _; rw [PyData.eqv]; all_goals simp, fun x => by show PyData.eqv .none (.str x) = _; rw [PyData.eqv]; all_goals simp⟩
theorem deq_lst_non {xs : List D} : deq (.lst xs) .non = false := by show PyData.eqv (.list _) .none = _; rw [PyData.eqv]; all_goals simp
theorem deq_non_lst {xs : List D} : deq .non (.lst xs) = false := by show PyData.eqv .none (.list _) = _; rw [PyData.eqv]; all_goals simp
theorem deq_tup_non {xs : List D} : deq (.tup xs) .non = false := by show PyData.eqv (.tuple _) .none = _; rw [PyData.eqv]; all_goals simp
theorem deq_non_tup {xs : List D} : deq .non (.tup xs) = false := by show PyData.eqv .none (.tuple _) = _; rw [PyData.eqv]; all_goals simp
instance {α : Type} [En α] : EnS (List α) := ⟨fun x => deq_lst_non, fun x => deq_non_lst⟩
instance {α : Type} [En α] : EnS (Tp α) := ⟨fun x => deq_tup_non, fun x => deq_non_tup⟩
instance {α β : Type} [En α] [En β] : EnS (α × β) := ⟨fun x => deq_tup_non, fun x => deq_non_tup⟩
instance {α β γ : Type} [En α] [En β] [En γ] : EnS (T3 α β γ) := ⟨fun x => deq_tup_non, fun x => deq_non_tup⟩
instance {α β γ δ : Type} [En α] [En β] [En γ] [En δ] : EnS (T4 α β γ δ) := ⟨fun x => deq_tup_non, fun x => deq_non_tup⟩
def optE {α : Type} [En α] : Option α → D
  | none => .non
  | some x => En.e x
instance {α : Type} [En α] [EnS α] : En (Option α) := ⟨optE, En.dep α, fun x => by cases x with | none => cases En.dep α <;> rfl | some x => exact En.fl x,
  fun x y => by
    cases x with
    | none => cases y with
      | none => exact ⟨fun _ => rfl, fun _ => deq_non⟩
      | some y => exact ⟨fun h => (Bool.false_ne_true ((EnS.r y).symm.trans h)).elim, fun h => by cases h⟩
    | some x => cases y with
      | none => exact ⟨fun h => (Bool.false_ne_true ((EnS.l x).symm.trans h)).elim, fun h => by cases h⟩
      | some y => exact (En.inj x y).trans ⟨fun h => h ▸ rfl, fun h => by cases h; rfl⟩⟩
theorem En.deq {α : Type} [En α] [DecidableEq α] (x y : α) : deq (En.e x) (En.e y) = decide (x = y) := by
  by_cases h : x = y
  · rw [decide_eq_true h]; exact (En.inj x y).mpr h
  · rw [decide_eq_false h]; exact Bool.eq_false_iff.mpr fun q => h ((En.inj x y).mp q)
theorem En.deqL' {α : Type} [En α] [DecidableEq α] (x y : List α) : DL.deqL (EL x) (EL y) = decide (x = y) := by
  by_cases h : x = y
  · rw [decide_eq_true h]; exact (En.deqL x y).mpr h
  · rw [decide_eq_false h]; exact Bool.eq_false_iff.mpr fun q => h ((En.deqL x y).mp q)
theorem En.any {α : Type} [En α] (xs : List α) (y : α) [Decidable (y ∈ xs)] : ((EL xs).any fun z => DL.deq z (En.e y)) = decide (y ∈ xs) := by
  have h : ((EL xs).any fun z => DL.deq z (En.e y)) = true ↔ y ∈ xs := by
    rw [List.any_eq_true]
    constructor
    · rintro ⟨d, hd, he⟩
      obtain ⟨x, hx, rfl⟩ := List.mem_map.mp hd
      exact (En.inj x y).mp he ▸ hx
    · exact fun hy => ⟨_, List.mem_map.mpr ⟨y, hy, rfl⟩, (En.inj y y).mpr rfl⟩
  by_cases hy : y ∈ xs
  · rw [decide_eq_true hy]; exact h.mpr hy
  · rw [decide_eq_false hy]; exact Bool.eq_false_iff.mpr fun q => hy (h.mp q)
end DL

namespace DL
open PySem PySem.Spec PyProof.Rows L2

/-! ### loops with a typed state -/
def sets (σ : DSt) : List (Nat × Option D) → DSt
  | [] => σ
  | (i, o) :: r => sets (σ.set i o) r
section
variable {α β : Type} {w : Option (Addr × List D)} {g : DTG} {tb : DTS} {De : DEnds} {σ : DSt} {C : CMap} {Q : DQ} {vs : List Nat} {tt : DTT} {te : DTE} {k : Bool}
theorem for_w (xs : List α) (f : α → D) (I : List α → β → Prop) (S : β → DSt) (M : β → CMap) (b0 : β) (h0 : I [] b0) (l0 : Le (S b0) σ) (c0 : C = M b0)
    (turn : ∀ pre x post b, xs = pre ++ x :: post → I pre b → watch w (xs.map f) (M b) ∧ g (f x) (S b) (M b) fun σ2 C2 => tb { De with nx := fun σ3 C3 => ∃ b', I (pre ++ [x]) b' ∧ Le (S b') σ3 ∧ C3 = M b', ct := fun σ3 C3 => ∃ b', I (pre ++ [x]) b' ∧ Le (S b') σ3 ∧ C3 = M b', bk := De.nx } σ2 C2)
    (fin : ∀ b, I xs b → watch w (xs.map f) (M b) ∧ De.nx (S b) (M b)) : forI (xs.map f) w g tb De σ C := by
  rw [forI]
  refine ⟨fun i τ C' => ∃ b, I (xs.take i) b ∧ τ = S b ∧ C' = M b, ⟨S b0, l0, b0, by simpa using h0, rfl, c0⟩, ?_, ?_⟩
  · rintro i d σ' C' hd ⟨b, hI, rfl, rfl⟩
    rw [List.getElem?_map] at hd
    cases e : xs[i]? with
    | none => rw [e] at hd; cases hd
    | some x =>
    rw [e] at hd; cases hd
    obtain ⟨hi, hx⟩ := List.getElem?_eq_some_iff.mp e
    have hs : xs = xs.take i ++ x :: xs.drop (i + 1) := by
      have h1 : xs.drop i = x :: xs.drop (i + 1) := by rw [List.drop_eq_getElem_cons hi, hx]
      rw [← h1, List.take_append_drop]
    have h2 : xs.take (i + 1) = xs.take i ++ [x] := by rw [List.take_add_one, e]; rfl
    obtain ⟨hw, q⟩ := turn _ x _ b hs hI
    refine ⟨hw, _, ?_, q⟩
    rintro σ3 C3 ⟨b', hI', l', c'⟩
    exact ⟨S b', l', b', by rw [h2]; exact hI', rfl, c'⟩
  · rintro σ' C' ⟨b, hI, rfl, rfl⟩
    rw [List.length_map, List.take_length] at hI
    exact fin b hI
theorem for_p (xs : List α) (f : α → D) (I : List α → β → Prop) (S : β → DSt) (M : β → CMap) (b0 : β) (h0 : I [] b0) (l0 : Le (S b0) σ) (c0 : C = M b0)
    (turn : ∀ pre x post b, xs = pre ++ x :: post → I pre b → g (f x) (S b) (M b) fun σ2 C2 => tb { De with nx := fun σ3 C3 => ∃ b', I (pre ++ [x]) b' ∧ Le (S b') σ3 ∧ C3 = M b', ct := fun σ3 C3 => ∃ b', I (pre ++ [x]) b' ∧ Le (S b') σ3 ∧ C3 = M b', bk := De.nx } σ2 C2)
    (fin : ∀ b, I xs b → De.nx (S b) (M b)) : forI (xs.map f) none g tb De σ C :=
  for_w xs f I S M b0 h0 l0 c0 (fun pre x post b h i => ⟨trivial, turn pre x post b h i⟩) fun b h => ⟨trivial, fin b h⟩
theorem for_r {lo : Int} {n : Nat} (I : Nat → β → Prop) (S : β → DSt) (M : β → CMap) (b0 : β) (h0 : I 0 b0) (l0 : Le (S b0) σ) (c0 : C = M b0)
    (turn : ∀ i b, i < n → I i b → g (.int (lo + (i : Nat))) (S b) (M b) fun σ2 C2 => tb { De with nx := fun σ3 C3 => ∃ b', I (i + 1) b' ∧ Le (S b') σ3 ∧ C3 = M b', ct := fun σ3 C3 => ∃ b', I (i + 1) b' ∧ Le (S b') σ3 ∧ C3 = M b', bk := De.nx } σ2 C2)
    (fin : ∀ b, I n b → De.nx (S b) (M b)) : forI (rgD lo n) none g tb De σ C := by
  rw [forI]
  refine ⟨fun i τ C' => ∃ b, I i b ∧ τ = S b ∧ C' = M b, ⟨S b0, l0, b0, h0, rfl, c0⟩, ?_, ?_⟩
  · rintro i d σ' C' hd ⟨b, hI, rfl, rfl⟩
    have hi : i < n := by
      have := (List.getElem?_eq_some_iff.mp hd).1
      rwa [rgD_length] at this
    rw [rgD_get hi] at hd; cases hd
    refine ⟨trivial, _, ?_, turn i b hi hI⟩
    rintro σ3 C3 ⟨b', hI', l', c'⟩
    exact ⟨S b', l', b', hI', rfl, c'⟩
  · rintro σ' C' ⟨b, hI, rfl, rfl⟩
    rw [rgD_length] at hI
    exact ⟨trivial, fin b hI⟩
theorem for_rc {lo : Int} {n : Nat} (I : Nat → Prop) (σ0 : DSt) (l0 : Le σ0 σ) (h0 : I 0)
    (turn : ∀ i, i < n → I i → g (.int (lo + (i : Nat))) σ0 C fun σ2 C2 => tb { De with nx := fun σ3 C3 => I (i + 1) ∧ Le σ0 σ3 ∧ C3 = C, ct := fun σ3 C3 => I (i + 1) ∧ Le σ0 σ3 ∧ C3 = C, bk := De.nx } σ2 C2)
    (fin : I n → De.nx σ0 C) : forI (rgD lo n) none g tb De σ C := by
  refine for_r (fun i (_ : Unit) => I i) (fun _ => σ0) (fun _ => C) () h0 l0 rfl (fun i _ hi h => ?_) fun _ => fin
  have e : (fun (σ3 : DSt) (C3 : CMap) => ∃ _ : Unit, I (i + 1) ∧ Le σ0 σ3 ∧ C3 = C) = fun σ3 C3 => I (i + 1) ∧ Le σ0 σ3 ∧ C3 = C := funext fun a => funext fun b => propext ⟨fun ⟨_, q⟩ => q, fun q => ⟨(), q⟩⟩
  rw [e]
  exact turn i hi h
theorem for_pc (xs : List α) (f : α → D) (I : List α → Prop) (σ0 : DSt) (l0 : Le σ0 σ) (h0 : I [])
    (turn : ∀ pre x post, xs = pre ++ x :: post → I pre → g (f x) σ0 C fun σ2 C2 => tb { De with nx := fun σ3 C3 => I (pre ++ [x]) ∧ Le σ0 σ3 ∧ C3 = C, ct := fun σ3 C3 => I (pre ++ [x]) ∧ Le σ0 σ3 ∧ C3 = C, bk := De.nx } σ2 C2)
    (fin : I xs → De.nx σ0 C) : forI (xs.map f) none g tb De σ C := by
  refine for_p xs f (fun i (_ : Unit) => I i) (fun _ => σ0) (fun _ => C) () h0 l0 rfl (fun pre x post _ hx h => ?_) fun _ => fin
  have e : (fun (σ3 : DSt) (C3 : CMap) => ∃ _ : Unit, I (pre ++ [x]) ∧ Le σ0 σ3 ∧ C3 = C) = fun σ3 C3 => I (pre ++ [x]) ∧ Le σ0 σ3 ∧ C3 = C := funext fun a => funext fun b => propext ⟨fun ⟨_, q⟩ => q, fun q => ⟨(), q⟩⟩
  rw [e]
  exact turn pre x post hx h
/-- one append a turn -/
theorem for_ra {lo : Int} {n : Nat} {p : Addr} (h : Nat → D) (σ0 : DSt) (l0 : Le σ0 σ)
    (turn : ∀ i (acc : List D), i < n → acc.length = i → g (.int (lo + (i : Nat))) σ0 (cset C p (.lst acc)) fun σ2 C2 => tb { De with nx := fun σ3 C3 => Le σ0 σ3 ∧ C3 = cset C p (.lst (acc ++ [h i])), ct := fun σ3 C3 => Le σ0 σ3 ∧ C3 = cset C p (.lst (acc ++ [h i])), bk := De.nx } σ2 C2)
    (fin : De.nx σ0 (cset C p (.lst ((List.range n).map h)))) : forI (rgD lo n) none g tb De σ (cset C p (.lst [])) := by
  rw [forI]
  refine ⟨fun i τ C' => τ = σ0 ∧ i ≤ n ∧ C' = cset C p (.lst ((List.range i).map h)), ⟨σ0, l0, rfl, Nat.zero_le _, rfl⟩, ?_, ?_⟩
  · rintro i d σ' C' hd ⟨rfl, hi', rfl⟩
    have hi : i < n := by
      have := (List.getElem?_eq_some_iff.mp hd).1
      rwa [rgD_length] at this
    rw [rgD_get hi] at hd; cases hd
    refine ⟨trivial, _, ?_, turn i _ hi (by simp)⟩
    rintro σ3 C3 ⟨l', rfl⟩
    exact ⟨_, l', rfl, hi, by rw [List.range_succ, List.map_append]; rfl⟩
  · rintro σ' C' ⟨rfl, _, rfl⟩
    rw [rgD_length]
    exact ⟨trivial, fin⟩
theorem for_pa {p : Addr} (xs : List α) (f : α → D) (h : α → D) (σ0 : DSt) (l0 : Le σ0 σ)
    (turn : ∀ x (acc : List D), x ∈ xs → acc.length < xs.length → g (f x) σ0 (cset C p (.lst acc)) fun σ2 C2 => tb { De with nx := fun σ3 C3 => Le σ0 σ3 ∧ C3 = cset C p (.lst (acc ++ [h x])), ct := fun σ3 C3 => Le σ0 σ3 ∧ C3 = cset C p (.lst (acc ++ [h x])), bk := De.nx } σ2 C2)
    (fin : De.nx σ0 (cset C p (.lst (xs.map h)))) : forI (xs.map f) none g tb De σ (cset C p (.lst [])) := by
  rw [forI]
  refine ⟨fun i τ C' => τ = σ0 ∧ C' = cset C p (.lst ((xs.take i).map h)), ⟨σ0, l0, rfl, rfl⟩, ?_, ?_⟩
  · rintro i d σ' C' hd ⟨rfl, rfl⟩
    rw [List.getElem?_map] at hd
    cases e : xs[i]? with
    | none => rw [e] at hd; cases hd
    | some x =>
    rw [e] at hd; cases hd
    have hi := (List.getElem?_eq_some_iff.mp e).1
    refine ⟨trivial, _, ?_, turn x _ (List.mem_of_getElem? e) (by simp; omega)⟩
    rintro σ3 C3 ⟨l', rfl⟩
    exact ⟨_, l', rfl, by rw [List.take_add_one, e, List.map_append]; rfl⟩
  · rintro σ' C' ⟨rfl, rfl⟩
    rw [List.length_map, List.take_length]
    exact ⟨trivial, fin⟩
theorem while_i {c : DTT} (I : β → Prop) (μ : β → Nat) (S : β → DSt) (M : β → CMap) (b0 : β) (h0 : I b0) (l0 : Le (S b0) σ) (c0 : C = M b0)
    (turn : ∀ b, I b → c (S b) (M b) fun t C1 => bcase t (tb { De with nx := fun σ3 C3 => ∃ b', I b' ∧ μ b' < μ b ∧ Le (S b') σ3 ∧ C3 = M b', ct := fun σ3 C3 => ∃ b', I b' ∧ μ b' < μ b ∧ Le (S b') σ3 ∧ C3 = M b', bk := De.nx } (S b) C1) (De.nx (S b) C1)) :
    whileI c tb De σ C := by
  rw [whileI]
  refine ⟨fun m τ C' => ∃ b, I b ∧ m = μ b ∧ τ = S b ∧ C' = M b, ⟨μ b0, S b0, l0, b0, h0, rfl, rfl, c0⟩, ?_⟩
  rintro m σ' C' ⟨b, hI, rfl, rfl, rfl⟩
  refine ⟨_, ?_, turn b hI⟩
  rintro σ3 C3 ⟨b', hI', hm, l', c'⟩
  exact ⟨μ b', S b', hm, l', b', hI', rfl, rfl, c'⟩
theorem lc_w (xs : List α) (f : α → D) (p : α → Bool) (h : α → D) (hw : watch w (xs.map f) C)
    (turn : ∀ x, x ∈ xs → g (f x) (dwipe σ vs) C fun σ2 C2 => tt σ2 C2 fun b C3 => bcase b (te σ2 C3 fun y C4 => p x = true ∧ y = h x ∧ C4 = C) (p x = false ∧ C3 = C))
    (fin : mk k ((xs.filter p).map h) C Q) : lcI k (xs.map f) w g tt te vs σ C Q := by
  rw [lcI]
  refine ⟨fun i acc C' => acc = ((xs.take i).filter p).map h ∧ C' = C, ⟨by simp, rfl⟩, ?_, ?_⟩
  · rintro i d acc C' hd ⟨rfl, rfl⟩
    rw [List.getElem?_map] at hd
    cases e : xs[i]? with
    | none => rw [e] at hd; cases hd
    | some x =>
    rw [e] at hd; cases hd
    have h2 : xs.take (i + 1) = xs.take i ++ [x] := by rw [List.take_add_one, e]; rfl
    refine ⟨hw, _, _, ?_, ?_, turn x (List.mem_of_getElem? e)⟩
    · rintro y C4 ⟨hp, rfl, rfl⟩
      refine ⟨?_, rfl⟩
      rw [h2, List.filter_append, List.map_append, List.filter_cons, if_pos hp]; rfl
    · rintro C3 ⟨hp, rfl⟩
      refine ⟨?_, rfl⟩
      rw [h2, List.filter_append, List.map_append, List.filter_cons, if_neg (by simp [hp])]; simp
  · rintro acc C' ⟨rfl, rfl⟩
    rw [List.length_map, List.take_length]
    exact ⟨hw, fin⟩
theorem lc_f (xs : List α) (f : α → D) (p : α → Bool) (h : α → D)
    (turn : ∀ x, x ∈ xs → g (f x) (dwipe σ vs) C fun σ2 C2 => tt σ2 C2 fun b C3 => bcase b (te σ2 C3 fun y C4 => p x = true ∧ y = h x ∧ C4 = C) (p x = false ∧ C3 = C))
    (fin : mk k ((xs.filter p).map h) C Q) : lcI k (xs.map f) none g tt te vs σ C Q := lc_w xs f p h trivial turn fin
theorem lc_r {lo : Int} {n : Nat} (p : Nat → Bool) (h : Nat → D)
    (turn : ∀ i, i < n → g (.int (lo + (i : Nat))) (dwipe σ vs) C fun σ2 C2 => tt σ2 C2 fun b C3 => bcase b (te σ2 C3 fun y C4 => p i = true ∧ y = h i ∧ C4 = C) (p i = false ∧ C3 = C))
    (fin : mk k (((List.range n).filter p).map h) C Q) : lcI k (rgD lo n) none g tt te vs σ C Q :=
  lc_f (List.range n) (fun i => D.int (lo + (i : Nat))) p h (fun x hx => turn x (List.mem_range.mp hx)) fin
/-- all kept -/
theorem lc_m (xs : List α) (f : α → D) (h : α → D)
    (turn : ∀ x, x ∈ xs → g (f x) (dwipe σ vs) C fun σ2 C2 => tt σ2 C2 fun b C3 => bcase b (te σ2 C3 fun y C4 => y = h x ∧ C4 = C) False)
    (fin : mk k (xs.map h) C Q) : lcI k (xs.map f) none g tt te vs σ C Q := by
  rw [lcI]
  refine ⟨fun i acc C' => acc = (xs.take i).map h ∧ C' = C, ⟨by simp, rfl⟩, ?_, ?_⟩
  · rintro i d acc C' hd ⟨rfl, rfl⟩
    rw [List.getElem?_map] at hd
    cases e : xs[i]? with
    | none => rw [e] at hd; cases hd
    | some x =>
    rw [e] at hd; cases hd
    have h2 : xs.take (i + 1) = xs.take i ++ [x] := by rw [List.take_add_one, e]; rfl
    refine ⟨trivial, _, _, ?_, ?_, turn x (List.mem_of_getElem? e)⟩
    · rintro y C4 ⟨rfl, rfl⟩
      refine ⟨?_, rfl⟩
      rw [h2, List.map_append]; rfl
    · exact fun C3 h => h.elim
  · rintro acc C' ⟨rfl, rfl⟩
    rw [List.length_map, List.take_length]
    exact ⟨trivial, fin⟩
theorem lc_mr {lo : Int} {n : Nat} (h : Nat → D)
    (turn : ∀ i, i < n → g (.int (lo + (i : Nat))) (dwipe σ vs) C fun σ2 C2 => tt σ2 C2 fun b C3 => bcase b (te σ2 C3 fun y C4 => y = h i ∧ C4 = C) False)
    (fin : mk k ((List.range n).map h) C Q) : lcI k (rgD lo n) none g tt te vs σ C Q :=
  lc_m (List.range n) (fun i => D.int (lo + (i : Nat))) h (fun x hx => turn x (List.mem_range.mp hx)) fin
/-- all kept, each of any worth that R allows -/
theorem lc_any {γ : Type} (xs : List α) (f : α → D) (R : α → γ → Prop) (h : γ → D)
    (turn : ∀ x, x ∈ xs → g (f x) (dwipe σ vs) C fun σ2 C2 => tt σ2 C2 fun b C3 => bcase b (te σ2 C3 fun y C4 => (∃ z, R x z ∧ y = h z) ∧ C4 = C) False)
    (fin : ∀ zs : List γ, zs.length = xs.length → (∀ x z, (x, z) ∈ xs.zip zs → R x z) → mk k (zs.map h) C Q) : lcI k (xs.map f) none g tt te vs σ C Q := by
  rw [lcI]
  refine ⟨fun i acc C' => (∃ zs : List γ, acc = zs.map h ∧ zs.length = min i xs.length ∧ ∀ x z, (x, z) ∈ xs.zip zs → R x z) ∧ C' = C, ⟨⟨[], rfl, by simp, by simp⟩, rfl⟩, ?_, ?_⟩
  · rintro i d acc C' hd ⟨⟨zs, rfl, hl, hz⟩, rfl⟩
    rw [List.getElem?_map] at hd
    cases e : xs[i]? with
    | none => rw [e] at hd; cases hd
    | some x =>
    rw [e] at hd; cases hd
    obtain ⟨hi, hx⟩ := List.getElem?_eq_some_iff.mp e
    refine ⟨trivial, _, _, ?_, ?_, turn x (List.mem_of_getElem? e)⟩
    · rintro y C4 ⟨⟨z, hr, rfl⟩, rfl⟩
      refine ⟨⟨zs ++ [z], by simp, by rw [List.length_append, hl]; simp; omega, ?_⟩, rfl⟩
      intro x' z' hm
      have hl' : zs.length = i := by rw [hl]; omega
      have hs : xs = xs.take i ++ x :: xs.drop (i + 1) := by
        have h1 : xs.drop i = x :: xs.drop (i + 1) := by rw [List.drop_eq_getElem_cons hi, hx]
        rw [← h1, List.take_append_drop]
      rw [hs, List.zip_append (by rw [List.length_take]; omega)] at hm
      rcases List.mem_append.mp hm with hm | hm
      · refine hz x' z' ?_
        rw [hs, ← List.append_nil zs, List.zip_append (by rw [List.length_take]; omega)]
        exact List.mem_append_left _ hm
      · rw [List.zip_cons_cons] at hm
        simp at hm
        rw [hm.1, hm.2]; exact hr
    · exact fun C3 h => h.elim
  · rintro acc C' ⟨⟨zs, rfl, hl, hz⟩, rfl⟩
    exact ⟨trivial, fin zs (by rw [hl]; simp) hz⟩
end

/-! ### steps -/
theorem asL_c {o : Option CO} {ds : List D} (h : o = some (.lst ds)) : (match o with | some (.lst ds) => some ds | _ => none) = some ds := by subst h; rfl
theorem fresh_ne {C : CMap} {p q : Addr} {o : CO} (h : cset C p o q = none) : q ≠ p ∧ C q = none := by
  by_cases e : q = p
  · subst e; rw [cset_same] at h; cases h
  · rw [cset_ne e] at h; exact ⟨e, h⟩
theorem ne_of_some {C : CMap} {p q : Addr} {o : CO} (h : C p = some o) (h' : C q = none) : p ≠ q := fun e => by subst e; rw [h] at h'; cases h'
theorem atI_n {α : Type} {xs : List α} {j : Nat} {x : α} (h : xs[j]? = some x) : atI xs (j : Int) = some x := by
  have := (List.getElem?_eq_some_iff.mp h).1
  unfold atI ixN; rw [if_pos (by omega), if_pos (by omega)]; exact h
theorem atI_i {α : Type} {xs : List α} {i : Int} {x : α} (h0 : 0 ≤ i) (h : xs[i.toNat]? = some x) : atI xs i = some x := by
  have := atI_n h; rwa [Int.toNat_of_nonneg h0] at this
theorem atI_neg {α : Type} {xs : List α} {i : Int} {x : α} (h0 : i < 0) (h1 : -(xs.length : Int) ≤ i) (h : xs[(i + xs.length).toNat]? = some x) : atI xs i = some x := by
  unfold atI ixN; rw [if_neg (by omega), if_pos h1]; exact h
theorem atI_nm {α β : Type} {xs : List α} {f : α → β} {j : Nat} {x : α} (h : xs[j]? = some x) : atI (xs.map f) (j : Int) = some (f x) := atI_n (by rw [List.getElem?_map, h]; rfl)
theorem atI_im {α β : Type} {xs : List α} {f : α → β} {i : Int} {x : α} (h0 : 0 ≤ i) (h : xs[i.toNat]? = some x) : atI (xs.map f) i = some (f x) := atI_i h0 (by rw [List.getElem?_map, h]; rfl)
theorem orI_e {b : Int} {k : Int → Prop} (h : k b) : isI (.int b) k := h
theorem tyN_cell {C : CMap} {a : Addr} {ds : List D} (h : C a = some (.lst ds)) : tyN C (.cell a) = some "list" := by show (match C a with | some (.lst _) => some "list" | some (.dK _) => some "dict" | some (.dT _) => some "dict" | _ => none) = _; rw [h]
theorem fl_l {C : CMap} {α : Type} [En α] (xs : List α) (h : En.dep α ≤ 29 := by decide) : flat 30 (rd C (.lst (xs.map E))) = true := En.all 29 h xs
theorem fl_c {C : CMap} {α : Type} [En α] {p : Addr} {xs : List α} (hp : C p = some (.lst (xs.map E))) (h : En.dep α ≤ 29 := by decide) : flat 30 (rd C (.cell p)) = true := by rw [rd_cell hp]; exact En.all 29 h xs
theorem fl_all {α : Type} [En α] (xs : List α) (h : En.dep α ≤ 30 := by decide) : (xs.map E).all (flat 30) = true := En.all 30 h xs
theorem deq_l {α : Type} [En α] [DecidableEq α] (xs ys : List α) : deq (.lst (xs.map E)) (.lst (ys.map E)) = decide (xs = ys) := by rw [deq_lst]; exact En.deqL' xs ys
theorem deq_l0 {α : Type} [En α] (xs : List α) : deq (.lst (xs.map E)) (.lst []) = xs.isEmpty := by
  rw [deq_lst]; cases xs with
  | nil => exact deqL_nil
  | cons x xs => exact deqL_cn
theorem deq_0l (ds : List D) : deq (.lst ds) (.lst []) = ds.isEmpty := by
  rw [deq_lst]; cases ds with
  | nil => exact deqL_nil
  | cons x xs => exact deqL_cn
theorem q_eq {x y : D} {C : CMap} {Q : DQ} (q : Q y C) (h : x = y) : Q x C := h ▸ q
theorem fl_g {C : CMap} {α : Type} (xs : List α) (g : α → D) (h : ∀ x, flat 29 (g x) = true := by intro _; rfl) : flat 30 (rd C (.lst (xs.map g))) = true := by
  show (xs.map g).all (flat 29) = true
  rw [List.all_eq_true]
  intro d hd
  obtain ⟨x, _, rfl⟩ := List.mem_map.mp hd
  exact h x
end DL

namespace DL
open PySem PySem.Spec PyProof.Rows L2
local macro_rules | `(tactic| walk_at "w") => `(tactic| conv => whnf)
local macro_rules | `(tactic| walk_at "lk") => `(tactic| first | exact cset_same | assumption | (refine (cset_ne (by first | assumption | (apply Ne.symm; assumption))).trans ?_; walk_at "lk"))
local macro_rules | `(tactic| walk_at "nn") => `(tactic| first | assumption | (refine (cset_ne (by first | assumption | (apply Ne.symm; assumption))).trans ?_; walk_at "nn"))
local macro_rules | `(tactic| walk_at "side") => `(tactic| first | rfl | decide | omega | (dsimp only; first | done | decide | omega) | exact Or.inr (by decide) | exact Or.inl (by decide) | exact dTy_lst (asL_cell (by walk_at "lk")) | exact En.fl30 _ | exact En.all30 _ | exact fl_l _ | exact fl_all _ | exact fl_g _ _ | exact fl_c (by walk_at "lk") | (simp only [List.length_map, List.length_append, List.length_cons, List.length_nil]; omega) | (walk_at "my"))
local macro_rules | `(tactic| walk_at "go1") => `(tactic| first | refine And.intro (by walk_at "side") ?_ | refine orF_i (asL_cell (by walk_at "lk")) ?_ | refine orF_i (asQ_cell (by walk_at "lk")) ?_ | refine orF_i (asR_cell (by walk_at "lk")) ?_ | refine orF_i (lenD_cell (by walk_at "lk")) ?_ | refine orF_i (seqOf_cell (by walk_at "lk")) ?_ | refine orF_i (tyN_cell (by walk_at "lk")) ?_ | refine frzC_n (by walk_at "nn") ?_ | refine frzC_i (by walk_at "lk") ?_)
local macro_rules | `(tactic| walk_at "go") => `(tactic| (walk_at "w"; repeat (walk_at "go1"; walk_at "w")))
local macro_rules | `(tactic| walk_at "le") => `(tactic| (repeat (first | exact trivial | refine ⟨rfl, ?_⟩)))

/-! ### the laws' own helpers: what they promise -/
def S_cell : DSpec := fun ds C Q => ∃ (xs : List Int) (k : Int), ds = [.ro (xs.map D.int), .int k] ∧ 0 ≤ k ∧ ∀ v : Int, Q (.int v) C
def S_draw : DSpec := fun ds C Q => ∃ (b : Addr) (m : Int), ds = [.cell b, .int m] ∧ C b = some .box ∧ 0 < m ∧ ∀ r : Int, 0 ≤ r → r < m → Q (.int r) C
def S_digits : DSpec := fun ds C Q => ∃ (xs : List Int) (a b : Int), ds = [.ro (xs.map D.int), .int a, .int b] ∧ (0 ≤ a ∧ a ≤ 1000) ∧ (0 ≤ b ∧ b ≤ 1000) ∧
  ∀ ys : List Int, (∀ y ∈ ys, 0 ≤ y ∧ y < 1000) → ys.length ≤ 60000 → mk true (ys.map D.int) C Q
def S_pick : DSpec := fun ds C Q => ∃ (b : Addr) (row : D) (xs : List D), ds = [.cell b, row] ∧ C b = some .box ∧ (row = .lst xs ∨ row = .tup xs) ∧ xs ≠ [] ∧ xs.length ≤ 1000 ∧ ∀ d ∈ xs, Q d C
/-- what _law_same takes -/
def okD : Nat → D → Prop
  | _, .non => True
  | _, .bl _ => True
  | _, .int i => strOk i
  | _, .str s => (reprText s).length ≤ 16777216
  | n + 1, .tup ds => ds.length ≤ 16777216 ∧ ∀ d ∈ ds, okD n d
  | n + 1, .lst ds => ds.length ≤ 16777216 ∧ ∀ d ∈ ds, okD n d
  | _, _ => False
def S_same (n : Nat) : DSpec := fun ds C Q => ∃ a b, ds = [a, b] ∧ rd C a = rd C b ∧ okD n (rd C b) ∧ Q (.bl true) C

def d__law_cell_2 : DTS := (dRet (dC (.int 0)))
def d__law_cell_1 : DTS := (dRet (dIx (dV 0) (dV 1)))
def d__law_cell_0 : DTS := dSeq (dIf (dTest (dBin (drOrd .Lt) (dV 1) (dB drLen (dCons (dV 0) dNil)))) d__law_cell_1 dNext) d__law_cell_2
abbrev N__law_cell : List Str := ["script", "k"]
def d__law_draw_3 : DTS := (dRet (dMd (dB drInt (dCons (dIx (dIx (dV 0) (dC (.int 0))) (dSub (dIx (dV 0) (dC (.int 1))) (dC (.int 1)))) dNil)) (dV 1)))
def d__law_draw_2 : DTS := (dRet (dMd (dB drInt (dCons (dAdd false (dMul false (dIx (dV 0) (dC (.int 1))) (dC (.int 7))) (dC (.int 3))) dNil)) (dV 1)))
def d__law_draw_1 : DTS := dSeq (dIf (dTest (dBin (drOrd .Gt) (dIx (dV 0) (dC (.int 1))) (dB drLen (dCons (dIx (dV 0) (dC (.int 0))) dNil)))) d__law_draw_2 dNext) d__law_draw_3
def d__law_draw_0 : DTS := dSeq (dAsg (dAdd false (dIx (dV 0) (dC (.int 1))) (dC (.int 1))) (gS drSetL (dV 0) (dC (.int 1)))) d__law_draw_1
abbrev N__law_draw : List Str := ["box", "many"]
def d__law_digits_14 : DTS := (dRet (dV 3))
def d__law_digits_13 : DTS := (dDo (dM "list" drApp (dV 3) (dCons (dMd (dB drInt (dCons (dFd (dV 7) (dC (.int 997))) dNil)) (dC (.int 1000))) dNil)))
def d__law_digits_12 : DTS := dSeq (dSet 7 (dMd (dB drInt (dCons (dAdd false (dAdd false (dMul false (dV 7) (dC (.int 16807))) (dMul false (dC (.int 7)) (dV 6))) (dC (.int 1))) dNil)) (dC (.int 2147483647)))) d__law_digits_13
def d__law_digits_11 : DTS := (dFor (dRg1 (dCons (dC (.int 12)) dNil)) (gN 6) d__law_digits_12)
def d__law_digits_10 : DTS := dSeq (dSet 7 (dMd (dB drInt (dCons (dAdd false (dAdd false (dMul false (dV 5) (dC (.int 48271))) (dMul false (dV 4) (dC (.int 69621)))) (dC (.int 11))) dNil)) (dC (.int 2147483647)))) d__law_digits_11
def d__law_digits_9 : DTS := (dSet 5 (dFd (dV 5) (dC (.int 1000))))
def d__law_digits_8 : DTS := dSeq (dDo (dM "list" drApp (dV 3) (dCons (dMd (dB drInt (dCons (dV 5) dNil)) (dC (.int 1000))) dNil))) d__law_digits_9
def d__law_digits_7 : DTS := (dIf (dTest (dBin (drOrd .Gt) (dV 5) (dC (.int 0)))) d__law_digits_8 dNext)
def d__law_digits_6 : DTS := (dFor (dRg1 (dCons (dC (.int 60)) dNil)) (gN 6) d__law_digits_7)
def d__law_digits_5 : DTS := (dIf (dTest (dBin (drOrd .GtE) (dV 5) (dPw (dC (.int 10)) (dC (.int 18))))) d__law_digits_6 d__law_digits_10)
def d__law_digits_4 : DTS := (dSet 5 (dSub (dC (.int 1)) (dMul false (dC (.int 2)) (dV 5))))
def d__law_digits_3 : DTS := dSeq (dIf (dTest (dBin (drOrd .Lt) (dV 5) (dC (.int 0)))) d__law_digits_4 dNext) d__law_digits_5
def d__law_digits_2 : DTS := dSeq (dSet 5 (dCallN 2 S_cell (dCons (dV 0) (dCons (dV 4) dNil)))) d__law_digits_3
def d__law_digits_1 : DTS := dSeq (dFor (dRg2 (dCons (dV 1) (dCons (dV 2) dNil))) (gN 4) d__law_digits_2) d__law_digits_14
def d__law_digits_0 : DTS := dSeq (dSet 3 (dLst true dNil)) d__law_digits_1
abbrev N__law_digits : List Str := ["script", "first", "last", "digits", "k", "cell", "go", "seed"]
def d__law_pick_0 : DTS := (dRet (dIx (dV 1) (dMd (dB drInt (dCons (dCallN 2 S_draw (dCons (dV 0) (dCons (dC (.int 1000)) dNil))) dNil)) (dB drLen (dCons (dV 1) dNil)))))
abbrev N__law_pick : List Str := ["box", "row"]
def d__law_same_17 (S__law_same : DSpec) : DTS := (dRet (dC (.bl true)))
def d__law_same_16 (S__law_same : DSpec) : DTS := (dRet (dC (.bl false)))
def d__law_same_15 (S__law_same : DSpec) : DTS := (dIf (dNot (dTr (dCallN 2 S__law_same (dCons (dIx (dV 0) (dV 2)) (dCons (dIx (dV 1) (dV 2)) dNil))))) (d__law_same_16 S__law_same) dNext)
def d__law_same_14 (S__law_same : DSpec) : DTS := dSeq (dFor (dRg1 (dCons (dB drLen (dCons (dV 1) dNil)) dNil)) (gN 2) (d__law_same_15 S__law_same)) (d__law_same_17 S__law_same)
def d__law_same_13 (S__law_same : DSpec) : DTS := (dRet (dC (.bl false)))
def d__law_same_12 (S__law_same : DSpec) : DTS := dSeq (dIf (dTest (dBin (drEq true) (dB drLen (dCons (dV 0) dNil)) (dB drLen (dCons (dV 1) dNil)))) (d__law_same_13 S__law_same) dNext) (d__law_same_14 S__law_same)
def d__law_same_11 (S__law_same : DSpec) : DTS := (dRet (dC (.bl false)))
def d__law_same_10 (S__law_same : DSpec) : DTS := dSeq (dIf (dOr (dAnd (dTr (dB drIsi (dCons (dV 1) (dCons (dC (.ty "tuple")) dNil)))) (dNot (dTr (dB drIsi (dCons (dV 0) (dCons (dC (.ty "tuple")) dNil)))))) (dAnd (dTr (dB drIsi (dCons (dV 1) (dCons (dC (.ty "list")) dNil)))) (dNot (dTr (dB drIsi (dCons (dV 0) (dCons (dC (.ty "list")) dNil))))))) (d__law_same_11 S__law_same) dNext) (d__law_same_12 S__law_same)
def d__law_same_9 (S__law_same : DSpec) : DTS := (dRet (dAndV (dB drIsi (dCons (dV 0) (dCons (dC (.ty "int")) dNil))) (dAndV (dNotV (dB drIsi (dCons (dV 0) (dCons (dC (.ty "bool")) dNil)))) (dBin (drEq false) (dB drRepr (dCons (dV 0) dNil)) (dB drRepr (dCons (dV 1) dNil))))))
def d__law_same_8 (S__law_same : DSpec) : DTS := dSeq (dIf (dTr (dB drIsi (dCons (dV 1) (dCons (dC (.ty "int")) dNil)))) (d__law_same_9 S__law_same) dNext) (d__law_same_10 S__law_same)
def d__law_same_7 (S__law_same : DSpec) : DTS := (dRet (dAndV (dB drIsi (dCons (dV 0) (dCons (dC (.ty "str")) dNil))) (dBin (drEq false) (dB drRepr (dCons (dV 0) dNil)) (dB drRepr (dCons (dV 1) dNil)))))
def d__law_same_6 (S__law_same : DSpec) : DTS := dSeq (dIf (dTr (dB drIsi (dCons (dV 1) (dCons (dC (.ty "str")) dNil)))) (d__law_same_7 S__law_same) dNext) (d__law_same_8 S__law_same)
def d__law_same_5 (S__law_same : DSpec) : DTS := (dRet (dBin (drIs false) (dV 0) (dC (.bl false))))
def d__law_same_4 (S__law_same : DSpec) : DTS := dSeq (dIf (dTest (dBin (drIs false) (dV 1) (dC (.bl false)))) (d__law_same_5 S__law_same) dNext) (d__law_same_6 S__law_same)
def d__law_same_3 (S__law_same : DSpec) : DTS := (dRet (dBin (drIs false) (dV 0) (dC (.bl true))))
def d__law_same_2 (S__law_same : DSpec) : DTS := dSeq (dIf (dTest (dBin (drIs false) (dV 1) (dC (.bl true)))) (d__law_same_3 S__law_same) dNext) (d__law_same_4 S__law_same)
def d__law_same_1 (S__law_same : DSpec) : DTS := (dRet (dBin (drIs false) (dV 0) (dC .non)))
def d__law_same_0 (S__law_same : DSpec) : DTS := dSeq (dIf (dTest (dBin (drIs false) (dV 1) (dC .non))) (d__law_same_1 S__law_same) dNext) (d__law_same_2 S__law_same)
abbrev N__law_same : List Str := ["told", "due", "k"]

theorem w_cell {ds : List D} {C : CMap} {Q : DQ} (h : S_cell ds C Q) : dBody N__law_cell d__law_cell_0 ds C Q := by
  obtain ⟨xs, k, rfl, hk, q⟩ := h
  walk_at "w"
  refine bcase_i (fun h => ?_) fun h => ?_
  · walk_at "w"
    have h : decide (k < ((xs.map D.int).length : Nat)) = true := h
    rw [decide_eq_true_eq, List.length_map] at h
    exact orF_i (atI_im hk (List.getElem?_eq_getElem (by omega))) (q _)
  · walk_at "w"
    exact q 0
/-- a draw: the box shown -/
theorem w_draw {b : Addr} {m : Int} {xs : List Int} {c : Int} {C : CMap} {Q : DQ} (h : C b = some (.lst [.lst (xs.map D.int), .int c])) (hc : 0 ≤ c) (hm : 0 < m)
    (q : ∀ r : Int, 0 ≤ r → r < m → Q (.int r) (cset C b (.lst [.lst (xs.map D.int), .int (c + 1)]))) : dBody N__law_draw d__law_draw_0 [.cell b, .int m] C Q := by
  walk_at "w"
  refine orF_i (asQ_cell h) ?_
  walk_at "w"
  refine orF_i (asL_cell h) ?_
  walk_at "w"
  refine orF_i (asQ_cell cset_same) ?_
  walk_at "w"
  refine orF_i (asQ_cell cset_same) ?_
  walk_at "w"
  refine bcase_i (fun hh => ?_) fun hh => ?_
  · walk_at "w"
    refine orF_i (asQ_cell cset_same) ?_
    walk_at "w"
    refine ⟨.inr (by decide), ?_⟩
    walk_at "w"
    refine ⟨hm, ?_⟩
    walk_at "w"
    exact q _ (Int.emod_nonneg _ (by omega)) (Int.emod_lt_of_pos _ hm)
  · walk_at "w"
    refine orF_i (asQ_cell cset_same) ?_
    walk_at "w"
    refine orF_i (asQ_cell cset_same) ?_
    walk_at "w"
    have hh : decide (((xs.map D.int).length : Nat) < c + 1) = false := hh
    rw [decide_eq_false_iff_not, List.length_map] at hh
    refine orF_i (atI_im (by omega) (List.getElem?_eq_getElem (by omega))) ?_
    walk_at "w"
    refine ⟨hm, ?_⟩
    walk_at "w"
    exact q _ (Int.emod_nonneg _ (by omega)) (Int.emod_lt_of_pos _ hm)
theorem w_digits {ds : List D} {C : CMap} {Q : DQ} (h : S_digits ds C Q) : dBody N__law_digits d__law_digits_0 ds C Q := by
  obtain ⟨xs, a, b, rfl, ⟨ha, ha'⟩, ⟨hb', hb⟩, q⟩ := h
  walk_at "w"
  refine ⟨by decide, ?_⟩
  walk_at "w"
  intro p hp
  walk_at "w"
  refine ⟨by omega, ?_⟩
  walk_at "w"
  refine ⟨by omega, ?_⟩
  refine for_r (fun i (ys : List Int) => (∀ y ∈ ys, 0 ≤ y ∧ y < 1000) ∧ ys.length ≤ 60 * i) (fun ys => [some (.ro (xs.map D.int)), some (.int a), some (.int b), some (.cell p), none, none, none, none]) (fun ys => cset C p (.lst (ys.map D.int)))
    [] ⟨by simp, by simp⟩ (by walk_at "w"; exact ⟨rfl, rfl, rfl, rfl, trivial⟩) rfl ?_ ?_
  · intro i ys hi ⟨hy, hl⟩
    walk_at "w"
    refine ⟨rfl, ?_⟩
    refine ⟨xs, _, rfl, by omega, fun v => ?_⟩
    have hc : ∀ c : Int, 0 ≤ c % 1000 ∧ c % 1000 < 1000 := fun c => ⟨Int.emod_nonneg _ (by decide), Int.emod_lt_of_pos _ (by decide)⟩
    have hs : ∀ (zs : List Int) (c : Int), (∀ y ∈ zs, 0 ≤ y ∧ y < 1000) → ∀ y ∈ zs ++ [c % 1000], 0 ≤ y ∧ y < 1000 := fun zs c h y hm => by
      rcases List.mem_append.mp hm with h1 | h1
      · exact h y h1
      · rw [List.mem_singleton.mp h1]; exact hc c
    have tail : ∀ (De : DEnds) (v : Int), (∀ (σ : DSt) (zs : List Int), (∀ y ∈ zs, 0 ≤ y ∧ y < 1000) → zs.length ≤ 60 * (i + 1) → Le [some (.ro (xs.map D.int)), some (.int a), some (.int b), some (.cell p), none, none, none, none] σ → De.nx σ (cset C p (.lst (zs.map D.int)))) →
        d__law_digits_5 De [some (.ro (xs.map D.int)), some (.int a), some (.int b), some (.cell p), some (.int (a + (i : Nat))), some (.int v), none, none] (cset C p (.lst (ys.map D.int))) := by
      intro De v nx
      walk_at "go"
      refine bcase_i (fun h2 => ?_) fun h2 => ?_
      · walk_at "go"
        refine for_r (fun j (z : List Int × Int) => (∀ y ∈ z.1, 0 ≤ y ∧ y < 1000) ∧ z.1.length ≤ 60 * i + j) (fun z => [some (.ro (xs.map D.int)), some (.int a), some (.int b), some (.cell p), none, some (.int z.2), none, none]) (fun z => cset C p (.lst (z.1.map D.int)))
          (ys, v) ⟨hy, hl⟩ (by walk_at "le") rfl ?_ ?_
        · intro j z hj ⟨hz, hlz⟩
          walk_at "go"
          refine bcase_i (fun h3 => ?_) fun h3 => ?_
          · walk_at "go"
            refine ⟨(z.1 ++ [z.2 % 1000], z.2 / 1000), ⟨hs _ _ hz, by rw [List.length_append]; show z.1.length + 1 ≤ _; omega⟩, by walk_at "le", ?_⟩
            rw [cset_cset, List.map_append]; rfl
          · walk_at "w"
            exact ⟨z, ⟨hz, by omega⟩, by walk_at "le", rfl⟩
        · intro z ⟨hz, hlz⟩
          exact nx _ z.1 hz (by omega) (by walk_at "le")
      · walk_at "go"
        refine for_r (fun j (z : List Int × Int) => (∀ y ∈ z.1, 0 ≤ y ∧ y < 1000) ∧ z.1.length ≤ 60 * i + j) (fun z => [some (.ro (xs.map D.int)), some (.int a), some (.int b), some (.cell p), none, none, none, some (.int z.2)]) (fun z => cset C p (.lst (z.1.map D.int)))
          (ys, _) ⟨hy, hl⟩ (by walk_at "le") rfl ?_ ?_
        · intro j z hj ⟨hz, hlz⟩
          walk_at "go"
          refine ⟨(z.1 ++ [(z.2 * 16807 + 7 * (0 + (j : Nat)) + 1) % 2147483647 / 997 % 1000], (z.2 * 16807 + 7 * (0 + (j : Nat)) + 1) % 2147483647), ⟨hs _ _ hz, by rw [List.length_append]; show z.1.length + 1 ≤ _; omega⟩, by walk_at "le", ?_⟩
          rw [cset_cset, List.map_append]; rfl
        · intro z ⟨hz, hlz⟩
          have : 60 * i + (12 : Int).toNat ≤ 60 * (i + 1) := by have : (12 : Int).toNat = 12 := rfl; omega
          exact nx _ z.1 hz (Nat.le_trans hlz this) (by walk_at "le")
    walk_at "w"
    refine bcase_i (fun h1 => ?_) fun h1 => ?_
    · walk_at "w"
      refine ⟨.inl (by decide), ?_⟩
      exact tail _ _ fun σ zs h1 h2 h3 => ⟨zs, ⟨h1, h2⟩, h3, rfl⟩
    · exact tail _ _ fun σ zs h1 h2 h3 => ⟨zs, ⟨h1, h2⟩, h3, rfl⟩
  · intro ys ⟨hy, hl⟩
    walk_at "w"
    exact q ys hy (by omega) p hp
theorem w_pick {ds : List D} {C : CMap} {Q : DQ} (h : S_pick ds C Q) : dBody N__law_pick d__law_pick_0 ds C Q := by
  obtain ⟨b, row, xs, rfl, hb, hr, h0, hl, q⟩ := h
  have h1 : asQ C row = some xs := by rcases hr with rfl | rfl <;> rfl
  have h2 : lenD C row = some xs.length := by rcases hr with rfl | rfl <;> rfl
  have h3 : ∀ i : Int, drIx row (.int i) C Q = orF (asQ C row) fun ds => orF (atI ds i) fun d => Q d C := fun i => by rcases hr with rfl | rfl <;> rfl
  have hp : 0 < xs.length := List.length_pos_iff.mpr h0
  walk_at "w"
  refine ⟨rfl, ?_⟩
  refine ⟨b, 1000, rfl, hb, by decide, fun r hr0 hr1 => ?_⟩
  walk_at "w"
  refine orF_i h2 ?_
  show (0 < ((xs.length : Nat) : Int)) ∧ _
  refine ⟨by omega, ?_⟩
  show drIx row (.int (r % ((xs.length : Nat) : Int))) C Q
  rw [h3, h1]
  have e1 : 0 ≤ r % (xs.length : Int) := Int.emod_nonneg _ (by omega)
  have e2 : r % (xs.length : Int) < xs.length := Int.emod_lt_of_pos _ (by omega)
  have e3 : (r % (xs.length : Int)).toNat < xs.length := by omega
  show orF (atI xs (r % ((xs.length : Nat) : Int))) fun d => Q d C
  exact orF_i (atI_i e1 (List.getElem?_eq_getElem e3)) (q _ (List.getElem_mem e3))
theorem rd_inv {C : CMap} {a d : D} (h : rd C a = d) : a = d ∨ ∃ p ds, a = .cell p ∧ C p = some (.lst ds) ∧ d = .lst ds := by
  cases a with
  | cell p =>
    have h : (match C p with | some (.lst ds) => D.lst ds | _ => .cell p) = d := h
    cases e : C p with
    | none => rw [e] at h; exact .inl h
    | some o =>
      rw [e] at h
      cases o with
      | lst ds => exact .inr ⟨p, ds, rfl, e, h.symm⟩
      | _ => exact .inl h
  | _ => exact .inl h
theorem q_bl {b : Bool} {C : CMap} {Q : DQ} (h : b = true) (q : Q (.bl true) C) : Q (.bl b) C := h ▸ q
theorem all_get {n i : Nat} {ds : List D} (h : ∀ d ∈ ds, okD n d) (hi : i < ds.length) : okD n ds[i] := h _ (List.getElem_mem hi)
theorem okD_rd {n : Nat} {C : CMap} {d : D} (h : okD n d) : okD n (rd C d) := by
  cases d with
  | cell p => cases n <;> exact h.elim
  | _ => exact h
local macro_rules | `(tactic| walk_at "sq") => `(tactic| (
  walk_at "go"
  refine bcase_f (by simp) ?_
  walk_at "go"
  refine for_rc (fun _ => True) _ (Le.refl _) trivial ?_ ?_
  · intro i hi _
    have hx := List.getElem?_eq_getElem hi
    walk_at "go"
    refine orF_i (by rw [Int.zero_add]; exact atI_n hx) ?_
    walk_at "go"
    refine orF_i (by rw [Int.zero_add]; exact atI_n hx) ?_
    walk_at "w"
    refine ⟨rfl, _, _, rfl, rfl, okD_rd (all_get (by assumption) hi), ?_⟩
    walk_at "w"
    exact ⟨trivial, ⟨rfl, rfl, trivial⟩, rfl⟩
  · intro _
    show _
    walk_at "w"
    assumption))
theorem w_same {n : Nat} {ds : List D} {C : CMap} {Q : DQ} (h : S_same (n + 1) ds C Q) : dBody N__law_same (d__law_same_0 (S_same n)) ds C Q := by
  obtain ⟨a, b, rfl, hab, ok, q⟩ := h
  rcases rd_inv (C := C) (a := b) rfl with hb | ⟨pb, es, rfl, hC, hb⟩
  · generalize hd : rd C b = d at *
    subst hb
    rcases rd_inv hab with rfl | ⟨pa, es, rfl, hCa, rfl⟩
    · cases a with
      | non => walk_at "go"; exact q
      | bl k => cases k <;> (walk_at "go"; exact q)
      | int i =>
        have ok : strOk i := ok
        walk_at "w"
        refine ⟨ok, ?_⟩
        walk_at "w"
        refine ⟨ok, ?_⟩
        walk_at "w"
        exact q_bl (by simp) q
      | str x =>
        have ok : (reprText x).length ≤ 16777216 := ok
        walk_at "w"
        refine ⟨ok, ?_⟩
        walk_at "w"
        refine ⟨ok, ?_⟩
        walk_at "w"
        exact q_bl (by simp) q
      | tup es =>
        obtain ⟨hlen, hall⟩ : es.length ≤ 16777216 ∧ ∀ d ∈ es, okD n d := ok
        walk_at "sq"
      | lst es =>
        obtain ⟨hlen, hall⟩ : es.length ≤ 16777216 ∧ ∀ d ∈ es, okD n d := ok
        walk_at "sq"
      | ro es => exact ok.elim
      | cell p => exact ok.elim
      | ty m => exact ok.elim
    · obtain ⟨hlen, hall⟩ : es.length ≤ 16777216 ∧ ∀ d ∈ es, okD n d := ok
      walk_at "sq"
  · rw [hb] at hab ok
    obtain ⟨hlen, hall⟩ : es.length ≤ 16777216 ∧ ∀ d ∈ es, okD n d := ok
    rcases rd_inv hab with rfl | ⟨pa, es, rfl, hCa, e⟩
    · walk_at "sq"
    · cases e
      walk_at "sq"
/-- the box hidden: from a def that reads it plain -/
theorem FnD.box {P : Program} {w : World} {K : PySem.W.Frag} {mg : Str → Option Value} {base : Heap} {k : Nat} {f : Addr} {fd : FuncData} {ps : List Str} {S : DSpec} (F : FnD P w K mg base k f fd ps S) (hp : ps.length = 2)
    (h : ∀ (b : Addr) (m : Int) (xs : List Int) (c : Int) (C : CMap) (Q : DQ), C b = some (.lst [.lst (xs.map D.int), .int c]) → 0 ≤ c → 0 < m →
      (∀ r : Int, 0 ≤ r → r < m → Q (.int r) (cset C b (.lst [.lst (xs.map D.int), .int (c + 1)]))) → S [.cell b, .int m] C Q) : FnD P w K mg base k f fd ps S_draw := by
  refine FnOk.imp F ?_
  rintro vs H Q E ⟨G, F0, C, ds, QD, R, i, hl, ⟨b, m, rfl, hb, hm, q⟩, g⟩
  obtain ⟨hF, hG, xs, c, us, hH, iu, hc, hx⟩ := R.own b _ hb
  have R1 : Rel K G F0 H (cset C b (.lst [.lst (xs.map D.int), .int c])) := R.takec hF hG ⟨us, hH, iu⟩
  refine ⟨G, F0, _, _, fun d C' => ∃ r : Int, d = .int r ∧ 0 ≤ r ∧ r < m ∧ ∃ c' : Int, 0 ≤ c' ∧ C' = cset C b (.lst [.lst (xs.map D.int), .int c']), R1, i, hl, h b m xs c _ _ cset_same hc hm fun r h0 h1 => ⟨r, rfl, h0, h1, c + 1, by omega, cset_cset⟩, ?_⟩
  rintro v d F1 H1 C1 e1 R2 i1 ⟨r, rfl, h0, h1, c', hc', rfl⟩
  obtain ⟨hF1, hG1, us1, hH1, iu1⟩ := R2.own b _ cset_same
  have R3 : Rel K G F1 H1 C := by
    have := R2.takec (co := .box) hF1 hG1 ⟨xs, c', us1, hH1, iu1, hc', hx⟩
    rw [cset_cset] at this
    refine this.weak fun a o ha => ?_
    by_cases e : a = b
    · subst e; rw [hb] at ha; cases ha; exact cset_same
    · rw [cset_ne e]; exact ha
  exact g _ _ F1 H1 C e1 R3 i1 (q r h0 h1)
/-- the box is closed: what is drawn is anything -/
def isBox (d : D) (C : CMap) (k : Addr → Prop) : Prop := ∃ (a : Addr) (xs : List Int) (c : Int), d = .cell a ∧ C a = some (.lst [.lst (xs.map D.int), .int c]) ∧ 0 ≤ c ∧ (∀ x ∈ xs, 0 ≤ x) ∧ k a
def dHide (i : Nat) (u : DTS) (D : DEnds) (σ : DSt) (C : CMap) : Prop := orF (slot σ i) fun d => isBox d C fun a => u D σ (cset C a .box)
theorem ss_hide {X : Cx} {rest : List Stmt} {u : DTS} (i : Nat) (h : DSs X rest u) : DSs X rest (dHide i u) :=
  DSs.of h fun G F H C σV σ D DV R L q g => by
    obtain ⟨d, hd, a, xs, c, rfl, ha, hc, hx, q⟩ := orF_e q
    obtain ⟨hF, hG, us, hH, iu⟩ := R.own a _ ha
    exact sim_upS G F H _ σV σ D DV (R.takec (co := .box) hF hG ⟨xs, c, us, hH, iu, hc, hx⟩) L q g
end DL

namespace DL
open PySem PySem.Spec PyProof.Rows L2
theorem pick_i {α : Type} [En α] {pb : Addr} {C : CMap} {Q : DQ} (hb : C pb = some .box) (zs : List α) (h0 : zs ≠ [] := by simp) (hl : zs.length ≤ 1000 := by simp) (h : ∀ z ∈ zs, Q (E z) C) : S_pick [.cell pb, .lst (zs.map E)] C Q :=
  ⟨pb, _, zs.map E, rfl, hb, .inl rfl, by simpa using h0, by simpa using hl, fun d hd => by
    obtain ⟨z, hz, rfl⟩ := List.mem_map.mp hd
    exact h z hz⟩
theorem deq_ne {α : Type} [En α] (x : α) : (!deq (E x) (E x)) = false := by rw [(En.inj x x).mpr rfl]; rfl
theorem okD_ints {n : Nat} {xs : List Int} (h : ∀ x ∈ xs, strOk x) (hl : xs.length ≤ 16777216) : okD (n + 1) (.lst (xs.map E)) := by
  refine ⟨by rw [List.length_map]; exact hl, fun d hd => ?_⟩
  obtain ⟨x, hx, rfl⟩ := List.mem_map.mp hd
  cases n <;> exact h x hx
theorem Le.trans : ∀ {a b c : DSt}, Le a b → Le b c → Le a c
  | [], [], [], _, _ => trivial
  | none :: a, _ :: b, _ :: c, h, g => Le.trans (a := a) (b := b) (c := c) h (by
      rename_i x y
      cases x with
      | none => exact g
      | some _ => exact g.2)
  | some d :: a, y :: b, z :: c, h, g => by
    obtain ⟨rfl, h⟩ := h
    exact ⟨g.1, Le.trans (a := a) (b := b) (c := c) h g.2⟩
  | [], [], _ :: _, _, g => g.elim
  | [], _ :: _, _, h, _ => h.elim
  | none :: _, [], _, h, _ => h.elim
  | some _ :: _, [], _, h, _ => h.elim
  | none :: _, none :: _, [], _, g => g.elim
  | none :: _, some _ :: _, [], _, g => g.elim
  | some _ :: _, none :: _, [], _, g => g.elim
  | some _ :: _, some _ :: _, [], _, g => g.elim
theorem w_same0 {S : DSpec} {ds : List D} {C : CMap} {Q : DQ} (h : S_same 0 ds C Q) : dBody N__law_same (d__law_same_0 S) ds C Q := by
  obtain ⟨a, b, rfl, hab, ok, q⟩ := h
  rcases rd_inv (C := C) (a := b) rfl with hb | ⟨pb, es, rfl, hC, hb⟩
  · generalize hd : rd C b = d at *
    subst hb
    rcases rd_inv hab with rfl | ⟨pa, es, rfl, hCa, rfl⟩
    · cases a with
      | non => conv => whnf
               exact q
      | bl k => cases k <;> (conv => whnf) <;> exact q
      | int i =>
        have ok : strOk i := ok
        conv => whnf
        refine ⟨ok, ?_⟩
        conv => whnf
        refine ⟨ok, ?_⟩
        conv => whnf
        exact q_bl (by simp) q
      | str x =>
        have ok : (reprText x).length ≤ 16777216 := ok
        conv => whnf
        refine ⟨ok, ?_⟩
        conv => whnf
        refine ⟨ok, ?_⟩
        conv => whnf
        exact q_bl (by simp) q
      | _ => exact ok.elim
    · exact ok.elim
  · rw [hb] at ok; exact ok.elim
/-- level by level -/
theorem same_lv {P : Program} {w : World} {K : PySem.W.Frag} {mg : Str → Option Value} {base : Heap} {f : Addr} {fd : FuncData}
    (ok : ∀ (kk : Nat) (S : DSpec), Dn P w K mg base kk "_law_same" ["told", "due"] S → FnD P w K mg base (kk + 1) f fd ["told", "due"] (dBody N__law_same (d__law_same_0 S)))
    (hm : mg "_law_same" = some (.ref f)) (hk : PySem.W.keepIn K (.ref f) = true) (hb : Binds K fd ["told", "due"] []) : ∀ n, FnD P w K mg base (n + 1) f fd ["told", "due"] (S_same n)
  | 0 => FnD.imp (ok 0 (fun _ _ _ => False) ⟨f, fd, ⟨fun vs H Q E h => let ⟨_, _, _, _, _, _, _, _, h, _⟩ := h; h.elim, fun A outer s H args us vs Q E hr he hb hv h => let ⟨_, _, _, _, _, _, _, _, h, _⟩ := h; h.elim⟩, hm, hk, hb⟩) fun ds C Q _ h => w_same0 h
  | n + 1 => FnD.imp (ok (n + 1) (S_same n) ⟨f, fd, same_lv ok hm hk hb n, hm, hk, hb⟩) fun ds C Q _ h => w_same h
/-- the law's own promise, from the head -/
theorem law_sp {K : PySem.W.Frag} {H : Hp} {a : Addr} {ns : List Int} {S : DSpec} {E : XK} (h : ∀ Q : DQ, (∀ C', Q (.bl true) C') → S [.ro (ns.map D.int)] (fun _ => none) Q) (hS : SqL K H a (ns.map V.int)) : spD K 1 S [.ref a] H (fun v _ => v = .bl true) E :=
  ⟨fun _ => none, H, fun _ => none, _, fun d _ => d = .bl true, ⟨Ex.refl H, fun _ _ h => (by cases h), fun _ _ h => (by cases h), fun _ _ h => (by cases h)⟩, .cons (.ro hS (IsL.of_ints ns)) .nil, rfl, h _ fun _ => rfl,
    fun v d F' H' C' _ _ i q => by subst q; cases i; rfl⟩
/-- fewer cells are known -/
def Sub (C' C : CMap) : Prop := ∀ a o, C' a = some o → C a = some o
theorem Sub.refl (C : CMap) : Sub C C := fun _ _ h => h
theorem Sub.trans {A B C : CMap} (h : Sub A B) (h' : Sub B C) : Sub A C := fun a o q => h' a o (h a o q)
theorem Sub.new {A C : CMap} {p : Addr} {o : CO} (h : Sub A C) (hp : A p = none) : Sub A (cset C p o) := fun a u q => by
  have : a ≠ p := fun e => by subst e; rw [hp] at q; cases q
  rw [cset_ne this]; exact h a u q
theorem Sub.put {A C : CMap} {p : Addr} {o : CO} (h : Sub A C) (hp : C p = some o) : Sub (cset A p o) C := fun a u q => by
  by_cases e : a = p
  · subst e; rw [cset_same] at q; cases q; exact hp
  · rw [cset_ne e] at q; exact h a u q
theorem Sub.none {A C : CMap} {p : Addr} (h : Sub A C) (hp : C p = none) : A p = none := by
  cases e : A p with
  | none => rfl
  | some o => rw [h p o e] at hp; cases hp
def wkQ (Q : DQ) : DQ := fun d C2 => ∃ C1, Sub C1 C2 ∧ Q d C1
theorem FnD.weak {P : Program} {w : World} {K : PySem.W.Frag} {mg : Str → Option Value} {base : Heap} {k : Nat} {f : Addr} {fd : FuncData} {ps : List Str} {S S' : DSpec} (F : FnD P w K mg base k f fd ps S)
    (h : ∀ ds C Q, ds.length = ps.length → S' ds C Q → S ds C (wkQ Q)) : FnD P w K mg base k f fd ps S' := by
  refine FnOk.imp F ?_
  rintro vs H Q E ⟨G, F0, C, ds, QD, R, i, hl, q, g⟩
  exact ⟨G, F0, C, ds, _, R, i, hl, h ds C QD hl q, fun v d F1 H1 C2 e R2 i2 ⟨C1, hs, q1⟩ => g v d F1 H1 C1 e (R2.weak hs) i2 q1⟩
theorem enumD_map {α : Type} (f : α → D) (xs : List α) : enumD (xs.map f) = (xs.zipIdx).map fun x => D.tup [.int (x.2 : Nat), f x.1] := by
  unfold enumD; rw [List.zipIdx_map, List.map_map]; rfl
section
variable {α β : Type} {g : DTG} {tb : DTS} {De : DEnds} {σ : DSt} {C : CMap} {Q : DQ} {vs : List Nat} {tt : DTT} {te : DTE} {k : Bool}
/-- each worth a new cell -/
theorem lc_c (xs : List α) (f : α → D) (h : α → List D)
    (turn : ∀ x C', x ∈ xs → Sub C C' → g (f x) (dwipe σ vs) C' fun σ2 C2 => tt σ2 C2 fun b C3 => bcase b (te σ2 C3 fun y C4 => ∃ a, C' a = none ∧ y = .cell a ∧ C4 = cset C' a (.lst (h x))) False)
    (fin : ∀ (st : List (Addr × α)) (C' : CMap), st.map (·.2) = xs → (st.map (·.1)).Nodup → (∀ p ∈ st, C p.1 = none) → Sub C C' → (∀ p ∈ st, C' p.1 = some (.lst (h p.2))) → mk k (st.map fun p => .cell p.1) C' Q) : lcI k (xs.map f) none g tt te vs σ C Q := by
  rw [lcI]
  refine ⟨fun i acc C' => ∃ st : List (Addr × α), acc = st.map (fun p => D.cell p.1) ∧ st.map (·.2) = xs.take i ∧ (st.map (·.1)).Nodup ∧ (∀ p ∈ st, C p.1 = none) ∧ Sub C C' ∧ ∀ p ∈ st, C' p.1 = some (.lst (h p.2)), ⟨[], rfl, rfl, .nil, by simp, Sub.refl C, by simp⟩, ?_, ?_⟩
  · rintro i d acc C' hd ⟨st, rfl, h1, h2, h3, h4, h5⟩
    rw [List.getElem?_map] at hd
    cases e : xs[i]? with
    | none => rw [e] at hd; cases hd
    | some x =>
    rw [e] at hd; cases hd
    refine ⟨trivial, _, _, ?_, ?_, turn x C' (List.mem_of_getElem? e) h4⟩
    · rintro y C4 ⟨a, ha, rfl, rfl⟩
      have hna : ∀ p ∈ st, p.1 ≠ a := fun p hp he => by have := h5 p hp; rw [he, ha] at this; cases this
      have hC : C a = none := by
        cases e : C a with
        | none => rfl
        | some o => rw [h4 a o e] at ha; cases ha
      refine ⟨st ++ [(a, x)], by simp, by rw [List.map_append, h1, List.take_add_one, e]; rfl, ?_, ?_, h4.new hC, ?_⟩
      · rw [List.map_append, List.nodup_append]
        refine ⟨h2, by simp, fun b hb c hc => ?_⟩
        obtain ⟨p, hp, rfl⟩ := List.mem_map.mp hb
        have : c = a := by simpa using hc
        rw [this]; exact hna p hp
      · intro p hp
        rcases List.mem_append.mp hp with hp | hp
        · exact h3 p hp
        · rw [List.mem_singleton.mp hp]; exact hC
      · intro p hp
        rcases List.mem_append.mp hp with hp | hp
        · rw [cset_ne (hna p hp)]; exact h5 p hp
        · rw [List.mem_singleton.mp hp]; exact cset_same
    · exact fun C3 h => h.elim
  · rintro acc C' ⟨st, rfl, h1, h2, h3, h4, h5⟩
    rw [List.length_map, List.take_length] at h1
    exact ⟨trivial, fin st C' h1 h2 h3 h4 h5⟩
theorem lc_mw {w : Option (Addr × List D)} (xs : List α) (f : α → D) (h : α → D) (hw : watch w (xs.map f) C)
    (turn : ∀ x, x ∈ xs → g (f x) (dwipe σ vs) C fun σ2 C2 => tt σ2 C2 fun b C3 => bcase b (te σ2 C3 fun y C4 => y = h x ∧ C4 = C) False)
    (fin : mk k (xs.map h) C Q) : lcI k (xs.map f) w g tt te vs σ C Q := by
  rw [lcI]
  refine ⟨fun i acc C' => acc = (xs.take i).map h ∧ C' = C, ⟨by simp, rfl⟩, ?_, ?_⟩
  · rintro i d acc C' hd ⟨rfl, rfl⟩
    rw [List.getElem?_map] at hd
    cases e : xs[i]? with
    | none => rw [e] at hd; cases hd
    | some x =>
    rw [e] at hd; cases hd
    have h2 : xs.take (i + 1) = xs.take i ++ [x] := by rw [List.take_add_one, e]; rfl
    refine ⟨hw, _, _, ?_, ?_, turn x (List.mem_of_getElem? e)⟩
    · rintro y C4 ⟨rfl, rfl⟩
      refine ⟨?_, rfl⟩
      rw [h2, List.map_append]; rfl
    · exact fun C3 h => h.elim
  · rintro acc C' ⟨rfl, rfl⟩
    rw [List.length_map, List.take_length]
    exact ⟨hw, fin⟩
theorem blsD_m (xs : List α) (f : α → Bool) : blsD (xs.map fun x => D.bl (f x)) = some (xs.map f) := by
  rw [show (xs.map fun x => D.bl (f x)) = (xs.map f).map D.bl by rw [List.map_map]; rfl]; exact blsD_map _
theorem intsD_m (xs : List α) (f : α → Int) : intsD (xs.map fun x => D.int (f x)) = some (xs.map f) := by
  rw [show (xs.map fun x => D.int (f x)) = (xs.map f).map D.int by rw [List.map_map]; rfl]; exact intsD_map _
theorem strsD_m (xs : List α) (f : α → Str) : strsD (xs.map fun x => D.str (f x)) = some (xs.map f) := by
  rw [show (xs.map fun x => D.str (f x)) = (xs.map f).map D.str by rw [List.map_map]; rfl]; exact strsD_map _
theorem any_id (xs : List α) (f : α → Bool) : (xs.map f).any id = xs.any f := by rw [List.any_map]; rfl
theorem all_id (xs : List α) (f : α → Bool) : (xs.map f).all id = xs.all f := by rw [List.all_map]; rfl
end
end DL

namespace LB
open PySem L2 DL
/-! names laid beside towns: what the helpers compute -/
abbrev Pt := Int × Int
abbrev Bx := T4 Int Int Int Int
def mBox (t s : Pt) (pl : Int) : Bx :=
  ⟨if pl = 0 ∨ pl = 3 then t.1 else t.1 - s.1, if pl = 0 ∨ pl = 1 then t.2 else t.2 - s.2,
   (if pl = 0 ∨ pl = 3 then t.1 else t.1 - s.1) + s.1, (if pl = 0 ∨ pl = 1 then t.2 else t.2 - s.2) + s.2⟩
def S_box_for : DSpec := fun ds C Q => ∃ (t s : Pt) (pl : Int), ds = [E t, E s, .int pl] ∧ Q (E (mBox t s pl)) C
def mOver (x y : Bx) : Bool := decide (x.a < y.c) && (decide (y.a < x.c) && (decide (x.b < y.d) && decide (y.b < x.d)))
def S_overlap : DSpec := fun ds C Q => ∃ x y : Bx, ds = [E x, E y] ∧ Q (.bl (mOver x y)) C
def mCov (x : Bx) (t : Pt) : Bool := (decide (x.a < t.1) && decide (t.1 < x.c)) && (decide (x.b < t.2) && decide (t.2 < x.d))
def S_covers : DSpec := fun ds C Q => ∃ (x : Bx) (t : Pt), ds = [E x, E t] ∧ Q (.bl (mCov x t)) C
def four (t s : Pt) : List Bx := [⟨t.1, t.2, t.1 + s.1, t.2 + s.2⟩, ⟨t.1 - s.1, t.2, t.1, t.2 + s.2⟩, ⟨t.1 - s.1, t.2 - s.2, t.1, t.2⟩, ⟨t.1, t.2 - s.2, t.1 + s.1, t.2⟩]
def mBoxes (rows sizes : List Pt) : List (List Bx) := (rows.zip sizes).map fun p => four p.1 p.2
def S__law_boxes : DSpec := fun ds C Q => ∃ rows sizes : List Pt, ds = [E rows, E sizes] ∧ rows.length = sizes.length ∧ rows.length ≤ 1000 ∧ mk true (EL (mBoxes rows sizes)) C Q
def mLap (x y : Bx) : Bool := decide (min x.c y.c - max x.a y.a > 0) && decide (min x.d y.d - max x.b y.b > 0)
def S__law_lap : DSpec := fun ds C Q => ∃ x y : Bx, ds = [E x, E y] ∧ Q (.bl (mLap x y)) C
def mHides (x : Bx) (rows : List Pt) : Bool := rows.any (mCov x)
def S__law_hides : DSpec := fun ds C Q => ∃ (x : Bx) (rows : List Pt), ds = [E x, E rows] ∧ Q (.bl (mHides x rows)) C
/-- what the label of the k-th town laps of the towns before it -/
def mLaps (bs : List (List Bx)) (k : Nat) (x : Bx) : List Pt := (List.range k).flatMap fun far => ((List.range 4).filter fun pl => mLap x ((bs.getD far []).getD pl ⟨0, 0, 0, 0⟩)).map fun (pl : Nat) => ((far : Int), (pl : Int))
def mClash (rows sizes : List Pt) : List (List (Option (List Pt))) := (List.range rows.length).map fun k => ((mBoxes rows sizes).getD k []).map fun x => if mHides x rows then none else some (mLaps (mBoxes rows sizes) k x)
def S__law_clashes : DSpec := fun ds C Q => ∃ rows sizes : List Pt, ds = [E rows, E sizes] ∧ rows.length = sizes.length ∧ rows.length ≤ 1000 ∧ mk true (EL (mClash rows sizes)) C Q
def mLies (cl : List (List (Option (List Pt)))) (row : List Int) (pl : Nat) : Bool := match (cl.getD row.length []).getD pl none with
  | none => false
  | some laps => (List.range row.length).all fun far => !decide (((far : Int), row.getD far 0) ∈ laps)
def S__law_lies : DSpec := fun ds C Q => ∃ (cl : List (List (Option (List Pt)))) (row : List Int) (pl : Nat), ds = [E cl, E row, .int (pl : Nat)] ∧ row.length < cl.length ∧ row.length ≤ 1000 ∧ pl < (cl.getD row.length []).length ∧ Q (.bl (mLies cl row pl)) C
def S__law_spots : DSpec := fun ds C Q => ∃ (b : Addr) (most wide : Int), ds = [.cell b, .int most, .int wide] ∧ C b = some .box ∧ 0 ≤ most ∧ most ≤ 1000 ∧ 0 < wide ∧
  ∀ rows : List Pt, rows.Nodup → rows.length ≤ most.toNat → (0 < most → rows ≠ []) → (∀ r ∈ rows, 0 ≤ r.1 ∧ r.1 < wide ∧ 0 ≤ r.2 ∧ r.2 < wide) → mk true (EL rows) C Q
structure Lbl where
  rows : List Pt
  sizes : List Pt
def S__law_labels : DSpec := fun ds C Q => ∃ (b : Addr) (most wide : Int), ds = [.cell b, .int most, .int wide] ∧ C b = some .box ∧ 0 ≤ most ∧ most ≤ 1000 ∧ 0 < wide ∧
  ∀ rows sizes : List Pt, rows.Nodup → rows.length ≤ most.toNat → (0 < most → rows ≠ []) → (∀ r ∈ rows, 0 ≤ r.1 ∧ r.1 < wide ∧ 0 ≤ r.2 ∧ r.2 < wide) → sizes.length = rows.length → (∀ s ∈ sizes, 1 ≤ s.1 ∧ s.1 ≤ 4 ∧ 1 ≤ s.2 ∧ s.2 ≤ 3) → Q (.tup [E rows, E sizes]) C
end LB

namespace LB
open PySem L2 DL
def d_box_for_4 : DTS := (dRet (dTup (dCons (dV 7) (dCons (dV 8) (dCons (dAdd false (dV 7) (dV 5)) (dCons (dAdd false (dV 8) (dV 6)) dNil))))))
def d_box_for_3 : DTS := dSeq (dSet 8 (dIfE (dTest (dBin (drIn false) (dV 2) (dTup (dCons (dC (.int 0)) (dCons (dC (.int 1)) dNil))))) (dV 4) (dSub (dV 4) (dV 6)))) d_box_for_4
def d_box_for_2 : DTS := dSeq (dSet 7 (dIfE (dTest (dBin (drIn false) (dV 2) (dTup (dCons (dC (.int 0)) (dCons (dC (.int 3)) dNil))))) (dV 3) (dSub (dV 3) (dV 5)))) d_box_for_3
def d_box_for_1 : DTS := dSeq (dAsg (dV 1) (gT 2 (gsC (gN 5) (gsC (gN 6) gsN)))) d_box_for_2
def d_box_for_0 : DTS := dSeq (dAsg (dV 0) (gT 2 (gsC (gN 3) (gsC (gN 4) gsN)))) d_box_for_1
abbrev N_box_for : List Str := ["town", "size", "place", "x", "y", "wide", "high", "left", "low"]
def d_overlap_0 : DTS := (dRet (dAndV (dBin (drOrd .Lt) (dIx (dV 0) (dC (.int 0))) (dIx (dV 1) (dC (.int 2)))) (dAndV (dBin (drOrd .Lt) (dIx (dV 1) (dC (.int 0))) (dIx (dV 0) (dC (.int 2)))) (dAndV (dBin (drOrd .Lt) (dIx (dV 0) (dC (.int 1))) (dIx (dV 1) (dC (.int 3)))) (dBin (drOrd .Lt) (dIx (dV 1) (dC (.int 1))) (dIx (dV 0) (dC (.int 3))))))))
abbrev N_overlap : List Str := ["one", "other"]
def d_covers_0 : DTS := (dRet (dAndV (dChain (drOrd .Lt) (drOrd .Lt) (dIx (dV 0) (dC (.int 0))) (dIx (dV 1) (dC (.int 0))) (dIx (dV 0) (dC (.int 2)))) (dChain (drOrd .Lt) (drOrd .Lt) (dIx (dV 0) (dC (.int 1))) (dIx (dV 1) (dC (.int 1))) (dIx (dV 0) (dC (.int 3))))))
abbrev N_covers : List Str := ["box", "town"]
def d__law_boxes_5 : DTS := (dRet (dV 2))
def d__law_boxes_4 : DTS := (dDo (dM "list" drApp (dV 2) (dCons (dLst false (dCons (dTup (dCons (dV 4) (dCons (dV 5) (dCons (dAdd false (dV 4) (dV 6)) (dCons (dAdd false (dV 5) (dV 7)) dNil))))) (dCons (dTup (dCons (dSub (dV 4) (dV 6)) (dCons (dV 5) (dCons (dV 4) (dCons (dAdd false (dV 5) (dV 7)) dNil))))) (dCons (dTup (dCons (dSub (dV 4) (dV 6)) (dCons (dSub (dV 5) (dV 7)) (dCons (dV 4) (dCons (dV 5) dNil))))) (dCons (dTup (dCons (dV 4) (dCons (dSub (dV 5) (dV 7)) (dCons (dAdd false (dV 4) (dV 6)) (dCons (dV 5) dNil))))) dNil))))) dNil)))
def d__law_boxes_3 : DTS := dSeq (dAsg (dIx (dV 1) (dV 3)) (gT 2 (gsC (gN 6) (gsC (gN 7) gsN)))) d__law_boxes_4
def d__law_boxes_2 : DTS := dSeq (dAsg (dIx (dV 0) (dV 3)) (gT 2 (gsC (gN 4) (gsC (gN 5) gsN)))) d__law_boxes_3
def d__law_boxes_1 : DTS := dSeq (dFor (dRg1 (dCons (dB drLen (dCons (dV 0) dNil)) dNil)) (gN 3) d__law_boxes_2) d__law_boxes_5
def d__law_boxes_0 : DTS := dSeq (dSet 2 (dLst true dNil)) d__law_boxes_1
abbrev N__law_boxes : List Str := ["rows", "sizes", "found", "k", "x", "y", "w", "h"]
def d__law_lap_1 : DTS := (dRet (dAndV (dBin (drOrd .Gt) (dV 2) (dC (.int 0))) (dBin (drOrd .Gt) (dSub (dB drMin (dCons (dIx (dV 0) (dC (.int 3))) (dCons (dIx (dV 1) (dC (.int 3))) dNil))) (dB drMax (dCons (dIx (dV 0) (dC (.int 1))) (dCons (dIx (dV 1) (dC (.int 1))) dNil)))) (dC (.int 0)))))
def d__law_lap_0 : DTS := dSeq (dSet 2 (dSub (dB drMin (dCons (dIx (dV 0) (dC (.int 2))) (dCons (dIx (dV 1) (dC (.int 2))) dNil))) (dB drMax (dCons (dIx (dV 0) (dC (.int 0))) (dCons (dIx (dV 1) (dC (.int 0))) dNil))))) d__law_lap_1
abbrev N__law_lap : List Str := ["one", "other", "wide"]
def d__law_hides_0 : DTS := (dRet (dBin (drEq true) (dLc false (dIn (dV 1)) (gN 2) (dAnd (dTest (dChain (drOrd .Lt) (drOrd .Lt) (dIx (dV 0) (dC (.int 0))) (dIx (dV 2) (dC (.int 0))) (dIx (dV 0) (dC (.int 2))))) (dTest (dChain (drOrd .Lt) (drOrd .Lt) (dIx (dV 0) (dC (.int 1))) (dIx (dV 2) (dC (.int 1))) (dIx (dV 0) (dC (.int 3)))))) (dV 2) [2]) (dLst false dNil)))
abbrev N__law_hides : List Str := ["label", "rows", "town"]
def d__law_lies_1 : DTS := (dRet (dAndV (dBin (drIs true) (dV 3) (dC .non)) (dBin (drEq false) (dLc false (dRg1 (dCons (dB drLen (dCons (dV 1) dNil)) dNil)) (gN 4) (dTest (dBin (drIn false) (dTup (dCons (dV 4) (dCons (dIx (dV 1) (dV 4)) dNil))) (dV 3))) (dV 4) [4]) (dLst false dNil))))
def d__law_lies_0 : DTS := dSeq (dSet 3 (dIx (dIx (dV 0) (dB drLen (dCons (dV 1) dNil))) (dV 2))) d__law_lies_1
abbrev N__law_lies : List Str := ["clashes", "row", "place", "laps", "far"]
def d__law_clashes_13 : DTS := (dRet (dV 3))
def d__law_clashes_12 : DTS := (dDo (dM "list" drApp (dV 3) (dCons (dV 5) dNil)))
def d__law_clashes_11 : DTS := dFz 5 d__law_clashes_12
def d__law_clashes_10 : DTS := (dDo (dM "list" drApp (dV 5) (dCons (dV 7) dNil)))
def d__law_clashes_9 : DTS := (dSet 7 (dAdd false (dV 7) (dLc false (dRg1 (dCons (dC (.int 4)) dNil)) (gN 9) (dTr (dCallN 2 LB.S__law_lap (dCons (dV 6) (dCons (dIx (dIx (dV 2) (dV 8)) (dV 9)) dNil)))) (dTup (dCons (dV 8) (dCons (dV 9) dNil))) [9])))
def d__law_clashes_8 : DTS := dSeq (dFor (dRg1 (dCons (dV 4) dNil)) (gN 8) d__law_clashes_9) d__law_clashes_10
def d__law_clashes_7 : DTS := dSeq (dSet 7 (dLst false dNil)) d__law_clashes_8
def d__law_clashes_6 : DTS := (dDo (dM "list" drApp (dV 5) (dCons (dC .non) dNil)))
def d__law_clashes_5 : DTS := (dIf (dTr (dCallN 2 LB.S__law_hides (dCons (dV 6) (dCons (dV 0) dNil)))) d__law_clashes_6 d__law_clashes_7)
def d__law_clashes_4 : DTS := dSeq (dFor (dIn (dIx (dV 2) (dV 4))) (gN 6) d__law_clashes_5) d__law_clashes_11
def d__law_clashes_3 : DTS := dSeq (dSet 5 (dLst true dNil)) d__law_clashes_4
def d__law_clashes_2 : DTS := dSeq (dFor (dRg1 (dCons (dB drLen (dCons (dV 0) dNil)) dNil)) (gN 4) d__law_clashes_3) d__law_clashes_13
def d__law_clashes_1 : DTS := dSeq (dSet 3 (dLst true dNil)) d__law_clashes_2
def d__law_clashes_0 : DTS := dSeq (dSet 2 (dFrz (dCallN 2 LB.S__law_boxes (dCons (dV 0) (dCons (dV 1) dNil))))) d__law_clashes_1
abbrev N__law_clashes : List Str := ["rows", "sizes", "boxes", "found", "k", "fars", "label", "laps", "far", "place"]
def d__law_spots_5 : DTS := (dRet (dV 3))
def d__law_spots_4 : DTS := (dDo (dM "list" drApp (dV 3) (dCons (dV 5) dNil)))
def d__law_spots_3 : DTS := (dIf (dTest (dBin (drIn true) (dV 5) (dV 3))) d__law_spots_4 dNext)
def d__law_spots_2 : DTS := dSeq (dSet 5 (dTup (dCons (dCallN 2 DL.S_draw (dCons (dV 0) (dCons (dV 2) dNil))) (dCons (dCallN 2 DL.S_draw (dCons (dV 0) (dCons (dV 2) dNil))) dNil)))) d__law_spots_3
def d__law_spots_1 : DTS := dSeq (dFor (dRg1 (dCons (dV 1) dNil)) (gN 4) d__law_spots_2) d__law_spots_5
def d__law_spots_0 : DTS := dSeq (dSet 3 (dLst true dNil)) d__law_spots_1
abbrev N__law_spots : List Str := ["box", "most", "wide", "found", "go", "point"]
def d__law_labels_1 : DTS := (dRet (dTup (dCons (dV 3) (dCons (dLc false (dIn (dV 3)) (gN 4) dYes (dTup (dCons (dAdd false (dC (.int 1)) (dCallN 2 DL.S_draw (dCons (dV 0) (dCons (dC (.int 4)) dNil)))) (dCons (dAdd false (dC (.int 1)) (dCallN 2 DL.S_draw (dCons (dV 0) (dCons (dC (.int 3)) dNil)))) dNil))) [4]) dNil))))
def d__law_labels_0 : DTS := dSeq (dSet 3 (dFrz (dCallN 3 LB.S__law_spots (dCons (dV 0) (dCons (dV 1) (dCons (dV 2) dNil)))))) d__law_labels_1
abbrev N__law_labels : List Str := ["box", "most", "wide", "rows", "town"]
end LB

namespace LB
open PySem PySem.Spec PyProof.Rows L2 DL
-- MACROS BEGIN
local macro_rules | `(tactic| walk_at "w") => `(tactic| conv => whnf)
local macro_rules | `(tactic| walk_at "lk") => `(tactic| first | exact cset_same | assumption | (refine (cset_ne (by first | assumption | (apply Ne.symm; assumption))).trans ?_; walk_at "lk"))
local macro_rules | `(tactic| walk_at "nn") => `(tactic| first | assumption | (refine (cset_ne (by first | assumption | (apply Ne.symm; assumption))).trans ?_; walk_at "nn"))
local macro_rules | `(tactic| walk_at "side") => `(tactic| first | rfl | decide | omega | (dsimp only; first | done | decide | omega) | exact Or.inr (by decide) | exact Or.inl (by decide) | exact dTy_lst (asL_cell (by walk_at "lk")) | exact En.fl30 _ | exact En.all30 _ | exact fl_l _ | exact fl_all _ | exact fl_g _ _ | exact fl_c (by walk_at "lk") | (simp only [List.length_map, List.length_append, List.length_cons, List.length_nil]; omega) | (walk_at "my"))
local macro_rules | `(tactic| walk_at "go1") => `(tactic| first | refine And.intro (by walk_at "side") ?_ | refine orF_i (asL_cell (by walk_at "lk")) ?_ | refine orF_i (asQ_cell (by walk_at "lk")) ?_ | refine orF_i (asR_cell (by walk_at "lk")) ?_ | refine orF_i (lenD_cell (by walk_at "lk")) ?_ | refine orF_i (seqOf_cell (by walk_at "lk")) ?_ | refine orF_i (tyN_cell (by walk_at "lk")) ?_ | refine frzC_n (by walk_at "nn") ?_ | refine frzC_i (by walk_at "lk") ?_)
local macro_rules | `(tactic| walk_at "go") => `(tactic| (walk_at "w"; repeat (walk_at "go1"; walk_at "w")))
local macro_rules | `(tactic| walk_at "le") => `(tactic| (repeat (first | exact trivial | refine ⟨rfl, ?_⟩)))
-- MACROS END
theorem any2 {C : CMap} {pl a b : Int} : ([D.int a, .int b].any fun z => deq z (rd C (.int pl))) = decide (pl = a ∨ pl = b) := by
  show (deq (.int a) (.int pl) || (deq (.int b) (.int pl) || false)) = _
  rw [deq_int, deq_int, Bool.or_false, ← Bool.decide_or]
  exact decide_eq_decide.mpr ⟨fun h => h.imp Eq.symm Eq.symm, fun h => h.imp Eq.symm Eq.symm⟩
local macro_rules | `(tactic| walk_at "bl") => `(tactic| (simp_all only [mOver, mCov, mLap, ordI, Bool.true_and, Bool.false_and, Bool.and_true, Bool.and_false]))
theorem getD_at {α : Type} {xs : List α} {i : Nat} {d : α} (h : i < xs.length) : xs.getD i d = xs[i] := by simp [List.getD, h]
theorem w_box_for {ds : List D} {C : CMap} {Q : DQ} (h : S_box_for ds C Q) : dBody N_box_for d_box_for_0 ds C Q := by
  obtain ⟨t, s, pl, rfl, q⟩ := h
  walk_at "go"
  refine bcase_i (fun h1 => ?_) fun h1 => ?_ <;> (walk_at "go"; refine bcase_i (fun h2 => ?_) fun h2 => ?_ <;> walk_at "go")
  all_goals
    have h1 := any2.symm.trans h1
    have h2 := any2.symm.trans h2
    simp only [decide_eq_true_eq, decide_eq_false_iff_not] at h1 h2
    refine q_eq q ?_
    simp only [mBox, h1, h2, if_true, if_false]
    rfl
theorem w_overlap {ds : List D} {C : CMap} {Q : DQ} (h : S_overlap ds C Q) : dBody N_overlap d_overlap_0 ds C Q := by
  obtain ⟨x, y, rfl, q⟩ := h
  walk_at "go"
  refine bcase_i (fun h1 => ?_) fun h1 => ?_
  · walk_at "go"
    refine bcase_i (fun h2 => ?_) fun h2 => ?_
    · walk_at "go"
      refine bcase_i (fun h3 => ?_) fun h3 => ?_
      · walk_at "go"
        exact q_eq q (by walk_at "bl")
      · exact q_eq q (by walk_at "bl")
    · exact q_eq q (by walk_at "bl")
  · exact q_eq q (by walk_at "bl")
theorem w_covers {ds : List D} {C : CMap} {Q : DQ} (h : S_covers ds C Q) : dBody N_covers d_covers_0 ds C Q := by
  obtain ⟨x, y, rfl, q⟩ := h
  walk_at "go"
  refine bcase_i (fun h1 => ?_) fun h1 => ?_
  · walk_at "go"
    refine bcase_i (fun h2 => ?_) fun h2 => ?_
    · walk_at "go"
      refine bcase_i (fun h3 => ?_) fun h3 => ?_
      · walk_at "go"
        exact q_eq q (by walk_at "bl")
      · exact q_eq q (by walk_at "bl")
    · exact q_eq q (by walk_at "bl")
  · exact q_eq q (by walk_at "bl")
theorem w__law_lap {ds : List D} {C : CMap} {Q : DQ} (h : S__law_lap ds C Q) : dBody N__law_lap d__law_lap_0 ds C Q := by
  obtain ⟨x, y, rfl, q⟩ := h
  walk_at "go"
  refine bcase_i (fun h1 => ?_) fun h1 => ?_
  · walk_at "go"
    exact q_eq q (by walk_at "bl")
  · exact q_eq q (by walk_at "bl")
theorem any_filter {α : Type} {p : α → Bool} (xs : List α) : xs.any p = !(xs.filter p).isEmpty := by
  induction xs with
  | nil => rfl
  | cons x xs ih => cases h : p x <;> simp [List.any_cons, List.filter_cons, h, ih]
theorem w__law_hides {ds : List D} {C : CMap} {Q : DQ} (h : S__law_hides ds C Q) : dBody N__law_hides d__law_hides_0 ds C Q := by
  obtain ⟨x, rows, rfl, q⟩ := h
  walk_at "go"
  refine lc_f rows E (mCov x) E ?_ ?_
  · intro t ht
    walk_at "go"
    refine bcase_i (fun h1 => ?_) fun h1 => ?_
    · walk_at "go"
      refine bcase_i (fun h2 => ?_) fun h2 => ?_
      · walk_at "go"
        refine bcase_i (fun h3 => ?_) fun h3 => ?_
        · walk_at "go"
          refine bcase_i (fun h4 => ?_) fun h4 => ?_
          · exact ⟨by walk_at "bl", rfl, rfl⟩
          · exact ⟨by walk_at "bl", rfl⟩
        · exact ⟨by walk_at "bl", rfl⟩
      · exact ⟨by walk_at "bl", rfl⟩
    · exact ⟨by walk_at "bl", rfl⟩
  · walk_at "go"
    refine q_eq q (congrArg D.bl ?_)
    show (!deq (.lst ((rows.filter (mCov x)).map E)) (.lst [])) = _
    rw [deq_l0, mHides, any_filter]
theorem w__law_boxes {ds : List D} {C : CMap} {Q : DQ} (h : S__law_boxes ds C Q) : dBody N__law_boxes d__law_boxes_0 ds C Q := by
  obtain ⟨rows, sizes, rfl, hl, hn, q⟩ := h
  walk_at "go"
  intro p hp
  walk_at "go"
  refine for_ra (fun i => E (four (rows.getD i (0, 0)) (sizes.getD i (0, 0)))) _ (Le.refl _) ?_ ?_
  · intro i acc hi ha
    have hi : i < rows.length := by simpa using hi
    walk_at "go"
    refine orF_i (by rw [Int.zero_add]; exact atI_nm (List.getElem?_eq_getElem hi)) ?_
    walk_at "go"
    refine orF_i (by rw [Int.zero_add]; exact atI_nm (List.getElem?_eq_getElem (hl ▸ hi))) ?_
    walk_at "go"
    refine ⟨by walk_at "le", ?_⟩
    rw [cset_cset, getD_at hi, getD_at (hl ▸ hi : i < sizes.length)]
    rfl
  · walk_at "go"
    have e : (List.range (↑(EL rows).length : Int).toNat).map (fun i => E (four (rows.getD i (0, 0)) (sizes.getD i (0, 0)))) = EL (mBoxes rows sizes) := by
      show (List.range (rows.map E).length).map _ = _
      rw [List.length_map]
      apply List.ext_getElem
      · simp [mBoxes, hl]
      · intro i h1 h2
        have h3 : i < rows.length := by simpa using h1
        rw [List.getElem_map, List.getElem_range, getD_at h3, getD_at (hl ▸ h3 : i < sizes.length)]
        simp [mBoxes, E]
    rw [e]
    exact q p hp
theorem w__law_lies {ds : List D} {C : CMap} {Q : DQ} (h : S__law_lies ds C Q) : dBody N__law_lies d__law_lies_0 ds C Q := by
  obtain ⟨cl, row, pl, rfl, hr, hr2, hp, q⟩ := h
  walk_at "go"
  refine orF_i (by show atI (cl.map E) ((List.length (row.map E) : Nat) : Int) = _; rw [List.length_map]; exact atI_nm (List.getElem?_eq_getElem hr)) ?_
  walk_at "go"
  have e1 : cl.getD row.length [] = cl[row.length] := getD_at hr
  rw [e1] at hp
  refine orF_i (atI_nm (List.getElem?_eq_getElem hp)) ?_
  have e2 : mLies cl row pl = match cl[row.length][pl] with
      | none => false
      | some laps => (List.range row.length).all fun far => !decide (((far : Int), row.getD far 0) ∈ laps) := by
    unfold mLies; rw [e1, getD_at hp] <;> rfl
  rw [e2] at q
  generalize cl[row.length][pl] = v at q
  cases v with
  | none => walk_at "go"; exact q
  | some laps =>
    walk_at "go"
    refine lc_r (fun far => decide (((far : Int), row.getD far 0) ∈ laps)) (fun far => D.int (far : Int)) ?_ ?_
    · intro i hi
      have hi : i < row.length := by simpa using hi
      walk_at "go"
      refine orF_i (by rw [Int.zero_add]; exact atI_nm (List.getElem?_eq_getElem hi)) ?_
      walk_at "go"
      have e3 : ((laps.map E).any fun z => deq z (rd C (.tup [.int (0 + (i : Int)), E row[i]]))) = decide (((i : Int), row.getD i 0) ∈ laps) := by
        rw [getD_at hi, Int.zero_add]; exact En.any laps ((i : Int), row[i])
      refine bcase_i (fun h => ?_) fun h => ?_
      · exact ⟨e3.symm.trans h, by rw [Int.zero_add], rfl⟩
      · exact ⟨e3.symm.trans h, rfl⟩
    · walk_at "go"
      refine q_eq q (congrArg D.bl ?_)
      show deq (.lst _) (.lst []) = _
      have e4 : (↑(EL row).length : Int).toNat = row.length := by show (row.map E).length = _; rw [List.length_map]
      rw [deq_0l, e4, List.isEmpty_map]
      have e5 : ∀ (f : Nat → Bool) (l : List Nat), (l.filter f).isEmpty = l.all fun x => !f x := fun f l => by
        induction l with
        | nil => rfl
        | cons x l ih => cases h : f x <;> simp [List.filter_cons, h, ih]
      rw [e5]
theorem E_map {α β : Type} [En β] (f : α → β) (xs : List α) : E (xs.map f) = .lst (xs.map fun x => E (f x)) := by
  show D.lst (List.map En.e _) = _; rw [List.map_map]; rfl
def lapsAt (bs : List (List Bx)) (j : Nat) (x : Bx) : List Pt := ((List.range 4).filter fun pl => mLap x ((bs.getD j []).getD pl ⟨0, 0, 0, 0⟩)).map fun (pl : Nat) => ((j : Int), (pl : Int))
theorem mLaps_succ (bs : List (List Bx)) (j : Nat) (x : Bx) : mLaps bs (j + 1) x = mLaps bs j x ++ lapsAt bs j x := by
  unfold mLaps; rw [List.range_succ (n := j), List.flatMap_append, List.flatMap_singleton]; rfl
theorem lapsAt_len (bs : List (List Bx)) (j : Nat) (x : Bx) : (lapsAt bs j x).length ≤ 4 := by
  unfold lapsAt; rw [List.length_map]; exact List.length_filter_le _ (List.range 4)
theorem w__law_clashes {ds : List D} {C : CMap} {Q : DQ} (h : S__law_clashes ds C Q) : dBody N__law_clashes d__law_clashes_0 ds C Q := by
  obtain ⟨rows, sizes, rfl, hl, hn, q⟩ := h
  walk_at "w"
  refine ⟨rfl, rows, sizes, rfl, hl, hn, fun pb hpb => ?_⟩
  show frz (.cell pb) (cset C pb (.lst (EL (mBoxes rows sizes)))) _
  rw [frz_new hpb]
  walk_at "go"
  intro p hp
  walk_at "go"
  have hbl : (mBoxes rows sizes).length = rows.length := by simp [mBoxes, hl]
  have h4 : ∀ b ∈ mBoxes rows sizes, b.length = 4 := fun b hb => by
    obtain ⟨x, _, rfl⟩ := List.mem_map.mp hb
    rfl
  refine for_ra (fun k => E (((mBoxes rows sizes).getD k []).map fun x => if mHides x rows then none else some (mLaps (mBoxes rows sizes) k x))) _ (Le.refl _) ?_ ?_
  · intro k acc hk ha
    have hk : k < rows.length := by simpa using hk
    walk_at "go"
    intro pf hpf
    obtain ⟨hne, hpf⟩ := fresh_ne hpf
    walk_at "go"
    refine orF_i (by rw [Int.zero_add]; exact atI_nm (List.getElem?_eq_getElem (hbl ▸ hk))) ?_
    rw [getD_at (hbl ▸ hk)]
    have hbk : ((mBoxes rows sizes)[k]'(hbl ▸ hk)).length = 4 := h4 _ (List.getElem_mem _)
    generalize (mBoxes rows sizes)[k]'(hbl ▸ hk) = bk at hbk
    generalize hbs : mBoxes rows sizes = bs at h4 hbl
    walk_at "go"
    refine for_pa bk E (fun x => E (if mHides x rows then none else some (mLaps bs k x))) _ (Le.refl _) ?_ ?_
    · intro x acc1 hx ha1
      walk_at "go"
      refine ⟨x, rows, rfl, ?_⟩
      walk_at "go"
      refine bcase_i (fun h => ?_) fun h => ?_
      · walk_at "go"
        rw [if_pos h]
        exact ⟨by walk_at "le", by rw [cset_cset]; rfl⟩
      · walk_at "go"
        rw [if_neg (by rw [h]; exact Bool.false_ne_true)]
        refine for_r (fun j (l : List Pt) => l = mLaps bs j x ∧ l.length ≤ 4 * j) (fun l => [some (E rows), some (E sizes), some (E bs), some (.cell p), some (.int (0 + (k : Int))), some (.cell pf), some (E x), some (E l), none, none]) (fun _ => _)
          [] ⟨rfl, by simp⟩ (by walk_at "le") rfl ?_ ?_
        · intro j l hj ⟨hlj, hln⟩
          have hj : j < k := by omega
          walk_at "go"
          refine lc_r (fun pl => mLap x ((bs.getD j []).getD pl ⟨0, 0, 0, 0⟩)) (fun (pl : Nat) => E ((j : Int), (pl : Int))) ?_ ?_
          · intro pl hpl
            have hpl : pl < 4 := hpl
            have hjb : j < bs.length := by omega
            have hlb : (bs[j]).length = 4 := h4 _ (List.getElem_mem hjb)
            walk_at "go"
            refine orF_i (by rw [Int.zero_add]; exact atI_nm (List.getElem?_eq_getElem hjb)) ?_
            walk_at "go"
            refine orF_i (by rw [Int.zero_add]; exact atI_nm (List.getElem?_eq_getElem (hlb ▸ hpl))) ?_
            walk_at "go"
            refine ⟨x, _, rfl, ?_⟩
            rw [getD_at hjb, getD_at (hlb ▸ hpl)]
            walk_at "go"
            refine bcase_i (fun h => ?_) fun h => ?_
            · walk_at "go"
              refine ⟨?_, rfl⟩
              rw [Int.zero_add, Int.zero_add]; rfl
            · exact ⟨h, rfl⟩
          · walk_at "w"
            have hf := lapsAt_len bs j x
            refine ⟨by rw [List.length_map, List.length_map]; rw [lapsAt, List.length_map] at hf; show l.length + ((List.range 4).filter _).length ≤ _; omega, ?_⟩
            walk_at "w"
            refine ⟨mLaps bs (j + 1) x, ⟨rfl, ?_⟩, ?_, rfl⟩
            · rw [mLaps_succ, List.length_append, ← hlj]; omega
            · have e : E (mLaps bs (j + 1) x) = .lst (EL l ++ ((List.range 4).filter fun pl => mLap x ((bs.getD j []).getD pl ⟨0, 0, 0, 0⟩)).map fun (pl : Nat) => E ((j : Int), (pl : Int))) := by
                rw [mLaps_succ, ← hlj]
                show D.lst (List.map En.e _) = _
                rw [List.map_append, lapsAt, List.map_map]; rfl
              rw [e]
              walk_at "le"
        · intro l hlk
          obtain ⟨hlk, hln⟩ := hlk
          rw [show (0 + (k : Int)).toNat = k by omega] at hlk
          subst hlk
          walk_at "go"
          exact ⟨by walk_at "le", by rw [cset_cset]; rfl⟩
    · walk_at "go"
      exact ⟨by walk_at "le", by rw [cset_cset, E_map]⟩
  · walk_at "go"
    have e : (List.range (↑(EL rows).length : Int).toNat).map (fun k => E (((mBoxes rows sizes).getD k []).map fun x => if mHides x rows then none else some (mLaps (mBoxes rows sizes) k x))) = EL (mClash rows sizes) := by
      show (List.range (rows.map E).length).map _ = _
      rw [List.length_map, mClash, EL, List.map_map]; rfl
    rw [e]
    exact q p hp
theorem w__law_spots {ds : List D} {C : CMap} {Q : DQ} (h : S__law_spots ds C Q) : dBody N__law_spots d__law_spots_0 ds C Q := by
  obtain ⟨b, most, wide, rfl, hb, h0, h1, hw, q⟩ := h
  walk_at "go"
  intro p hp
  have hne : b ≠ p := ne_of_some hb hp
  walk_at "go"
  refine for_r (fun i (rows : List Pt) => rows.Nodup ∧ rows.length ≤ i ∧ (0 < i → rows ≠ []) ∧ ∀ r ∈ rows, 0 ≤ r.1 ∧ r.1 < wide ∧ 0 ≤ r.2 ∧ r.2 < wide) (fun _ => [some (.cell b), some (.int most), some (.int wide), some (.cell p), none, none]) (fun rows => cset C p (.lst (EL rows)))
    [] ⟨.nil, by simp, by simp, by simp⟩ (by walk_at "le") rfl ?_ ?_
  · intro i rows hi ⟨hnd, hlen, _, hin⟩
    walk_at "go"
    refine ⟨b, wide, rfl, (cset_ne hne).trans hb, hw, fun r0 h2 h3 => ?_⟩
    walk_at "go"
    refine ⟨b, wide, rfl, (cset_ne hne).trans hb, hw, fun r1 h4 h5 => ?_⟩
    walk_at "go"
    have e : ((EL rows).any fun z => deq z (rd (cset C p (.lst (EL rows))) (.tup [.int r0, .int r1]))) = decide ((r0, r1) ∈ rows) := En.any rows (r0, r1)
    refine bcase_i (fun h => ?_) fun h => ?_
    · have h : (!(EL rows).any fun z => deq z (rd (cset C p (.lst (EL rows))) (.tup [.int r0, .int r1]))) = true := h
      rw [e, Bool.not_eq_true', decide_eq_false_iff_not] at h
      walk_at "go"
      refine ⟨rows ++ [(r0, r1)], ⟨?_, by rw [List.length_append]; exact Nat.succ_le_succ hlen, fun _ => by simp, ?_⟩, by walk_at "le", ?_⟩
      · exact List.nodup_append.mpr ⟨hnd, by simp, fun a ha b hb => by rw [List.mem_singleton.mp hb]; exact fun e => h (e ▸ ha)⟩
      · intro r hr
        rcases List.mem_append.mp hr with hr | hr
        · exact hin r hr
        · rw [List.mem_singleton.mp hr]; exact ⟨h2, h3, h4, h5⟩
      · rw [cset_cset, EL, EL, List.map_append]; rfl
    · have h : (!(EL rows).any fun z => deq z (rd (cset C p (.lst (EL rows))) (.tup [.int r0, .int r1]))) = false := h
      rw [e, Bool.not_eq_false', decide_eq_true_eq] at h
      walk_at "w"
      exact ⟨rows, ⟨hnd, by omega, (fun _ hc => by rw [hc] at h; cases h), hin⟩, by walk_at "le", rfl⟩
  · intro rows ⟨hnd, hlen, hz, hin⟩
    walk_at "go"
    exact q rows hnd hlen (fun h => hz (by omega)) hin p hp
theorem w__law_labels {ds : List D} {C : CMap} {Q : DQ} (h : S__law_labels ds C Q) : dBody N__law_labels d__law_labels_0 ds C Q := by
  obtain ⟨b, most, wide, rfl, hb, h0, h1, hw, q⟩ := h
  walk_at "w"
  refine ⟨rfl, b, most, wide, rfl, hb, h0, h1, hw, fun rows g1 g2 g3 g4 => ?_⟩
  intro p hp
  have hne : b ≠ p := ne_of_some hb hp
  show frz (.cell p) (cset C p (.lst (EL rows))) _
  rw [frz_new hp]
  walk_at "go"
  refine lc_any rows E (fun _ (s : Pt) => 1 ≤ s.1 ∧ s.1 ≤ 4 ∧ 1 ≤ s.2 ∧ s.2 ≤ 3) E ?_ ?_
  · intro x hx
    walk_at "go"
    refine ⟨b, 4, rfl, hb, by decide, fun r0 h2 h3 => ?_⟩
    walk_at "go"
    refine ⟨b, 3, rfl, hb, by decide, fun r1 h4 h5 => ?_⟩
    walk_at "go"
    exact ⟨⟨(1 + r0, 1 + r1), ⟨by omega, by omega, by omega, by omega⟩, rfl⟩, rfl⟩
  · intro sizes hl hs
    walk_at "go"
    exact q rows sizes g1 g2 g3 g4 hl fun s hm => by
      obtain ⟨i, hi, he⟩ := List.getElem_of_mem hm
      exact hs (rows[i]'(hl ▸ hi)) s (by rw [← he]; exact List.mem_iff_getElem.mpr ⟨i, by simp [hl]; omega, by simp⟩)
end LB

namespace K68
open PySem L2 DL LB
def mFits (towns sizes : List Pt) (row : List Int) (pl : Int) : Bool :=
  if towns.any (mCov (mBox (towns.getD row.length (0, 0)) (sizes.getD row.length (0, 0)) pl)) then false
  else !(row.zipIdx.any fun x => mOver (mBox (towns.getD row.length (0, 0)) (sizes.getD row.length (0, 0)) pl) (mBox (towns.getD x.2 (0, 0)) (sizes.getD x.2 (0, 0)) x.1))
/-- the row as a plain list or as a cell -/
def rowD (C : CMap) (d : D) (row : List Int) : Prop := d = E row ∨ ∃ p, d = .cell p ∧ C p = some (.lst (EL row))
def S_fits : DSpec := fun ds C Q => ∃ (towns sizes : List Pt) (row : List Int) (d : D) (pl : Int), ds = [E towns, E sizes, d, .int pl] ∧ rowD C d row ∧ row.length < towns.length ∧ towns.length = sizes.length ∧ towns.length ≤ 1000 ∧ Q (.bl (mFits towns sizes row pl)) C
/-- the search, top of the stack first -/
def dfs (n : Nat) (al : List Int) (ok : List Int → Int → Bool) : Nat → List (List Int) → Option (Option (List Int))
  | 0, _ => none
  | _ + 1, [] => some none
  | f + 1, row :: st => if row.length = n then some (some row) else dfs n al ok f ((al.filter (ok row)).map (fun p => row ++ [p]) ++ st)
def S__law_lay : DSpec := fun ds C Q => ∃ (cl : List (List (Option (List Pt)))) (al : List Int) (r : Option (List Int)), ds = [E cl, E (Tp.mk al)] ∧ (∀ b ∈ cl, b.length = 4) ∧ (∀ p ∈ al, 0 ≤ p ∧ p < 4) ∧ al.length ≤ 4 ∧ cl.length ≤ 1000 ∧
  dfs cl.length al (fun row p => mLies cl row p.toNat) 6000 [[]] = some r ∧ Q (E r) C
def S_first_laying : DSpec := fun ds C Q => ∃ (towns sizes : List Pt) (al : List Int) (r : Option (List Int)), ds = [E towns, E sizes, E (Tp.mk al)] ∧ towns.length = sizes.length ∧ towns.length ≤ 1000 ∧ al.length ≤ 4 ∧
  dfs towns.length al (mFits towns sizes) 6000 [[]] = some r ∧ (match r with | none => Q .non C | some row => mk true (EL row) C Q)
def grown (sizes : List Pt) (k : Nat) : List Pt := sizes.map fun s => (s.1 * k, s.2 * k)
def S_greatest_size : DSpec := fun ds C Q => ∃ (towns sizes : List Pt) (most : Int) (r : Nat → Option (List Int)), ds = [E towns, E sizes, .int most] ∧ towns.length = sizes.length ∧ towns.length ≤ 1000 ∧ 0 ≤ most ∧ most ≤ 1000 ∧
  (∀ k : Nat, 1 ≤ k → k ≤ most.toNat → dfs towns.length [0, 1, 2, 3] (mFits towns (grown sizes k)) 6000 [[]] = some (r k)) ∧
  ∀ g : Nat, g ≤ most.toNat → (∀ k : Nat, 1 ≤ k → k ≤ g → (r k).isSome = true) → (g < most.toNat → r (g + 1) = none) → Q (.int (g : Nat)) C
def S_law : DSpec := fun ds C Q => ∃ xs : List Int, ds = [.ro (xs.map D.int)] ∧ ∀ C', Q (.bl true) C'
end K68

namespace K68
open PySem L2 DL
abbrev N_box_for : List Str := ["town", "size", "place", "x", "y", "wide", "high", "left", "low"]
abbrev N_overlap : List Str := ["one", "other"]
abbrev N_covers : List Str := ["box", "town"]
abbrev N__law_cell : List Str := ["script", "k"]
abbrev N__law_draw : List Str := ["box", "many"]
abbrev N__law_boxes : List Str := ["rows", "sizes", "found", "k", "x", "y", "w", "h"]
abbrev N__law_lap : List Str := ["one", "other", "wide"]
abbrev N__law_hides : List Str := ["label", "rows", "town"]
abbrev N__law_lies : List Str := ["clashes", "row", "place", "laps", "far"]
def d_fits_4 : DTS := (dRet (dNotV (dB drAny (dCons (dLc false (dEnum (dCons (dV 2) dNil)) (gT 2 (gsC (gN 7) (gsC (gN 8) gsN))) dYes (dCallN 2 LB.S_overlap (dCons (dV 5) (dCons (dCallN 3 LB.S_box_for (dCons (dIx (dV 0) (dV 7)) (dCons (dIx (dV 1) (dV 7)) (dCons (dV 8) dNil)))) dNil))) [7, 8]) dNil))))
def d_fits_3 : DTS := (dRet (dC (.bl false)))
def d_fits_2 : DTS := dSeq (dIf (dTr (dB drAny (dCons (dLc false (dIn (dV 0)) (gN 6) dYes (dCallN 2 LB.S_covers (dCons (dV 5) (dCons (dV 6) dNil))) [6]) dNil))) d_fits_3 dNext) d_fits_4
def d_fits_1 : DTS := dSeq (dSet 5 (dCallN 3 LB.S_box_for (dCons (dIx (dV 0) (dV 4)) (dCons (dIx (dV 1) (dV 4)) (dCons (dV 3) dNil))))) d_fits_2
def d_fits_0 : DTS := dSeq (dSet 4 (dB drLen (dCons (dV 2) dNil))) d_fits_1
abbrev N_fits : List Str := ["towns", "sizes", "row", "place", "at", "box", "town", "far", "old"]
abbrev N__law_digits : List Str := ["script", "first", "last", "digits", "k", "cell", "go", "seed"]
abbrev N__law_pick : List Str := ["box", "row"]
abbrev N__law_spots : List Str := ["box", "most", "wide", "found", "go", "point"]
abbrev N__law_clashes : List Str := ["rows", "sizes", "boxes", "found", "k", "fars", "label", "laps", "far", "place"]
def d__law_lay_8 : DTS := (dRet (dC .non))
def d__law_lay_7 : DTS := (dSet 2 (dAdd true (dV 2) (dLc false (dRev (dV 1)) (gN 5) (dTr (dCallN 3 LB.S__law_lies (dCons (dV 0) (dCons (dV 4) (dCons (dV 5) dNil))))) (dAdd false (dV 4) (dLst false (dCons (dV 5) dNil))) [5])))
def d__law_lay_6 : DTS := (dRet (dV 4))
def d__law_lay_5 : DTS := dSeq (dIf (dTest (dBin (drEq false) (dB drLen (dCons (dV 4) dNil)) (dB drLen (dCons (dV 0) dNil)))) d__law_lay_6 dNext) d__law_lay_7
def d__law_lay_4 : DTS := dSeq (dSet 4 (dM0 "list" drPop (dV 2))) d__law_lay_5
def d__law_lay_3 : DTS := (dRet (dC .non))
def d__law_lay_2 : DTS := dSeq (dIf (dTest (dBin (drEq false) (dV 2) (dLst false dNil))) d__law_lay_3 dNext) d__law_lay_4
def d__law_lay_1 : DTS := dSeq (dFor (dRg1 (dCons (dC (.int 6000)) dNil)) (gN 3) d__law_lay_2) d__law_lay_8
def d__law_lay_0 : DTS := dSeq (dSet 2 (dLst true (dCons (dLst false dNil) dNil))) d__law_lay_1
abbrev N__law_lay : List Str := ["clashes", "allowed", "waiting", "go", "row", "place"]
def d_first_laying_7 : DTS := (dRet (dC .non))
def d_first_laying_6 : DTS := (dDo (dM "list" drExt (dV 3) (dCons (dLc false (dRev (dV 5)) (gN 6) dYes (dAdd true (dV 4) (dLst false (dCons (dV 6) dNil))) [6]) dNil)))
def d_first_laying_5 : DTS := dSeq (dSet 5 (dLc false (dIn (dV 2)) (gN 6) (dTr (dCallN 4 S_fits (dCons (dV 0) (dCons (dV 1) (dCons (dV 4) (dCons (dV 6) dNil)))))) (dV 6) [6])) d_first_laying_6
def d_first_laying_4 : DTS := (dRet (dV 4))
def d_first_laying_3 : DTS := dSeq (dIf (dTest (dBin (drEq false) (dB drLen (dCons (dV 4) dNil)) (dB drLen (dCons (dV 0) dNil)))) d_first_laying_4 dNext) d_first_laying_5
def d_first_laying_2 : DTS := dSeq (dSet 4 (dM0 "list" drPop (dV 3))) d_first_laying_3
def d_first_laying_1 : DTS := dSeq (dWhile (dTest (dBin (drOrd .Gt) (dB drLen (dCons (dV 3) dNil)) (dC (.int 0)))) d_first_laying_2) d_first_laying_7
def d_first_laying_0 : DTS := dSeq (dSet 3 (dLst true (dCons (dLst true dNil) dNil))) d_first_laying_1
abbrev N_first_laying : List Str := ["towns", "sizes", "allowed", "waiting", "row", "free", "place"]
abbrev N__law_labels : List Str := ["box", "most", "wide", "rows", "town"]
def d_greatest_size_6 : DTS := (dRet (dV 3))
def d_greatest_size_5 : DTS := (dSet 3 (dV 4))
def d_greatest_size_4 : DTS := (dRet (dV 3))
def d_greatest_size_3 : DTS := dSeq (dIf (dTest (dBin (drIs false) (dFrz (dCallN 3 S_first_laying (dCons (dV 0) (dCons (dV 5) (dCons (dTup (dCons (dC (.int 0)) (dCons (dC (.int 1)) (dCons (dC (.int 2)) (dCons (dC (.int 3)) dNil))))) dNil))))) (dC .non))) d_greatest_size_4 dNext) d_greatest_size_5
def d_greatest_size_2 : DTS := dSeq (dSet 5 (dLc false (dIn (dV 1)) (gT 2 (gsC (gN 6) (gsC (gN 7) gsN))) dYes (dTup (dCons (dMul false (dV 6) (dV 4)) (dCons (dMul false (dV 7) (dV 4)) dNil))) [6, 7])) d_greatest_size_3
def d_greatest_size_1 : DTS := dSeq (dFor (dRg2 (dCons (dC (.int 1)) (dCons (dAdd false (dV 2) (dC (.int 1))) dNil))) (gN 4) d_greatest_size_2) d_greatest_size_6
def d_greatest_size_0 : DTS := dSeq (dSet 3 (dC (.int 0))) d_greatest_size_1
abbrev N_greatest_size : List Str := ["towns", "sizes", "most", "found", "times", "grown", "wide", "high"]
abbrev N__law_same : List Str := ["told", "due", "k"]
def d_law_33 : DTS := (dRet (dCallN 2 (DL.S_same 12) (dCons (dFrz (dCallN 3 S_first_laying (dCons (dSl false (dV 14) dNoP (dP (dC (.int 2)))) (dCons (dV 15) (dCons (dTup (dCons (dC (.int 0)) (dCons (dC (.int 1)) (dCons (dC (.int 3)) dNil)))) dNil))))) (dCons (dLst false (dCons (dC (.int 0)) (dCons (dC (.int 3)) dNil))) dNil))))
def d_law_32 : DTS := (dRet (dC (.bl false)))
def d_law_31 : DTS := dSeq (dIf (dOr (dTest (dBin (drIs true) (dFrz (dCallN 3 S_first_laying (dCons (dSl false (dV 14) dNoP (dP (dC (.int 2)))) (dCons (dV 15) (dCons (dTup (dCons (dC (.int 0)) dNil)) dNil))))) (dC .non))) (dNot (dTr (dCallN 2 (DL.S_same 12) (dCons (dFrz (dCallN 3 S_first_laying (dCons (dSl false (dV 14) dNoP (dP (dC (.int 2)))) (dCons (dV 15) (dCons (dTup (dCons (dC (.int 0)) (dCons (dC (.int 1)) dNil))) dNil))))) (dCons (dLst false (dCons (dC (.int 1)) (dCons (dC (.int 0)) dNil))) dNil)))))) d_law_32 dNext) d_law_33
def d_law_30 : DTS := dSeq (dSet 15 (dLst false (dCons (dTup (dCons (dC (.int 2)) (dCons (dC (.int 1)) dNil))) (dCons (dTup (dCons (dC (.int 2)) (dCons (dC (.int 1)) dNil))) dNil)))) d_law_31
def d_law_29 : DTS := (dRet (dC (.bl false)))
def d_law_28 : DTS := dSeq (dIf (dOr (dNot (dTr (dCallN 2 (DL.S_same 12) (dCons (dFrz (dCallN 3 S_first_laying (dCons (dV 14) (dCons (dMul false (dLst false (dCons (dTup (dCons (dC (.int 1)) (dCons (dC (.int 1)) dNil))) dNil)) (dC (.int 4))) (dCons (dTup (dCons (dC (.int 0)) (dCons (dC (.int 1)) (dCons (dC (.int 2)) (dCons (dC (.int 3)) dNil))))) dNil))))) (dCons (dLst false (dCons (dC (.int 0)) (dCons (dC (.int 0)) (dCons (dC (.int 0)) (dCons (dC (.int 0)) dNil))))) dNil))))) (dNot (dTr (dCallN 2 (DL.S_same 12) (dCons (dCallN 3 S_greatest_size (dCons (dV 14) (dCons (dMul false (dLst false (dCons (dTup (dCons (dC (.int 1)) (dCons (dC (.int 1)) dNil))) dNil)) (dC (.int 4))) (dCons (dC (.int 7)) dNil)))) (dCons (dC (.int 7)) dNil)))))) d_law_29 dNext) d_law_30
def d_law_27 : DTS := dSeq (dSet 14 (dLst false (dCons (dTup (dCons (dC (.int 0)) (dCons (dC (.int 0)) dNil))) (dCons (dTup (dCons (dC (.int 1)) (dCons (dC (.int 0)) dNil))) (dCons (dTup (dCons (dC (.int 0)) (dCons (dC (.int 1)) dNil))) (dCons (dTup (dCons (dC (.int 1)) (dCons (dC (.int 1)) dNil))) dNil)))))) d_law_28
def d_law_26 : DTS := (dRet (dC (.bl false)))
def d_law_25 : DTS := dSeq (dIf (dOr (dNot (dTr (dCallN 2 (DL.S_same 12) (dCons (dCallN 3 S_greatest_size (dCons (dIx (dV 5) (dC (.int 0))) (dCons (dIx (dV 5) (dC (.int 1))) (dCons (dV 10) dNil)))) (dCons (dB drMax (dCons (dV 11) dNil)) dNil))))) (dOr (dTest (dBin (drEq true) (dIx (dV 5) (dC (.int 0))) (dV 3))) (dTest (dBin (drEq true) (dIx (dV 5) (dC (.int 1))) (dV 4))))) d_law_26 dNext) d_law_27
def d_law_24 : DTS := dFz 11 d_law_25
def d_law_23 : DTS := (dDo (dM "list" drApp (dV 11) (dCons (dV 12) dNil)))
def d_law_22 : DTS := (dIf (dTest (dBin (drIs true) (dCallN 2 S__law_lay (dCons (dFrz (dCallN 2 LB.S__law_clashes (dCons (dV 3) (dCons (dV 13) dNil)))) (dCons (dTup (dCons (dC (.int 0)) (dCons (dC (.int 1)) (dCons (dC (.int 2)) (dCons (dC (.int 3)) dNil))))) dNil))) (dC .non))) d_law_23 dNext)
def d_law_21 : DTS := dSeq (dSet 13 (dLc false (dIn (dV 4)) (gT 2 (gsC (gN 16) (gsC (gN 17) gsN))) dYes (dTup (dCons (dMul false (dV 16) (dV 12)) (dCons (dMul false (dV 17) (dV 12)) dNil))) [16, 17])) d_law_22
def d_law_20 : DTS := dSeq (dFor (dRg2 (dCons (dC (.int 1)) (dCons (dAdd false (dV 10) (dC (.int 1))) dNil))) (gN 12) d_law_21) d_law_24
def d_law_19 : DTS := dSeq (dSet 11 (dLst true (dCons (dC (.int 0)) dNil))) d_law_20
def d_law_18 : DTS := dSeq (dSet 10 (dCallN 2 DL.S_pick (dCons (dV 1) (dCons (dLst false (dCons (dC (.int 3)) (dCons (dC (.int 5)) (dCons (dC (.int 4)) (dCons (dC (.int 1)) (dCons (dC (.int 0)) dNil)))))) dNil)))) d_law_19
def d_law_17 : DTS := dSeq (dSet 5 (dTup (dCons (dB (drList false) (dCons (dV 3) dNil)) (dCons (dB (drList false) (dCons (dV 4) dNil)) dNil)))) d_law_18
def d_law_16 : DTS := dSeq (dAsg (dCallN 3 LB.S__law_labels (dCons (dV 1) (dCons (dCallN 2 DL.S_pick (dCons (dV 1) (dCons (dLst false (dCons (dC (.int 3)) (dCons (dC (.int 4)) (dCons (dC (.int 2)) (dCons (dC (.int 1)) (dCons (dC (.int 5)) dNil)))))) dNil))) (dCons (dCallN 2 DL.S_pick (dCons (dV 1) (dCons (dLst false (dCons (dC (.int 6)) (dCons (dC (.int 4)) (dCons (dC (.int 12)) dNil)))) dNil))) dNil)))) (gT 2 (gsC (gN 3) (gsC (gN 4) gsN)))) d_law_17
def d_law_15 : DTS := dFz 9 dNext
def d_law_14 : DTS := (dRet (dC (.bl false)))
def d_law_13 : DTS := (dIf (dNot (dTr (dCallN 2 (DL.S_same 12) (dCons (dFrz (dCallN 3 S_first_laying (dCons (dIx (dV 5) (dC (.int 0))) (dCons (dIx (dV 5) (dC (.int 1))) (dCons (dV 7) dNil))))) (dCons (dV 8) dNil))))) d_law_14 dNext)
def d_law_12 : DTS := dSeq (dDo (dM "list" drApp (dV 9) (dCons (dC (.int 0)) dNil))) d_law_13
def d_law_11 : DTS := dSeq (dIf (dTest (dBin (drIs true) (dV 8) (dC .non))) d_law_12 dNext) d_law_15
def d_law_10 : DTS := (dRet (dC (.bl false)))
def d_law_9 : DTS := dSeq (dIf (dOr (dNot (dTr (dCallN 2 (DL.S_same 12) (dCons (dV 9) (dCons (dV 8) dNil))))) (dOr (dTest (dBin (drEq true) (dIx (dV 5) (dC (.int 0))) (dV 3))) (dTest (dBin (drEq true) (dIx (dV 5) (dC (.int 1))) (dV 4))))) d_law_10 dNext) d_law_11
def d_law_8 : DTS := dSeq (dSet 9 (dCallN 3 S_first_laying (dCons (dIx (dV 5) (dC (.int 0))) (dCons (dIx (dV 5) (dC (.int 1))) (dCons (dV 7) dNil))))) d_law_9
def d_law_7 : DTS := dSeq (dSet 8 (dCallN 2 S__law_lay (dCons (dV 6) (dCons (dV 7) dNil)))) d_law_8
def d_law_6 : DTS := (dFor (dIn (dLst false (dCons (dTup (dCons (dC (.int 0)) (dCons (dC (.int 1)) (dCons (dC (.int 2)) (dCons (dC (.int 3)) dNil))))) (dCons (dCallN 2 DL.S_pick (dCons (dV 1) (dCons (dLst false (dCons (dTup (dCons (dC (.int 0)) (dCons (dC (.int 1)) dNil))) (dCons (dTup (dCons (dC (.int 1)) (dCons (dC (.int 3)) dNil))) (dCons (dTup (dCons (dC (.int 0)) (dCons (dC (.int 2)) (dCons (dC (.int 3)) dNil)))) (dCons (dTup (dCons (dC (.int 1)) (dCons (dC (.int 2)) (dCons (dC (.int 3)) dNil)))) (dCons (dTup (dCons (dC (.int 2)) (dCons (dC (.int 3)) dNil))) dNil)))))) dNil))) (dCons (dCallN 2 DL.S_pick (dCons (dV 1) (dCons (dLst false (dCons (dTup (dCons (dC (.int 2)) dNil)) (dCons (dTup (dCons (dC (.int 0)) dNil)) (dCons (dTup dNil) dNil)))) dNil))) dNil))))) (gN 7) d_law_7)
def d_law_5 : DTS := dSeq (dSet 6 (dFrz (dCallN 2 LB.S__law_clashes (dCons (dV 3) (dCons (dV 4) dNil))))) d_law_6
def d_law_4 : DTS := dSeq (dSet 5 (dTup (dCons (dB (drList false) (dCons (dV 3) dNil)) (dCons (dB (drList false) (dCons (dV 4) dNil)) dNil)))) d_law_5
def d_law_3 : DTS := dSeq (dAsg (dCallN 3 LB.S__law_labels (dCons (dV 1) (dCons (dCallN 2 DL.S_pick (dCons (dV 1) (dCons (dLst false (dCons (dC (.int 4)) (dCons (dC (.int 6)) (dCons (dC (.int 5)) (dCons (dC (.int 3)) (dCons (dC (.int 2)) (dCons (dC (.int 1)) dNil))))))) dNil))) (dCons (dCallN 2 DL.S_pick (dCons (dV 1) (dCons (dLst false (dCons (dC (.int 4)) (dCons (dC (.int 3)) (dCons (dC (.int 6)) (dCons (dC (.int 30)) dNil))))) dNil))) dNil)))) (gT 2 (gsC (gN 3) (gsC (gN 4) gsN)))) d_law_4
def d_law_2 : DTS := dSeq (dFor (dRg1 (dCons (dC (.int 2)) dNil)) (gN 2) d_law_3) d_law_16
def d_law_1 : DTS := dHide 1 d_law_2
def d_law_0 : DTS := dSeq (dSet 1 (dLst true (dCons (dFrz (dCallN 3 DL.S_digits (dCons (dV 0) (dCons (dC (.int 0)) (dCons (dC (.int 12)) dNil))))) (dCons (dC (.int 0)) dNil)))) d_law_1
abbrev N_law : List Str := ["script", "box", "step", "rows", "sizes", "handed", "clashes", "allowed", "due", "told", "most", "fit", "size", "grown", "four", "two", "wide", "high"]
end K68

namespace K68
open PySem L2 DL LB
def sz : Nat → Nat
  | 0 => 1
  | k + 1 => 1 + 4 * sz k
theorem sum_le {α : Type} {f : α → Nat} {c : Nat} : ∀ l : List α, (∀ x ∈ l, f x ≤ c) → (l.map f).sum ≤ l.length * c
  | [], _ => by simp
  | x :: l, h => by
    have h1 := h x List.mem_cons_self
    have h2 := sum_le l fun y hy => h y (List.mem_cons_of_mem _ hy)
    rw [List.map_cons, List.sum_cons, List.length_cons, Nat.add_mul]; omega
theorem dfs_some (n : Nat) (al : List Int) (ok : List Int → Int → Bool) (hal : al.length ≤ 4) : ∀ (f : Nat) (st : List (List Int)), (∀ r ∈ st, r.length ≤ n) → (st.map fun r => sz (n - r.length)).sum < f → ∃ r, dfs n al ok f st = some r
  | 0, _, _, h => by omega
  | f + 1, [], _, _ => ⟨none, rfl⟩
  | f + 1, row :: st, hl, h => by
    by_cases e : row.length = n
    · exact ⟨some row, by rw [dfs, if_pos e]⟩
    · have hlt : row.length < n := by have := hl row List.mem_cons_self; omega
      obtain ⟨m, hm⟩ : ∃ m, n - row.length = m + 1 := ⟨n - row.length - 1, by omega⟩
      rw [List.map_cons, List.sum_cons, hm, sz] at h
      rw [dfs, if_neg e]
      refine dfs_some n al ok hal f _ ?_ ?_
      · intro r hr
        rcases List.mem_append.mp hr with hr | hr
        · obtain ⟨p, _, rfl⟩ := List.mem_map.mp hr
          rw [List.length_append]; exact hlt
        · exact hl r (List.mem_cons_of_mem _ hr)
      · rw [List.map_append, List.sum_append, List.map_map]
        have h1 : ((al.filter (ok row)).map ((fun r : List Int => sz (n - r.length)) ∘ fun p => row ++ [p])).sum ≤ (al.filter (ok row)).length * sz m := sum_le _ fun p _ => by
          show sz (n - (row ++ [p]).length) ≤ _
          rw [List.length_append, List.length_singleton, show n - (row.length + 1) = m by omega]; exact Nat.le_refl _
        have h2 : (al.filter (ok row)).length * sz m ≤ 4 * sz m := Nat.mul_le_mul_right _ (Nat.le_trans (List.length_filter_le _ _) hal)
        omega
theorem dfs_go (n : Nat) (al : List Int) (ok : List Int → Int → Bool) (hal : al.length ≤ 4) (hn : n ≤ 6) : ∃ r, dfs n al ok 6000 [[]] = some r := by
  refine dfs_some n al ok hal 6000 [[]] (by simp) ?_
  have : sz n ≤ 5461 := by
    have : n = 0 ∨ n = 1 ∨ n = 2 ∨ n = 3 ∨ n = 4 ∨ n = 5 ∨ n = 6 := by omega
    rcases this with rfl | rfl | rfl | rfl | rfl | rfl | rfl <;> decide
  show sz (n - 0) + 0 < 6000
  rw [Nat.sub_zero]; omega
theorem dfs_congr (n : Nat) (al : List Int) {ok ok' : List Int → Int → Bool} (h : ∀ row p, row.length < n → (∀ x ∈ row, x ∈ al) → p ∈ al → ok row p = ok' row p) : ∀ (f : Nat) (st : List (List Int)), (∀ r ∈ st, r.length ≤ n ∧ ∀ x ∈ r, x ∈ al) → dfs n al ok f st = dfs n al ok' f st
  | 0, _, _ => rfl
  | f + 1, [], _ => rfl
  | f + 1, row :: st, hl => by
    obtain ⟨h1, h2⟩ := hl row List.mem_cons_self
    rw [dfs, dfs]
    by_cases e : row.length = n
    · rw [if_pos e, if_pos e]
    · rw [if_neg e, if_neg e]
      have e1 : al.filter (ok row) = al.filter (ok' row) := List.filter_congr fun p hp => h row p (by omega) h2 hp
      rw [e1]
      refine dfs_congr n al h f _ fun r hr => ?_
      rcases List.mem_append.mp hr with hr | hr
      · obtain ⟨p, hp, rfl⟩ := List.mem_map.mp hr
        refine ⟨by rw [List.length_append, List.length_singleton]; omega, fun x hx => ?_⟩
        rcases List.mem_append.mp hx with hx | hx
        · exact h2 x hx
        · rw [List.mem_singleton.mp hx]; exact (List.mem_filter.mp hp).1
      · exact hl r (List.mem_cons_of_mem _ hr)
/-- what is found: a full row of allowed places -/
theorem dfs_shape (n : Nat) (al : List Int) (ok : List Int → Int → Bool) : ∀ (f : Nat) (st : List (List Int)) (row : List Int), (∀ r ∈ st, ∀ x ∈ r, x ∈ al) → dfs n al ok f st = some (some row) → row.length = n ∧ ∀ x ∈ row, x ∈ al
  | 0, _, _, _, h => by cases h
  | f + 1, [], _, _, h => by cases h
  | f + 1, r :: st, row, hl, h => by
    rw [dfs] at h
    by_cases e : r.length = n
    · rw [if_pos e] at h; cases h; exact ⟨e, hl r List.mem_cons_self⟩
    · rw [if_neg e] at h
      refine dfs_shape n al ok f _ row (fun q hq => ?_) h
      rcases List.mem_append.mp hq with hq | hq
      · obtain ⟨p, hp, rfl⟩ := List.mem_map.mp hq
        intro x hx
        rcases List.mem_append.mp hx with hx | hx
        · exact hl r List.mem_cons_self x hx
        · rw [List.mem_singleton.mp hx]; exact (List.mem_filter.mp hp).1
      · exact hl q (List.mem_cons_of_mem _ hq)
theorem four_box {t s : Pt} {p : Int} {d : Bx} (h : 0 ≤ p ∧ p < 4) : (four t s).getD p.toNat d = mBox t s p := by
  have : p = 0 ∨ p = 1 ∨ p = 2 ∨ p = 3 := by omega
  rcases this with rfl | rfl | rfl | rfl <;> simp [four, mBox] <;> omega
def Full (x : Bx) : Prop := x.a < x.c ∧ x.b < x.d
theorem full_box {t s : Pt} {p : Int} (h : 1 ≤ s.1 ∧ 1 ≤ s.2) : Full (mBox t s p) := by
  unfold Full mBox; constructor <;> dsimp only <;> omega
theorem lap_over {x y : Bx} (hx : Full x) (hy : Full y) : mLap x y = mOver x y := by
  obtain ⟨h1, h2⟩ := hx
  obtain ⟨h3, h4⟩ := hy
  rw [Bool.eq_iff_iff]
  simp only [mLap, mOver, Bool.and_eq_true, decide_eq_true_eq]
  omega
theorem mem_laps {bs : List (List Bx)} {k : Nat} {x : Bx} {z : Pt} : z ∈ mLaps bs k x ↔ ∃ far, far < k ∧ ∃ pl, pl < 4 ∧ mLap x ((bs.getD far []).getD pl ⟨0, 0, 0, 0⟩) = true ∧ ((far : Int), (pl : Int)) = z := by
  simp only [mLaps, List.mem_flatMap, List.mem_map, List.mem_filter, List.mem_range]
  constructor
  · rintro ⟨far, h1, pl, ⟨h2, h3⟩, h4⟩; exact ⟨far, h1, pl, h2, h3, h4⟩
  · rintro ⟨far, h1, pl, h2, h3, h4⟩; exact ⟨far, h1, pl, ⟨h2, h3⟩, h4⟩
theorem boxes_at {rows sizes : List Pt} {i : Nat} (hl : rows.length = sizes.length) (h : i < rows.length) : (mBoxes rows sizes).getD i [] = four (rows.getD i (0, 0)) (sizes.getD i (0, 0)) := by
  have h' : i < sizes.length := hl ▸ h
  have e : (rows.zip sizes)[i]? = some (rows[i], sizes[i]) := by rw [List.getElem?_eq_getElem (by rw [List.length_zip]; omega), List.getElem_zip]
  simp [mBoxes, List.getD, h, h', e]
theorem fits_eq {towns sizes : List Pt} {row : List Int} {p : Int} (hl : towns.length = sizes.length) (hs : ∀ s ∈ sizes, 1 ≤ s.1 ∧ 1 ≤ s.2) (hr : row.length < towns.length) (hrow : ∀ x ∈ row, 0 ≤ x ∧ x < 4) (hp : 0 ≤ p ∧ p < 4) :
    mFits towns sizes row p = mLies (mClash towns sizes) row p.toNat := by
  have hsz : ∀ i, i < towns.length → 1 ≤ (sizes.getD i (0, 0)).1 ∧ 1 ≤ (sizes.getD i (0, 0)).2 := fun i hi => by
    have hi' : i < sizes.length := hl ▸ hi
    have e : sizes.getD i (0, 0) = sizes[i] := by simp [List.getD, hi']
    rw [e]; exact hs _ (List.getElem_mem hi')
  have e1 : ((mClash towns sizes).getD row.length []).getD p.toNat none = (let x := mBox (towns.getD row.length (0, 0)) (sizes.getD row.length (0, 0)) p; if mHides x towns then none else some (mLaps (mBoxes towns sizes) row.length x)) := by
    have h1 : (mClash towns sizes).getD row.length [] = ((mBoxes towns sizes).getD row.length []).map fun x => if mHides x towns then none else some (mLaps (mBoxes towns sizes) row.length x) := by
      simp [mClash, List.getD, hr]
    rw [h1, boxes_at hl hr]
    have h2 : p.toNat < (four (towns.getD row.length (0, 0)) (sizes.getD row.length (0, 0))).length := by show p.toNat < 4; omega
    rw [← four_box (d := ⟨0, 0, 0, 0⟩) hp]
    generalize four (towns.getD row.length (0, 0)) (sizes.getD row.length (0, 0)) = F at h2
    obtain ⟨v, hv⟩ : ∃ v, F[p.toNat]? = some v := ⟨_, List.getElem?_eq_getElem h2⟩
    simp only [List.getD, List.getElem?_map, hv]
    rfl
  unfold mFits mLies
  rw [e1]
  generalize hx : mBox (towns.getD row.length (0, 0)) (sizes.getD row.length (0, 0)) p = x
  have fx : Full x := hx ▸ full_box (hsz _ hr)
  show _ = (match (if mHides x towns then none else some (mLaps (mBoxes towns sizes) row.length x)) with | none => false | some laps => _)
  unfold mHides
  cases towns.any (mCov x) with
  | true => rfl
  | false =>
    simp only [if_neg Bool.false_ne_true]
    rw [Bool.eq_iff_iff, Bool.not_eq_true', List.any_eq_false, List.all_eq_true]
    constructor
    · intro h far hfar
      have hfar : far < row.length := List.mem_range.mp hfar
      rw [Bool.not_eq_true', decide_eq_false_iff_not, mem_laps]
      rintro ⟨far', h1, pl, h2, h3, h4⟩
      cases Prod.mk.injEq .. ▸ h4 with | intro h5 h6 =>
      have h5 : far' = far := by omega
      subst h5
      have e2 : row.getD far' 0 = row[far'] := by simp [List.getD, hfar]
      rw [e2] at h6
      have hm := hrow _ (List.getElem_mem hfar)
      refine h (row[far'], far') (by rw [List.mem_zipIdx_iff_getElem?]; exact List.getElem?_eq_getElem hfar) ?_
      rw [boxes_at hl (by omega), show pl = (row[far']).toNat by omega, four_box hm] at h3
      rw [← lap_over fx (full_box (hsz _ (by omega)))]; exact h3
    · intro h ⟨old, far⟩ hz
      rw [List.mem_zipIdx_iff_getElem?] at hz
      obtain ⟨hfar, he⟩ := List.getElem?_eq_some_iff.mp hz
      have h1 := h far (List.mem_range.mpr hfar)
      rw [Bool.not_eq_true', decide_eq_false_iff_not, mem_laps] at h1
      intro hc
      have he : row[far] = old := he
      have hm := hrow _ (List.getElem_mem hfar)
      refine h1 ⟨far, hfar, (row[far]).toNat, by omega, ?_, ?_⟩
      · rw [boxes_at hl (by omega), four_box hm, lap_over fx (full_box (hsz _ (by omega))), he]; exact hc
      · have e2 : row.getD far 0 = row[far] := by simp [List.getD, hfar]
        rw [e2, Int.toNat_of_nonneg hm.1]
theorem lay_eq {towns sizes : List Pt} {al : List Int} (hl : towns.length = sizes.length) (hs : ∀ s ∈ sizes, 1 ≤ s.1 ∧ 1 ≤ s.2) (hal : ∀ x ∈ al, 0 ≤ x ∧ x < 4) :
    dfs towns.length al (mFits towns sizes) 6000 [[]] = dfs (mClash towns sizes).length al (fun row p => mLies (mClash towns sizes) row p.toNat) 6000 [[]] := by
  have e : (mClash towns sizes).length = towns.length := by simp [mClash]
  rw [e]
  refine dfs_congr _ _ (fun row p h1 h2 h3 => fits_eq hl hs h1 (fun x hx => hal x (h2 x hx)) (hal p h3)) _ _ fun r hr => ?_
  rw [List.mem_singleton.mp hr]; exact ⟨Nat.zero_le _, by simp⟩
theorem dfs_none (n : Nat) (al : List Int) (ok : List Int → Int → Bool) : ∀ (f : Nat) (st : List (List Int)), dfs n al ok f st = some none → ∀ r ∈ st, ∀ full : List Int, full.length = n → full.take r.length = r → (∀ x ∈ full, x ∈ al) → ¬ ∀ i (h : i < full.length), r.length ≤ i → ok (full.take i) full[i] = true
  | 0, _, h => by cases h
  | f + 1, [], _ => by simp
  | f + 1, row :: st, h => by
    rw [dfs] at h
    by_cases e : row.length = n
    · rw [if_pos e] at h; cases h
    · rw [if_neg e] at h
      have ih := dfs_none n al ok f _ h
      intro r hr full h1 h2 h3 h4
      rcases List.mem_cons.mp hr with rfl | hr
      · have hle : r.length ≤ full.length := by have := congrArg List.length h2; rw [List.length_take] at this; omega
        have hlt : r.length < full.length := by omega
        have hok := h4 r.length hlt (Nat.le_refl _)
        rw [h2] at hok
        have ht : full.take (r.length + 1) = r ++ [full[r.length]] := by rw [List.take_add_one, h2, List.getElem?_eq_getElem hlt]; rfl
        refine ih (r ++ [full[r.length]]) (List.mem_append_left _ (List.mem_map.mpr ⟨_, List.mem_filter.mpr ⟨h3 _ (List.getElem_mem hlt), hok⟩, rfl⟩)) full h1 (by rw [List.length_append, List.length_singleton, ht]) h3 fun i hi hr => h4 i hi (by rw [List.length_append] at hr; omega)
      · exact ih r (List.mem_append_right _ hr) full h1 h2 h3 h4
def valid (ok : List Int → Int → Bool) (row : List Int) : Prop := ∀ i (h : i < row.length), ok (row.take i) row[i] = true
theorem dfs_valid (n : Nat) (al : List Int) (ok : List Int → Int → Bool) : ∀ (f : Nat) (st : List (List Int)) (row : List Int), (∀ r ∈ st, valid ok r) → dfs n al ok f st = some (some row) → valid ok row
  | 0, _, _, _, h => by cases h
  | f + 1, [], _, _, h => by cases h
  | f + 1, r :: st, row, hl, h => by
    rw [dfs] at h
    by_cases e : r.length = n
    · rw [if_pos e] at h; cases h; exact hl r List.mem_cons_self
    · rw [if_neg e] at h
      refine dfs_valid n al ok f _ row (fun q hq => ?_) h
      rcases List.mem_append.mp hq with hq | hq
      · obtain ⟨p, hp, rfl⟩ := List.mem_map.mp hq
        intro i hi
        by_cases hir : i < r.length
        · rw [List.take_append_of_le_length (by omega), List.getElem_append_left hir]
          exact hl r List.mem_cons_self i hir
        · have : i = r.length := by rw [List.length_append, List.length_singleton] at hi; omega
          subst this
          simp only [List.take_left, List.getElem_concat_length]
          exact (List.mem_filter.mp hp).2
      · exact hl q (List.mem_cons_of_mem _ hq)
theorem grown_at {sizes : List Pt} {k i : Nat} : (grown sizes k).getD i (0, 0) = ((sizes.getD i (0, 0)).1 * k, (sizes.getD i (0, 0)).2 * k) := by
  unfold grown
  cases e : sizes[i]? with
  | none => simp [List.getD, e]
  | some s => simp [List.getD, e]
theorem cov_mono {x y : Bx} {t : Pt} (h : x.a ≤ y.a ∧ y.c ≤ x.c ∧ x.b ≤ y.b ∧ y.d ≤ x.d) (h' : mCov x t = false) : mCov y t = false := by
  rw [Bool.eq_false_iff] at h' ⊢
  simp only [mCov, Bool.and_eq_true, decide_eq_true_eq, ne_eq] at h' ⊢
  omega
theorem over_mono {x y x' y' : Bx} (h : x.a ≤ y.a ∧ y.c ≤ x.c ∧ x.b ≤ y.b ∧ y.d ≤ x.d) (g : x'.a ≤ y'.a ∧ y'.c ≤ x'.c ∧ x'.b ≤ y'.b ∧ y'.d ≤ x'.d) (h' : mOver x x' = false) : mOver y y' = false := by
  rw [Bool.eq_false_iff] at h' ⊢
  simp only [mOver, Bool.and_eq_true, decide_eq_true_eq, ne_eq] at h' ⊢
  omega
theorem box_mono {t s : Pt} {p : Int} {j k : Nat} (hs : 0 ≤ s.1 ∧ 0 ≤ s.2) (h : j ≤ k) : (mBox t (s.1 * k, s.2 * k) p).a ≤ (mBox t (s.1 * j, s.2 * j) p).a ∧ (mBox t (s.1 * j, s.2 * j) p).c ≤ (mBox t (s.1 * k, s.2 * k) p).c ∧ (mBox t (s.1 * k, s.2 * k) p).b ≤ (mBox t (s.1 * j, s.2 * j) p).b ∧ (mBox t (s.1 * j, s.2 * j) p).d ≤ (mBox t (s.1 * k, s.2 * k) p).d := by
  have h1 : s.1 * (j : Int) ≤ s.1 * (k : Int) := Int.mul_le_mul_of_nonneg_left (by omega) hs.1
  have h2 : s.2 * (j : Int) ≤ s.2 * (k : Int) := Int.mul_le_mul_of_nonneg_left (by omega) hs.2
  simp only [mBox]
  generalize s.1 * (j : Int) = a at *
  generalize s.1 * (k : Int) = b at *
  generalize s.2 * (j : Int) = c at *
  generalize s.2 * (k : Int) = d at *
  refine ⟨?_, ?_, ?_, ?_⟩ <;> split <;> omega
theorem fits_mono {towns sizes : List Pt} {row : List Int} {p : Int} {j k : Nat} (hs : ∀ s ∈ sizes, 1 ≤ s.1 ∧ 1 ≤ s.2) (h : j ≤ k) (hf : mFits towns (grown sizes k) row p = true) : mFits towns (grown sizes j) row p = true := by
  have hsz : ∀ i, 0 ≤ (sizes.getD i (0, 0)).1 ∧ 0 ≤ (sizes.getD i (0, 0)).2 := fun i => by
    cases e : sizes[i]? with
    | none => simp [List.getD, e]
    | some s =>
      have := hs s (List.mem_of_getElem? e)
      simp only [List.getD, e, Option.getD_some]; omega
  unfold mFits at hf ⊢
  rw [grown_at] at hf ⊢
  have hb := fun i (q : Int) => box_mono (t := towns.getD i (0, 0)) (p := q) (hsz i) h
  by_cases hc : towns.any (mCov (mBox (towns.getD row.length (0, 0)) ((sizes.getD row.length (0, 0)).1 * k, (sizes.getD row.length (0, 0)).2 * k) p)) = true
  · rw [if_pos hc] at hf; cases hf
  · rw [if_neg hc] at hf
    have hc' : ¬ towns.any (mCov (mBox (towns.getD row.length (0, 0)) ((sizes.getD row.length (0, 0)).1 * j, (sizes.getD row.length (0, 0)).2 * j) p)) = true := by
      rw [Bool.not_eq_true, List.any_eq_false] at hc ⊢
      intro t ht
      have := hc t ht
      rw [Bool.not_eq_true] at this ⊢
      exact cov_mono (hb _ p) this
    rw [if_neg hc']
    rw [Bool.not_eq_true', List.any_eq_false] at hf ⊢
    intro z hz
    have := hf z hz
    rw [grown_at, Bool.not_eq_true] at this
    rw [grown_at, Bool.not_eq_true]
    exact over_mono (hb _ p) (hb _ z.1) this
theorem some_mono {towns sizes : List Pt} {al : List Int} {j k : Nat} {rj rk : Option (List Int)} (hs : ∀ s ∈ sizes, 1 ≤ s.1 ∧ 1 ≤ s.2) (h : j ≤ k) (hk : dfs towns.length al (mFits towns (grown sizes k)) 6000 [[]] = some rk) (hj : dfs towns.length al (mFits towns (grown sizes j)) 6000 [[]] = some rj) (hr : rk.isSome = true) : rj.isSome = true := by
  cases rk with
  | none => cases hr
  | some row =>
    cases rj with
    | some _ => rfl
    | none =>
      have hv := dfs_valid _ _ _ _ _ _ (by intro r hr; rw [List.mem_singleton.mp hr]; intro i hi; cases hi) hk
      obtain ⟨h1, h2⟩ := dfs_shape _ _ _ _ _ _ (by intro r hr; rw [List.mem_singleton.mp hr]; simp) hk
      exact (dfs_none _ _ _ _ _ hj [] (List.mem_singleton.mpr rfl) row h1 rfl h2 fun i hi _ => fits_mono hs h (hv i hi)).elim
end K68

namespace K68
open PySem PySem.Spec PyProof.Rows L2 DL LB
-- MACROS BEGIN
local macro_rules | `(tactic| walk_at "w") => `(tactic| conv => whnf)
local macro_rules | `(tactic| walk_at "lk") => `(tactic| first | exact cset_same | assumption | (refine (cset_ne (by first | assumption | (apply Ne.symm; assumption))).trans ?_; walk_at "lk"))
local macro_rules | `(tactic| walk_at "nn") => `(tactic| first | assumption | (refine (cset_ne (by first | assumption | (apply Ne.symm; assumption))).trans ?_; walk_at "nn"))
local macro_rules | `(tactic| walk_at "side") => `(tactic| first | rfl | decide | omega | (dsimp only; first | done | decide | omega) | exact Or.inr (by decide) | exact Or.inl (by decide) | exact Or.inr ⟨by omega, by omega⟩ | exact Or.inl ⟨by omega, by omega⟩ | exact dTy_lst (asL_cell (by walk_at "lk")) | exact En.fl30 _ | exact En.all30 _ | exact fl_l _ | exact fl_all _ | exact fl_g _ _ | exact fl_c (by walk_at "lk") | (simp only [List.length_map, List.length_append, List.length_cons, List.length_nil]; omega) | (walk_at "my"))
local macro_rules | `(tactic| walk_at "go1") => `(tactic| first | refine And.intro (by walk_at "side") ?_ | refine orF_i (asL_cell (by walk_at "lk")) ?_ | refine orF_i (asQ_cell (by walk_at "lk")) ?_ | refine orF_i (asR_cell (by walk_at "lk")) ?_ | refine orF_i (lenD_cell (by walk_at "lk")) ?_ | refine orF_i (seqOf_cell (by walk_at "lk")) ?_ | refine orF_i (tyN_cell (by walk_at "lk")) ?_ | refine frzC_n (by walk_at "nn") ?_ | refine frzC_i (by walk_at "lk") ?_)
local macro_rules | `(tactic| walk_at "go") => `(tactic| (walk_at "w"; repeat (walk_at "go1"; walk_at "w")))
local macro_rules | `(tactic| walk_at "le") => `(tactic| (repeat (first | exact trivial | refine ⟨rfl, ?_⟩)))
-- MACROS END
theorem rowD.lst {C : CMap} {d : D} {row : List Int} (h : rowD C d row) : asR C d = some (EL row) := by
  rcases h with rfl | ⟨p, rfl, h⟩
  · rfl
  · exact asR_cell h
theorem rowD.len {C : CMap} {d : D} {row : List Int} (h : rowD C d row) : lenD C d = some row.length := by
  rcases h with rfl | ⟨p, rfl, h⟩
  · show some (row.map E).length = _; rw [List.length_map]
  · rw [lenD_cell h, EL, List.length_map]
theorem rowD.watch {C : CMap} {d : D} {row : List Int} (h : rowD C d row) (ds : List D) : DL.watch (wat (EL row) d) ds C := by
  rcases h with rfl | ⟨p, rfl, h⟩
  · trivial
  · exact h
theorem w_fits {ds : List D} {C : CMap} {Q : DQ} (h : S_fits ds C Q) : dBody N_fits d_fits_0 ds C Q := by
  obtain ⟨towns, sizes, row, d, pl, rfl, hr, hn, hl, h1000, q⟩ := h
  have hn' : row.length < sizes.length := hl ▸ hn
  walk_at "w"
  refine orF_i hr.len ?_
  walk_at "go"
  refine orF_i (atI_nm (List.getElem?_eq_getElem hn)) ?_
  walk_at "go"
  refine orF_i (atI_nm (List.getElem?_eq_getElem hn')) ?_
  walk_at "w"
  refine ⟨rfl, towns[row.length], sizes[row.length], pl, rfl, ?_⟩
  have e : mFits towns sizes row pl = if towns.any (mCov (mBox towns[row.length] sizes[row.length] pl)) then false
      else !(row.zipIdx.any fun x => mOver (mBox towns[row.length] sizes[row.length] pl) (mBox (towns.getD x.2 (0, 0)) (sizes.getD x.2 (0, 0)) x.1)) := by
    unfold mFits; rw [getD_at hn, getD_at hn']
  rw [e] at q
  generalize mBox towns[row.length] sizes[row.length] pl = bx at q
  walk_at "go"
  refine lc_m towns E (fun t => .bl (mCov bx t)) ?_ ?_
  · intro t ht
    walk_at "w"
    exact ⟨rfl, bx, t, rfl, rfl, rfl⟩
  walk_at "w"
  refine orF_i (blsD_m _ _) ?_
  walk_at "w"
  rw [any_id]
  generalize towns.any (mCov bx) = b0 at q ⊢
  cases b0 with
  | true => walk_at "go"; exact q
  | false =>
    walk_at "w"
    refine orF_i hr.lst ?_
    rw [enumD_map]
    walk_at "w"
    refine lc_mw row.zipIdx _ (fun x => .bl (mOver bx (mBox (towns.getD x.2 (0, 0)) (sizes.getD x.2 (0, 0)) x.1))) (hr.watch _) ?_ ?_
    · rintro ⟨old, far⟩ hx
      have hfar : far < row.length := (List.getElem?_eq_some_iff.mp (List.mem_zipIdx_iff_getElem?.mp hx)).1
      have h1 : far < towns.length := by omega
      have h2 : far < sizes.length := by omega
      rw [getD_at h1, getD_at h2]
      walk_at "go"
      refine orF_i (atI_nm (List.getElem?_eq_getElem h1)) ?_
      walk_at "go"
      refine orF_i (atI_nm (List.getElem?_eq_getElem h2)) ?_
      walk_at "w"
      refine ⟨rfl, _, _, _, rfl, ?_⟩
      walk_at "w"
      exact ⟨rfl, _, _, rfl, rfl, rfl⟩
    · walk_at "w"
      refine orF_i (blsD_m _ _) ?_
      walk_at "w"
      rw [any_id]
      exact q
theorem last_app {α : Type} {xs : List α} {x : α} : (xs ++ [x])[(xs ++ [x]).length - 1]? = some x := by simp
theorem w_lay {ds : List D} {C : CMap} {Q : DQ} (h : S__law_lay ds C Q) : dBody N__law_lay d__law_lay_0 ds C (wkQ Q) := by
  obtain ⟨cl, al, r, rfl, hb, ha, ha4, hc, hd, q⟩ := h
  walk_at "go"
  intro p hp
  walk_at "go"
  refine for_r (β := Addr × List (List Int) × CMap) (fun i b => dfs cl.length al (fun row p => mLies cl row p.toNat) (6000 - i) b.2.1 = some r ∧ b.2.1.length ≤ 1 + 4 * i ∧ (∀ row ∈ b.2.1, row.length ≤ cl.length) ∧ C b.1 = none ∧ b.2.2 b.1 = some (.lst (EL b.2.1.reverse)) ∧ Sub C b.2.2)
    (fun b => [some (E cl), some (E (Tp.mk al)), some (.cell b.1), none, none, none]) (fun b => b.2.2)
    (p, [[]], cset C p (.lst [.lst []])) ⟨hd, by simp, by simp, hp, cset_same, (Sub.refl C).new hp⟩ (by walk_at "le") rfl ?_ ?_
  · rintro i ⟨p, st, C'⟩ hi ⟨h1, h2, h3, hp, h4, h5⟩
    have hi : i < 6000 := hi
    obtain ⟨f, hf⟩ : ∃ f, 6000 - i = f + 1 := ⟨6000 - i - 1, by omega⟩
    dsimp only at h1 h2 h3 h4 h5 hp
    rw [hf] at h1
    walk_at "go"
    cases st with
    | nil =>
      refine bcase_t ?_ ?_
      · show deq (rd _ (.cell p)) (rd _ (.lst [])) = true
        rw [rd_cell h4]; exact (deq_0l _).trans rfl
      · walk_at "w"
        cases h1
        exact ⟨C, h5, q⟩
    | cons row st =>
      refine bcase_f ?_ ?_
      · show deq (rd _ (.cell p)) (rd _ (.lst [])) = false
        rw [rd_cell h4]; refine (deq_0l _).trans ?_
        simp [EL]
      · rw [show EL (row :: st).reverse = EL st.reverse ++ [E row] by rw [EL, List.reverse_cons, List.map_append]; rfl] at h4
        walk_at "go"
        refine orF_i last_app ?_
        walk_at "w"
        rw [List.dropLast_concat]
        rw [dfs] at h1
        have hlen : row.length ≤ cl.length := h3 row List.mem_cons_self
        by_cases hn : row.length = cl.length
        · rw [if_pos hn] at h1
          refine bcase_t ?_ ?_
          · show decide (((List.length (row.map E) : Nat) : Int) = ((List.length (cl.map E) : Nat) : Int)) = true
            rw [List.length_map, List.length_map, hn]; simp
          · walk_at "w"
            cases h1
            exact ⟨C, h5.new hp, q⟩
        · rw [if_neg hn] at h1
          have hlt : row.length < cl.length := by omega
          have hw4 : (cl.getD row.length []).length = 4 := by rw [getD_at hlt]; exact hb _ (List.getElem_mem hlt)
          refine bcase_f ?_ ?_
          · show decide (((List.length (row.map E) : Nat) : Int) = ((List.length (cl.map E) : Nat) : Int)) = false
            rw [List.length_map, List.length_map, decide_eq_false_iff_not]; omega
          · walk_at "go"
            rw [show (EL al).reverse = al.reverse.map E by rw [EL, List.map_reverse]]
            refine lc_f al.reverse E (fun p => mLies cl row p.toNat) (fun p => E (row ++ [p])) ?_ ?_
            · intro pl hpl
              have hpl := ha pl (List.mem_reverse.mp hpl)
              walk_at "w"
              refine ⟨rfl, cl, row, pl.toNat, by rw [Int.toNat_of_nonneg hpl.1]; rfl, hlt, by omega, by rw [hw4]; omega, ?_⟩
              walk_at "w"
              refine bcase_i (fun hh => ?_) fun hh => ?_
              · walk_at "go"
                exact ⟨by show D.lst _ = D.lst (List.map E _); rw [List.map_append]; rfl, rfl⟩
              · exact ⟨hh, rfl⟩
            · have hfl : (al.filter fun p => mLies cl row p.toNat).length ≤ 4 := Nat.le_trans (List.length_filter_le _ _) ha4
              have hst : st.length + 1 ≤ 1 + 4 * i := h2
              walk_at "go"
              refine ⟨by rw [EL, List.length_map, List.length_reverse, List.length_map, List.filter_reverse, List.length_reverse]; omega, ?_⟩
              walk_at "w"
              intro p' hp'
              have hsub := h5.new (o := .lst (EL st.reverse)) hp
              refine ⟨(p', _, _), ⟨(show dfs _ _ _ (6000 - (i + 1)) _ = _ by rw [show 6000 - (i + 1) = f by omega]; exact h1), ?_, ?_, hsub.none hp', ?_, hsub.new (hsub.none hp')⟩, by walk_at "le", rfl⟩
              · show (_ ++ st).length ≤ _
                rw [List.length_append, List.length_map]; omega
              · intro r' hr'
                rcases List.mem_append.mp hr' with hr' | hr'
                · obtain ⟨x, _, rfl⟩ := List.mem_map.mp hr'
                  rw [List.length_append]; exact hlt
                · exact h3 r' (List.mem_cons_of_mem _ hr')
              · show cset _ p' _ p' = _
                rw [cset_same, List.reverse_append, EL, EL, List.map_append, ← List.map_reverse, List.map_map, ← List.filter_reverse]; rfl
  · rintro ⟨p, st, C'⟩ ⟨h1, h2, h3, hp, h4, h5⟩
    cases h1
theorem w_first {ds : List D} {C : CMap} {Q : DQ} (h : S_first_laying ds C Q) : dBody N_first_laying d_first_laying_0 ds C (wkQ Q) := by
  obtain ⟨towns, sizes, al, r, rfl, hl, h1000, ha4, hd, q⟩ := h
  walk_at "go"
  intro p0 hp0
  walk_at "go"
  intro p hp
  obtain ⟨hpp, hp⟩ := fresh_ne hp
  walk_at "w"
  refine while_i (β := List (Addr × List Int) × CMap × Nat) (fun b => dfs towns.length al (mFits towns sizes) b.2.2 (b.1.map (·.2)) = some r ∧ b.2.2 ≤ 6000 ∧ b.1.length ≤ 1 + 4 * (6000 - b.2.2) ∧ (∀ x ∈ b.1, x.2.length ≤ towns.length)
      ∧ b.2.1 p = some (.lst ((b.1.map fun x => D.cell x.1).reverse)) ∧ Sub C b.2.1 ∧ (∀ x ∈ b.1, b.2.1 x.1 = some (.lst (EL x.2)) ∧ C x.1 = none ∧ x.1 ≠ p) ∧ (b.1.map (·.1)).Nodup) (fun b => b.2.2)
    (fun _ => [some (E towns), some (E sizes), some (E (Tp.mk al)), some (.cell p), none, none, none]) (fun b => b.2.1)
    ([(p0, [])], cset (cset C p0 (.lst [])) p (.lst [.cell p0]), 6000) ⟨hd, Nat.le_refl _, by simp, by simp, cset_same, ((Sub.refl C).new hp0).new hp, ?_, by simp⟩ (by walk_at "le") rfl ?_
  · intro x hx
    rw [List.mem_singleton.mp hx]
    exact ⟨(cset_ne (Ne.symm hpp)).trans cset_same, hp0, Ne.symm hpp⟩
  rintro ⟨st, C', f⟩ ⟨h1, h2, h3, h4, h5, h6, h7, h8⟩
  dsimp only at h1 h2 h3 h4 h5 h6 h7 h8
  walk_at "go"
  cases f with
  | zero => cases h1
  | succ f =>
  cases st with
  | nil =>
    walk_at "w"
    cases h1
    exact ⟨C, h6, q⟩
  | cons x st =>
    obtain ⟨a, row⟩ := x
    obtain ⟨ha1, ha2, ha3⟩ := h7 (a, row) List.mem_cons_self
    dsimp only at ha1 ha2 ha3
    refine bcase_t ?_ ?_
    · show decide ((0 : Int) < ((List.length _ : Nat) : Int)) = true
      rw [decide_eq_true_eq]; simp
    rw [List.map_cons, List.reverse_cons] at h5
    walk_at "go"
    refine orF_i last_app ?_
    rw [List.dropLast_concat]
    walk_at "go"
    rw [List.map_cons, dfs] at h1
    dsimp only at h1
    have hlen : row.length ≤ towns.length := h4 (a, row) List.mem_cons_self
    have hs1 : Sub C (cset C' p (.lst (st.map fun x => D.cell x.1).reverse)) := h6.new hp
    have hca : (cset C' p (.lst (st.map fun x => D.cell x.1).reverse)) a = some (.lst (EL row)) := (cset_ne ha3).trans ha1
    by_cases hn : row.length = towns.length
    · rw [if_pos hn] at h1
      refine bcase_t ?_ ?_
      · show decide (((List.length (row.map E) : Nat) : Int) = ((List.length (towns.map E) : Nat) : Int)) = true
        rw [List.length_map, List.length_map, hn]; simp
      · walk_at "w"
        cases h1
        exact ⟨_, hs1.put hca, q a ha2⟩
    · rw [if_neg hn] at h1
      have hlt : row.length < towns.length := by omega
      refine bcase_f ?_ ?_
      · show decide (((List.length (row.map E) : Nat) : Int) = ((List.length (towns.map E) : Nat) : Int)) = false
        rw [List.length_map, List.length_map, decide_eq_false_iff_not]; omega
      walk_at "w"
      refine lc_f al E (mFits towns sizes row) E ?_ ?_
      · intro pl hpl
        walk_at "w"
        refine ⟨rfl, towns, sizes, row, .cell a, pl, rfl, .inr ⟨a, rfl, hca⟩, hlt, hl, h1000, ?_⟩
        walk_at "w"
        refine bcase_i (fun hh => ?_) fun hh => ?_
        · exact ⟨hh, rfl, rfl⟩
        · exact ⟨hh, rfl⟩
      · generalize hfr : al.filter (mFits towns sizes row) = free at h1
        have hf4 : free.length ≤ 4 := by rw [← hfr]; exact Nat.le_trans (List.length_filter_le _ _) ha4
        walk_at "go"
        rw [show (free.map E).reverse = free.reverse.map E by rw [List.map_reverse]]
        refine lc_c free.reverse E (fun pl => EL (row ++ [pl])) ?_ ?_
        · intro pl C2 hpl hsub
          have hc2 := hsub a _ hca
          walk_at "go"
          intro a' ha'
          exact ⟨a', ha', rfl, by show _ = cset C2 a' (CO.lst (List.map E (row ++ [pl]))); rw [List.map_append]; rfl⟩
        · intro st2 C2 e1 e2 e3 e4 e5
          have hp2 := e4 p _ cset_same
          have hl2 : st2.length = free.length := by have := congrArg List.length e1; simpa using this
          have h3' : st.length + 1 ≤ 1 + 4 * (6000 - (f + 1)) := h3
          walk_at "go"
          refine ⟨by rw [List.length_reverse, List.length_map, List.length_map]; omega, ?_⟩
          walk_at "w"
          have hC2 : Sub C C2 := hs1.trans e4
          have hst : ∀ x ∈ st, C2 x.1 = some (.lst (EL x.2)) ∧ C x.1 = none ∧ x.1 ≠ p := fun x hx => by
            obtain ⟨g1, g2, g3⟩ := h7 x (List.mem_cons_of_mem _ hx)
            exact ⟨e4 _ _ ((cset_ne g3).trans g1), g2, g3⟩
          have hn2 : ∀ z ∈ st2, z.1 ≠ p ∧ C z.1 = none ∧ ∀ x ∈ st, z.1 ≠ x.1 := fun z hz => by
            have g := e3 z hz
            refine ⟨fun e => ?_, hs1.none g, fun x hx e => ?_⟩
            · rw [e] at g; rw [cset_same] at g; cases g
            · obtain ⟨g1, g2, g3⟩ := h7 x (List.mem_cons_of_mem _ hx)
              rw [e] at g; rw [(cset_ne g3).trans g1] at g; cases g
          refine ⟨((st2.map fun z => (z.1, row ++ [z.2])).reverse ++ st, _, f), ⟨?_, (show f ≤ 6000 by omega), ?_, ?_, cset_same.trans ?_, hC2.new hp, ?_, ?_⟩, Nat.lt_succ_self f, by walk_at "le", rfl⟩
          · show dfs _ _ _ f (List.map _ (_ ++ st)) = _
            rw [List.map_append, ← List.map_reverse, List.map_map, ← h1]
            congr 2
            have e6 : free = (st2.map (·.2)).reverse := by rw [e1, List.reverse_reverse]
            rw [e6, ← List.map_reverse, List.map_map]; rfl
          · show (_ ++ st).length ≤ 1 + 4 * (6000 - f)
            rw [List.length_append, List.length_reverse, List.length_map]; omega
          · intro x hx
            rcases List.mem_append.mp hx with hx | hx
            · obtain ⟨z, _, rfl⟩ := List.mem_map.mp (List.mem_reverse.mp hx)
              show (row ++ [z.2]).length ≤ _
              rw [List.length_append]; exact hlt
            · exact h4 x (List.mem_cons_of_mem _ hx)
          · show some (CO.lst _) = some (CO.lst (List.map _ (_ ++ st)).reverse)
            rw [List.map_append, List.reverse_append, List.map_reverse, List.reverse_reverse, List.map_map]; rfl
          · intro x hx
            rcases List.mem_append.mp hx with hx | hx
            · obtain ⟨z, hz, rfl⟩ := List.mem_map.mp (List.mem_reverse.mp hx)
              obtain ⟨g1, g2, g3⟩ := hn2 z hz
              exact ⟨(cset_ne g1).trans (e5 z hz), g2, g1⟩
            · obtain ⟨g1, g2, g3⟩ := hst x hx
              exact ⟨(cset_ne g3).trans g1, g2, g3⟩
          · show (List.map _ (_ ++ st)).Nodup
            rw [List.map_append, List.nodup_append]
            refine ⟨?_, (List.nodup_cons.mp h8).2, ?_⟩
            · rw [← List.map_reverse, List.map_map]
              show ((st2.reverse).map fun z => z.1).Nodup
              rw [List.map_reverse]
              exact List.pairwise_reverse.mpr (List.Pairwise.imp (fun h => Ne.symm h) e2)
            · intro b hb c hc
              obtain ⟨x, hx, rfl⟩ := List.mem_map.mp hb
              obtain ⟨z, hz, rfl⟩ := List.mem_map.mp (List.mem_reverse.mp hx)
              obtain ⟨y, hy, rfl⟩ := List.mem_map.mp hc
              exact (hn2 z hz).2.2 y hy
theorem w_greatest {ds : List D} {C : CMap} {Q : DQ} (h : S_greatest_size ds C Q) : dBody N_greatest_size d_greatest_size_0 ds C Q := by
  obtain ⟨towns, sizes, most, r, rfl, hl, h1000, hm0, hm, hr, q⟩ := h
  walk_at "go"
  refine for_r (fun i (g : Nat) => g = i ∧ ∀ k : Nat, 1 ≤ k → k ≤ i → (r k).isSome = true) (fun g => [some (E towns), some (E sizes), some (.int most), some (.int (g : Nat)), none, none, none, none]) (fun _ => C) 0 ⟨rfl, fun k h1 h2 => by omega⟩ (by walk_at "le") rfl ?_ ?_
  · rintro i g hi ⟨rfl, hk⟩
    have hi : g < most.toNat := by have : (most + 1 - 1).toNat = most.toNat := by omega
                                   omega
    walk_at "go"
    refine lc_m sizes E (fun s => E (s.1 * ((g + 1 : Nat) : Int), s.2 * ((g + 1 : Nat) : Int))) ?_ ?_
    · intro s hs
      rw [show (1 : Int) + (g : Int) = ((g + 1 : Nat) : Int) by omega]
      walk_at "go"
    · walk_at "w"
      refine ⟨by decide, ?_⟩
      walk_at "w"
      refine ⟨rfl, towns, grown sizes (g + 1), [0, 1, 2, 3], r (g + 1), ?_, by rw [grown, List.length_map, hl], h1000, by decide, hr (g + 1) (by omega) (by omega), ?_⟩
      · rw [grown, E_map]; rfl
      · cases hg : r (g + 1) with
        | none =>
          walk_at "go"
          exact q g (by omega) hk fun _ => hg
        | some row =>
          intro p hp
          walk_at "go"
          refine ⟨g + 1, ⟨rfl, fun k h1 h2 => ?_⟩, ?_, rfl⟩
          · by_cases e : k = g + 1
            · rw [e, hg]; rfl
            · exact hk k h1 (by omega)
          · rw [show ((g + 1 : Nat) : Int) = 1 + (g : Int) by omega]
            walk_at "le"
  · rintro g ⟨rfl, hk⟩
    walk_at "go"
    have e : (most + 1 - 1).toNat = most.toNat := by omega
    rw [e] at hk ⊢
    exact q _ (Nat.le_refl _) hk fun h => by omega
end K68

namespace K68
open PySem PySem.Spec PyProof.Rows L2 DL LB
-- MACROS BEGIN
local macro_rules | `(tactic| walk_at "w") => `(tactic| conv => whnf)
local macro_rules | `(tactic| walk_at "lk") => `(tactic| first | exact cset_same | assumption | (refine (cset_ne (by first | assumption | (apply Ne.symm; assumption))).trans ?_; walk_at "lk"))
local macro_rules | `(tactic| walk_at "nn") => `(tactic| first | assumption | (refine (cset_ne (by first | assumption | (apply Ne.symm; assumption))).trans ?_; walk_at "nn"))
local macro_rules | `(tactic| walk_at "side") => `(tactic| first | rfl | decide | omega | (dsimp only; first | done | decide | omega) | exact Or.inr (by decide) | exact Or.inl (by decide) | exact Or.inr ⟨by omega, by omega⟩ | exact Or.inl ⟨by omega, by omega⟩ | exact dTy_lst (asL_cell (by walk_at "lk")) | exact En.fl30 _ | exact En.all30 _ | exact fl_l _ | exact fl_all _ | exact fl_g _ _ | exact fl_c (by walk_at "lk") | (simp only [List.length_map, List.length_append, List.length_cons, List.length_nil]; omega) | (walk_at "my"))
local macro_rules | `(tactic| walk_at "go1") => `(tactic| first | refine And.intro (by walk_at "side") ?_ | refine orF_i (asL_cell (by walk_at "lk")) ?_ | refine orF_i (asQ_cell (by walk_at "lk")) ?_ | refine orF_i (asR_cell (by walk_at "lk")) ?_ | refine orF_i (lenD_cell (by walk_at "lk")) ?_ | refine orF_i (seqOf_cell (by walk_at "lk")) ?_ | refine orF_i (tyN_cell (by walk_at "lk")) ?_ | refine frzC_n (by walk_at "nn") ?_ | refine frzC_i (by walk_at "lk") ?_)
local macro_rules | `(tactic| walk_at "go") => `(tactic| (walk_at "w"; repeat (walk_at "go1"; walk_at "w")))
local macro_rules | `(tactic| walk_at "le") => `(tactic| (repeat (first | exact trivial | refine ⟨rfl, ?_⟩)))
-- MACROS END
theorem pick_all {α : Type} [En α] {zs : List α} {P : D → Prop} (h : ∀ z ∈ zs, P (E z)) : ∀ d ∈ zs.map E, P d := fun d hd => by
  obtain ⟨z, hz, rfl⟩ := List.mem_map.mp hd
  exact h z hz
def goodT (z : Tp Int) : Bool := (z.l.all fun x => decide (0 ≤ x) && decide (x < 4)) && decide (z.l.length ≤ 4)
theorem mClash_len {rows sizes : List Pt} : (mClash rows sizes).length = rows.length := by simp [mClash]
theorem mClash_four {rows sizes : List Pt} (hl : rows.length = sizes.length) : ∀ b ∈ mClash rows sizes, b.length = 4 := fun b hb => by
  obtain ⟨k, hk, rfl⟩ := List.mem_map.mp hb
  rw [List.length_map, boxes_at hl (List.mem_range.mp hk)]; rfl
theorem t_allowed {De : DEnds} {xs : List Int} {rows sizes : List Pt} {al : List Int} {pb : Addr} {C1 : CMap} {stp : D} (hb : C1 pb = some .box) (hl : rows.length = sizes.length) (h6 : rows.length ≤ 6) (hs : ∀ s ∈ sizes, 1 ≤ s.1 ∧ 1 ≤ s.2) (hal : ∀ x ∈ al, 0 ≤ x ∧ x < 4) (ha4 : al.length ≤ 4)
    (nx : ∀ σ, Le [some (.ro (xs.map D.int)), some (.cell pb), some stp, some (E rows), some (E sizes), some (.tup [E rows, E sizes]), some (E (mClash rows sizes)), some (E (Tp.mk al)), none, none, none, none, none, none, none, none, none, none] σ → De.nx σ C1) :
    d_law_7 De [some (.ro (xs.map D.int)), some (.cell pb), some stp, some (E rows), some (E sizes), some (.tup [E rows, E sizes]), some (E (mClash rows sizes)), some (E (Tp.mk al)), none, none, none, none, none, none, none, none, none, none] C1 := by
  obtain ⟨r, hr⟩ := dfs_go rows.length al (mFits rows sizes) ha4 h6
  have hr' := (lay_eq (towns := rows) hl hs hal).symm.trans hr
  walk_at "go"
  refine ⟨mClash rows sizes, al, r, rfl, mClash_four hl, hal, ha4, by rw [mClash_len]; omega, hr', ?_⟩
  walk_at "go"
  refine ⟨rows, sizes, al, r, rfl, hl, by omega, ha4, hr, ?_⟩
  cases r with
  | none =>
    walk_at "go"
    refine ⟨_, _, rfl, rfl, trivial, ?_⟩
    walk_at "go"
    refine bcase_f (deq_ne rows) ?_
    walk_at "go"
    refine bcase_f (deq_ne sizes) ?_
    walk_at "go"
    exact nx _ (by walk_at "le")
  | some row =>
    obtain ⟨hrl, hrm⟩ := dfs_shape _ _ _ _ _ _ (by intro r hr; rw [List.mem_singleton.mp hr]; simp) hr
    have hok : okD 12 (E row) := okD_ints (fun x hx => strOk_of (by have := hal x (hrm x hx); omega)) (by omega)
    intro pt hpt
    have hnb : pb ≠ pt := ne_of_some hb hpt
    walk_at "go"
    refine ⟨_, _, rfl, rd_cell cset_same, hok, ?_⟩
    walk_at "go"
    refine bcase_f (deq_ne rows) ?_
    walk_at "go"
    refine bcase_f (deq_ne sizes) ?_
    walk_at "go"
    refine ⟨rows, sizes, al, some row, rfl, hl, by omega, ha4, hr, ?_⟩
    intro pu hpu
    rw [cset_cset] at hpu ⊢
    obtain ⟨hne, hpu⟩ := fresh_ne hpu
    walk_at "go"
    refine ⟨_, _, rfl, rfl, hok, ?_⟩
    walk_at "go"
    exact nx _ (by walk_at "le")
def fitL (r : Nat → Option (List Int)) (i : Nat) : List Int := 0 :: ((List.range i).filter fun j => (r (j + 1)).isSome).map fun j => ((j + 1 : Nat) : Int)
theorem fitL_max {r : Nat → Option (List Int)} {n g : Nat} (hm : ∀ j k, 1 ≤ j → j ≤ k → k ≤ n → (r k).isSome = true → (r j).isSome = true) (hg : g ≤ n) (h1 : ∀ k, 1 ≤ k → k ≤ g → (r k).isSome = true) (h2 : g < n → r (g + 1) = none) :
    maxL 0 (((List.range n).filter fun j => (r (j + 1)).isSome).map fun j => ((j + 1 : Nat) : Int)) = (g : Int) := by
  obtain ⟨a, b⟩ := maxL_mem (((List.range n).filter fun j => (r (j + 1)).isSome).map fun j => ((j + 1 : Nat) : Int)) 0
  have c1 : (g : Int) ≤ maxL 0 (((List.range n).filter fun j => (r (j + 1)).isSome).map fun j => ((j + 1 : Nat) : Int)) := by
    apply b
    cases g with
    | zero => exact List.mem_cons_self
    | succ g => exact List.mem_cons_of_mem _ (List.mem_map.mpr ⟨g, List.mem_filter.mpr ⟨List.mem_range.mpr (by omega), h1 _ (by omega) (Nat.le_refl _)⟩, rfl⟩)
  have c2 : maxL 0 (((List.range n).filter fun j => (r (j + 1)).isSome).map fun j => ((j + 1 : Nat) : Int)) ≤ (g : Int) := by
    rcases List.mem_cons.mp a with a | a
    · rw [a]; omega
    · obtain ⟨j, hj, e⟩ := List.mem_map.mp a
      obtain ⟨hj1, hj2⟩ := List.mem_filter.mp hj
      have hj1 := List.mem_range.mp hj1
      rw [← e]
      by_cases hjg : j + 1 ≤ g
      · exact Int.ofNat_le.mpr hjg
      · have hgn : g < n := by omega
        have := hm (g + 1) (j + 1) (by omega) (by omega) (by omega) hj2
        rw [h2 hgn] at this; cases this
  omega
theorem t_fit {De : DEnds} {xs : List Int} {rows sizes : List Pt} {pb pf : Addr} {C1 : CMap} {most : Int} {r : Nat → Option (List Int)} (hl : rows.length = sizes.length) (h6 : rows.length ≤ 6) (hs : ∀ s ∈ sizes, 1 ≤ s.1 ∧ 1 ≤ s.2) (hpf : C1 pf = none)
    (hm : 0 ≤ most ∧ most ≤ 1000) (hr : ∀ k : Nat, 1 ≤ k → k ≤ most.toNat → dfs rows.length [0, 1, 2, 3] (mFits rows (grown sizes k)) 6000 [[]] = some (r k))
    (nx : De.nx [some (.ro (xs.map D.int)), some (.cell pb), none, some (E rows), some (E sizes), some (.tup [E rows, E sizes]), none, none, none, none, some (.int most), some (.cell pf), none, none, none, none, none, none] (cset C1 pf (.lst (EL (fitL r most.toNat))))) :
    forI (rgD 1 (most + 1 - 1).toNat) none (gN 12) d_law_21 De [some (.ro (xs.map D.int)), some (.cell pb), none, some (E rows), some (E sizes), some (.tup [E rows, E sizes]), none, none, none, none, some (.int most), some (.cell pf), none, none, none, none, none, none] (cset C1 pf (.lst [.int 0])) := by
  have en : (most + 1 - 1).toNat = most.toNat := by omega
  rw [en]
  refine for_r (fun i (l : List Int) => l = fitL r i ∧ l.length ≤ i + 1) (fun _ => [some (.ro (xs.map D.int)), some (.cell pb), none, some (E rows), some (E sizes), some (.tup [E rows, E sizes]), none, none, none, none, some (.int most), some (.cell pf), none, none, none, none, none, none]) (fun l => cset C1 pf (.lst (EL l)))
    [0] ⟨rfl, by simp⟩ (by walk_at "le") rfl ?_ ?_
  · rintro i l hi ⟨hlf, hll⟩
    have hgl : rows.length = (grown sizes (i + 1)).length := by rw [grown, List.length_map]; exact hl
    have hgs : ∀ s ∈ grown sizes (i + 1), 1 ≤ s.1 ∧ 1 ≤ s.2 := fun s h => by
      obtain ⟨z, hz, rfl⟩ := List.mem_map.mp h
      obtain ⟨h1, h2⟩ := hs z hz
      have h3 : (1 : Int) ≤ ((i + 1 : Nat) : Int) := by omega
      constructor
      · exact Int.le_trans (by omega) (Int.mul_le_mul h1 h3 (by omega) (by omega))
      · exact Int.le_trans (by omega) (Int.mul_le_mul h2 h3 (by omega) (by omega))
    have hdr := hr (i + 1) (by omega) (by omega)
    have hdl := (lay_eq (al := [0, 1, 2, 3]) hgl hgs (by decide)).symm.trans hdr
    walk_at "go"
    refine lc_m sizes E (fun s => E (s.1 * ((i + 1 : Nat) : Int), s.2 * ((i + 1 : Nat) : Int))) ?_ ?_
    · intro s hs
      rw [show (1 : Int) + (i : Int) = ((i + 1 : Nat) : Int) by omega]
      walk_at "go"
    · walk_at "go"
      refine ⟨rows, grown sizes (i + 1), by rw [grown, E_map], hgl, by omega, fun pc hpc => ?_⟩
      walk_at "go"
      refine ⟨mClash rows (grown sizes (i + 1)), [0, 1, 2, 3], r (i + 1), rfl, mClash_four hgl, by decide, by decide, by rw [mClash_len]; omega, hdl, ?_⟩
      have hlf' : fitL r (i + 1) = l ++ if (r (i + 1)).isSome then [((i + 1 : Nat) : Int)] else [] := by
        rw [hlf, fitL, fitL, List.range_succ, List.filter_append, List.map_append]
        cases hx : (r (i + 1)).isSome <;> simp [List.filter_cons, hx]
      cases hri : r (i + 1) with
      | none =>
        rw [hri] at hlf'
        walk_at "go"
        exact ⟨l, ⟨by rw [hlf']; simp, by omega⟩, by walk_at "le", rfl⟩
      | some row =>
        rw [hri] at hlf'
        walk_at "go"
        refine ⟨l ++ [((i + 1 : Nat) : Int)], ⟨by rw [hlf']; rfl, by rw [List.length_append]; exact Nat.succ_le_succ hll⟩, by walk_at "le", ?_⟩
        rw [cset_cset, EL, EL, List.map_append, show (1 : Int) + (i : Int) = ((i + 1 : Nat) : Int) by omega]; rfl
  · rintro l ⟨hlf, hll⟩
    rw [hlf]
    exact nx
def four4 : List Pt := [(0, 0), (1, 0), (0, 1), (1, 1)]
def ones : List Pt := [(1, 1), (1, 1), (1, 1), (1, 1)]
def two2 : List Pt := [(0, 0), (1, 0)]
def szs : List Pt := [(2, 1), (2, 1)]
theorem e1 : dfs four4.length [0, 1, 2, 3] (mFits four4 ones) 6000 [[]] = some (some [0, 0, 0, 0]) := by decide +kernel
theorem e2 : ∀ k ∈ List.range 8, k = 0 ∨ (match dfs four4.length [0, 1, 2, 3] (mFits four4 (grown ones k)) 6000 [[]] with | some (some _) => true | _ => false) = true := by decide +kernel
theorem e3 : dfs two2.length [0] (mFits two2 szs) 6000 [[]] = some none := by decide +kernel
theorem e4 : dfs two2.length [0, 1] (mFits two2 szs) 6000 [[]] = some (some [1, 0]) := by decide +kernel
theorem e5 : dfs two2.length [0, 1, 3] (mFits two2 szs) 6000 [[]] = some (some [0, 3]) := by decide +kernel
theorem t_end {De : DEnds} {C1 : CMap} {a0 a1 a2 a3 a4 a5 a6 a7 a8 a9 a10 a11 a12 a13 a14 a15 a16 a17 : Option D} (nx : De.rt (.bl true) C1) :
    d_law_27 De [a0, a1, a2, a3, a4, a5, a6, a7, a8, a9, a10, a11, a12, a13, a14, a15, a16, a17] C1 := by
  have ok0 : ∀ xs : List Int, (xs.all fun x => decide (0 ≤ x) && decide (x < 10)) = true → xs.length ≤ 10 → okD 12 (E xs) := fun xs h hl => okD_ints (fun x hx => strOk_of (by
    have := List.all_eq_true.mp h x hx
    rw [Bool.and_eq_true, decide_eq_true_eq, decide_eq_true_eq] at this
    omega)) (by omega)
  have hr2 : ∀ k : Nat, 1 ≤ k → k ≤ 7 → ∃ row, dfs four4.length [0, 1, 2, 3] (mFits four4 (grown ones k)) 6000 [[]] = some (some row) := fun k h1 h2 => by
    rcases e2 k (List.mem_range.mpr (by omega)) with h | h
    · omega
    · generalize dfs four4.length [0, 1, 2, 3] (mFits four4 (grown ones k)) 6000 [[]] = z at h
      match z, h with
      | some (some row), _ => exact ⟨row, rfl⟩
  walk_at "go"
  refine ⟨four4, ones, [0, 1, 2, 3], some [0, 0, 0, 0], rfl, rfl, by decide, by decide, e1, fun p hp => ?_⟩
  walk_at "go"
  refine ⟨_, _, rfl, rfl, ok0 [0, 0, 0, 0] rfl (by decide), ?_⟩
  walk_at "go"
  refine ⟨four4, ones, 7, fun k => (dfs four4.length [0, 1, 2, 3] (mFits four4 (grown ones k)) 6000 [[]]).getD none, rfl, rfl, by decide, by decide, by decide, fun k h1 h2 => ?_, fun g h1 h2 h3 => ?_⟩
  · obtain ⟨row, hrow⟩ := hr2 k h1 h2
    dsimp only
    rw [hrow]; rfl
  have hg : g = 7 := by
    have h1 : g ≤ 7 := h1
    by_cases h : g < 7
    · obtain ⟨row, hrow⟩ := hr2 (g + 1) (by omega) (by omega)
      have := h3 h
      dsimp only at this
      rw [hrow] at this; cases this
    · omega
  subst hg
  walk_at "go"
  refine ⟨_, _, rfl, rfl, (strOk_of (by omega) : strOk 7), ?_⟩
  walk_at "go"
  refine ⟨two2, szs, [0], none, rfl, rfl, by decide, by decide, e3, ?_⟩
  walk_at "go"
  refine ⟨two2, szs, [0, 1], some [1, 0], rfl, rfl, by decide, by decide, e4, fun p hp => ?_⟩
  walk_at "go"
  refine ⟨_, _, rfl, rfl, ok0 [1, 0] rfl (by decide), ?_⟩
  walk_at "go"
  refine ⟨two2, szs, [0, 1, 3], some [0, 3], rfl, rfl, by decide, by decide, e5, fun p hp => ?_⟩
  walk_at "go"
  exact ⟨_, _, rfl, rfl, ok0 [0, 3] rfl (by decide), nx⟩
theorem w_law {ds : List D} {C : CMap} {Q : DQ} (h : S_law ds C Q) : dBody N_law d_law_0 ds C Q := by
  obtain ⟨xs, rfl, q⟩ := h
  walk_at "w"
  refine ⟨rfl, xs, 0, 12, rfl, by decide, by decide, fun ys hy hl pd hpd => ?_⟩
  walk_at "go"
  intro pb hpb
  walk_at "w"
  refine ⟨pb, ys, 0, rfl, cset_same, by decide, fun y h => (hy y h).1, ?_⟩
  show d_law_2 _ _ (cset (cset C pb _) pb .box)
  rw [cset_cset]
  have hb : (cset C pb .box) pb = some .box := cset_same
  generalize cset C pb .box = C1 at hb
  walk_at "go"
  refine for_rc (fun _ => True) _ (Le.refl _) trivial ?_ ?_
  · intro step hstep _
    walk_at "go"
    refine pick_i (α := Int) (Q := fun d C => _) hb [4, 6, 5, 3, 2, 1] (h := ?_)
    intro most hmost
    have hmost : 1 ≤ most ∧ most ≤ 6 := (by decide : ∀ z ∈ ([4, 6, 5, 3, 2, 1] : List Int), 1 ≤ z ∧ z ≤ 6) most hmost
    walk_at "go"
    refine pick_i (α := Int) (Q := fun d C => _) hb [4, 3, 6, 30] (h := ?_)
    intro wide hwide
    have hwide : 0 < wide := (by decide : ∀ z ∈ ([4, 3, 6, 30] : List Int), 0 < z) wide hwide
    walk_at "go"
    refine ⟨pb, most, wide, rfl, hb, by omega, by omega, hwide, fun rows sizes g1 g2 g3 g4 g5 g6 => ?_⟩
    have hl : rows.length = sizes.length := g5.symm
    have h6 : rows.length ≤ 6 := by omega
    have hs : ∀ s ∈ sizes, 1 ≤ s.1 ∧ 1 ≤ s.2 := fun s h => by have := g6 s h; omega
    walk_at "go"
    refine ⟨rows, sizes, rfl, hl, by omega, fun pc hpc => ?_⟩
    walk_at "go"
    refine pick_i (α := Tp Int) (Q := fun d C => _) hb [Tp.mk [0, 1], ⟨[1, 3]⟩, ⟨[0, 2, 3]⟩, ⟨[1, 2, 3]⟩, ⟨[2, 3]⟩] (h := ?_)
    intro al1 hal1
    have hal1 : goodT al1 = true := (by decide : ∀ z ∈ ([⟨[0, 1]⟩, ⟨[1, 3]⟩, ⟨[0, 2, 3]⟩, ⟨[1, 2, 3]⟩, ⟨[2, 3]⟩] : List (Tp Int)), goodT z = true) al1 hal1
    walk_at "go"
    refine pick_i (α := Tp Int) (Q := fun d C => _) hb [Tp.mk [2], ⟨[0]⟩, ⟨[]⟩] (h := ?_)
    intro al2 hal2
    have hal2 : goodT al2 = true := (by decide : ∀ z ∈ ([⟨[2]⟩, ⟨[0]⟩, ⟨[]⟩] : List (Tp Int)), goodT z = true) al2 hal2
    walk_at "go"
    refine for_pc (α := Tp Int) [Tp.mk [0, 1, 2, 3], al1, al2] E (fun _ => True) _ (Le.refl _) trivial ?_ ?_
    · intro pre al post hxs _
      have hal : goodT al = true := by
        have : al ∈ [Tp.mk [0, 1, 2, 3], al1, al2] := by rw [hxs]; simp
        simp only [List.mem_cons, List.not_mem_nil, or_false] at this
        rcases this with rfl | rfl | rfl
        · decide
        · exact hal1
        · exact hal2
      obtain ⟨al⟩ := al
      rw [goodT, Bool.and_eq_true, List.all_eq_true, decide_eq_true_eq] at hal
      obtain ⟨hal, ha4⟩ := hal
      have hal : ∀ x ∈ al, 0 ≤ x ∧ x < 4 := fun x hx => by have := hal x hx; rwa [Bool.and_eq_true, decide_eq_true_eq, decide_eq_true_eq] at this
      obtain ⟨r, hr⟩ := dfs_go rows.length al (mFits rows sizes) ha4 h6
      have hr' := (lay_eq (towns := rows) hl hs hal).symm.trans hr
      refine t_allowed hb hl h6 hs hal ha4 fun σ h => ⟨trivial, Le.trans ?_ h, rfl⟩
      walk_at "le"
    · intro _
      walk_at "go"
      exact ⟨by walk_at "le", rfl⟩
  · intro _
    walk_at "go"
    refine pick_i (α := Int) (Q := fun d C => _) hb [3, 4, 2, 1, 5] (h := ?_)
    intro most hmost
    have hmost : 1 ≤ most ∧ most ≤ 6 := (by decide : ∀ z ∈ ([3, 4, 2, 1, 5] : List Int), 1 ≤ z ∧ z ≤ 6) most hmost
    walk_at "go"
    refine pick_i (α := Int) (Q := fun d C => _) hb [6, 4, 12] (h := ?_)
    intro wide hwide
    have hwide : 0 < wide := (by decide : ∀ z ∈ ([6, 4, 12] : List Int), 0 < z) wide hwide
    walk_at "go"
    refine ⟨pb, most, wide, rfl, hb, by omega, by omega, hwide, fun rows sizes g1 g2 g3 g4 g5 g6 => ?_⟩
    have hl : rows.length = sizes.length := g5.symm
    have h6 : rows.length ≤ 6 := by omega
    have hs : ∀ s ∈ sizes, 1 ≤ s.1 ∧ 1 ≤ s.2 := fun s h => by have := g6 s h; omega
    walk_at "go"
    refine pick_i (α := Int) (Q := fun d C => _) hb [3, 5, 4, 1, 0] (h := ?_)
    intro top htop
    have htop : 0 ≤ top ∧ top ≤ 5 := (by decide : ∀ z ∈ ([3, 5, 4, 1, 0] : List Int), 0 ≤ z ∧ z ≤ 5) top htop
    walk_at "go"
    intro pf hpf
    have hbf : pb ≠ pf := ne_of_some hb hpf
    walk_at "go"
    obtain ⟨r, hr⟩ : ∃ r : Nat → Option (List Int), ∀ k, dfs rows.length [0, 1, 2, 3] (mFits rows (grown sizes k)) 6000 [[]] = some (r k) :=
      ⟨fun k => (dfs_go rows.length [0, 1, 2, 3] (mFits rows (grown sizes k)) (by decide) h6).choose, fun k => (dfs_go rows.length [0, 1, 2, 3] (mFits rows (grown sizes k)) (by decide) h6).choose_spec⟩
    have hmono : ∀ j k, 1 ≤ j → j ≤ k → k ≤ top.toNat → (r k).isSome = true → (r j).isSome = true := fun j k _ h _ => some_mono hs h (hr k) (hr j)
    refine t_fit hl h6 hs hpf ⟨by omega, by omega⟩ (fun k _ _ => hr k) ?_
    walk_at "go"
    refine ⟨rows, sizes, top, r, rfl, hl, by omega, by omega, by omega, fun k _ _ => hr k, fun g h1 h2 h3 => ?_⟩
    walk_at "go"
    refine orF_i (show intsD (EL (fitL r top.toNat)) = some (fitL r top.toNat) from intsD_map _) ?_
    walk_at "go"
    refine ⟨_, _, rfl, congrArg D.int (fitL_max hmono h1 h2 h3).symm, ?_, ?_⟩
    · show strOk (maxL 0 _)
      rw [fitL_max hmono h1 h2 h3]
      exact strOk_of (by omega)
    walk_at "go"
    refine bcase_f (deq_ne rows) ?_
    walk_at "go"
    refine bcase_f (deq_ne sizes) ?_
    exact t_end (q _)
end K68

namespace K68
open PySem PySem.Spec PyProof.Rows L2 DL
def topS (i : Nat) : Stmt := PySem.Challenge.pw_maplands_k68_whole_first_ways_to_lay_nam.main.body.getD i (.Pass ⟨0, 0, 0, 0⟩)
abbrev s_box_for : Stmt := topS 1
abbrev s_overlap : Stmt := topS 2
abbrev s_covers : Stmt := topS 3
abbrev s__law_cell : Stmt := topS 8
abbrev s__law_draw : Stmt := topS 10
abbrev s__law_boxes : Stmt := topS 14
abbrev s__law_lap : Stmt := topS 15
abbrev s__law_hides : Stmt := topS 16
abbrev s__law_lies : Stmt := topS 18
abbrev s_fits : Stmt := topS 5
abbrev s__law_digits : Stmt := topS 9
abbrev s__law_pick : Stmt := topS 11
abbrev s__law_spots : Stmt := topS 13
abbrev s__law_clashes : Stmt := topS 17
abbrev s__law_lay : Stmt := topS 19
abbrev s_first_laying : Stmt := topS 4
abbrev s__law_labels : Stmt := topS 20
abbrev s_greatest_size : Stmt := topS 6
abbrev s__law_same : Stmt := topS 12
abbrev s_law : Stmt := topS 21
section
variable {P : Program} {w : World} {K : PySem.W.Frag} {mg : Str → Option Value} {base : Heap}
theorem sc_box_for : FnScope N_box_for ["town", "size", "place"] (defScope s_box_for) := ⟨rfl, rfl, rfl, by decide +kernel, rfl, by decide +kernel, by decide +kernel⟩
theorem ok_box_for  {f : Addr} {fd : FuncData} (F : Fun K "box_for" "box_for" s_box_for f fd) : FnD P w K mg base (1) f fd ["town", "size", "place"] (dBody N_box_for LB.d_box_for_0) := by
  refine fn_d (k := 0) F sc_box_for fun cdv A outer s H E hr => ?_
  have hu := hr.units
  have nd := sc_box_for.nd
  exact (ss_cons (s_asg (e_v 0) (g_t 2 rfl (gs_cons (g_n 3 nd) (gs_cons (g_n 4 nd) gs_nil))))
    (ss_cons (s_asg (e_v 1) (g_t 2 rfl (gs_cons (g_n 5 nd) (gs_cons (g_n 6 nd) gs_nil))))
    (ss_cons (s_set 7 nd (e_if (t_cmp (c_in hu) (e_v 2) (e_tup (a_cons e_int (a_cons e_int a_nil)))) (e_v 3) (e_sub (e_v 3) (e_v 5))))
    (ss_cons (s_set 8 nd (e_if (t_cmp (c_in hu) (e_v 2) (e_tup (a_cons e_int (a_cons e_int a_nil)))) (e_v 4) (e_sub (e_v 4) (e_v 6))))
    (ss_one (s_ret (e_tup (a_cons (e_v 7) (a_cons (e_v 8) (a_cons (e_add false (e_v 7) (e_v 5)) (a_cons (e_add false (e_v 8) (e_v 6)) a_nil)))))))))))
theorem sc_overlap : FnScope N_overlap ["one", "other"] (defScope s_overlap) := ⟨rfl, rfl, rfl, by decide +kernel, rfl, by decide +kernel, by decide +kernel⟩
theorem ok_overlap  {f : Addr} {fd : FuncData} (F : Fun K "overlap" "overlap" s_overlap f fd) : FnD P w K mg base (1) f fd ["one", "other"] (dBody N_overlap LB.d_overlap_0) := by
  refine fn_d (k := 0) F sc_overlap fun cdv A outer s H E hr => ?_
  have hu := hr.units
  have nd := sc_overlap.nd
  exact (ss_one (s_ret (e_and (e_cmp c_lt (e_ix (e_v 0) e_int) (e_ix (e_v 1) e_int)) (e_and (e_cmp c_lt (e_ix (e_v 1) e_int) (e_ix (e_v 0) e_int)) (e_and (e_cmp c_lt (e_ix (e_v 0) e_int) (e_ix (e_v 1) e_int)) (e_one (e_cmp c_lt (e_ix (e_v 1) e_int) (e_ix (e_v 0) e_int))))))))
theorem sc_covers : FnScope N_covers ["box", "town"] (defScope s_covers) := ⟨rfl, rfl, rfl, by decide +kernel, rfl, by decide +kernel, by decide +kernel⟩
theorem ok_covers  {f : Addr} {fd : FuncData} (F : Fun K "covers" "covers" s_covers f fd) : FnD P w K mg base (1) f fd ["box", "town"] (dBody N_covers LB.d_covers_0) := by
  refine fn_d (k := 0) F sc_covers fun cdv A outer s H E hr => ?_
  have hu := hr.units
  have nd := sc_covers.nd
  exact (ss_one (s_ret (e_and (e_chain c_lt c_lt (e_ix (e_v 0) e_int) (e_ix (e_v 1) e_int) (e_ix (e_v 0) e_int)) (e_one (e_chain c_lt c_lt (e_ix (e_v 0) e_int) (e_ix (e_v 1) e_int) (e_ix (e_v 0) e_int))))))
theorem sc__law_cell : FnScope N__law_cell ["script", "k"] (defScope s__law_cell) := ⟨rfl, rfl, rfl, by decide +kernel, rfl, by decide +kernel, by decide +kernel⟩
theorem ok__law_cell (z_len : mg "len" = none) {f : Addr} {fd : FuncData} (F : Fun K "_law_cell" "_law_cell" s__law_cell f fd) : FnD P w K mg base (1) f fd ["script", "k"] (dBody N__law_cell DL.d__law_cell_0) := by
  refine fn_d (k := 0) F sc__law_cell fun cdv A outer s H E hr => ?_
  have hu := hr.units
  have nd := sc__law_cell.nd
  exact (ss_cons (s_if (t_cmp c_lt (e_v 1) (e_bf b_len z_len (a_cons (e_v 0) a_nil))) (ss_one (s_ret (e_ix (e_v 0) (e_v 1)))) ss_nil)
    (ss_one (s_ret e_int)))
theorem sc__law_draw : FnScope N__law_draw ["box", "many"] (defScope s__law_draw) := ⟨rfl, rfl, rfl, by decide +kernel, rfl, by decide +kernel, by decide +kernel⟩
theorem ok__law_draw (z_len : mg "len" = none) (z_int : mg "int" = none) {f : Addr} {fd : FuncData} (F : Fun K "_law_draw" "_law_draw" s__law_draw f fd) : FnD P w K mg base (1) f fd ["box", "many"] (dBody N__law_draw DL.d__law_draw_0) := by
  refine fn_d (k := 0) F sc__law_draw fun cdv A outer s H E hr => ?_
  have hu := hr.units
  have nd := sc__law_draw.nd
  exact (ss_cons (s_asg (e_add false (e_ix (e_v 0) e_int) e_int) (g_s s_lst (e_v 0) e_int))
    (ss_cons (s_if (t_cmp c_gt (e_ix (e_v 0) e_int) (e_bf b_len z_len (a_cons (e_ix (e_v 0) e_int) a_nil))) (ss_one (s_ret (e_md (e_bt b_int z_int (a_cons (e_add false (e_mul false (e_ix (e_v 0) e_int) e_int) e_int) a_nil)) (e_v 1)))) ss_nil)
    (ss_one (s_ret (e_md (e_bt b_int z_int (a_cons (e_ix (e_ix (e_v 0) e_int) (e_sub (e_ix (e_v 0) e_int) e_int)) a_nil)) (e_v 1))))))
theorem sc__law_boxes : FnScope N__law_boxes ["rows", "sizes"] (defScope s__law_boxes) := ⟨rfl, rfl, rfl, by decide +kernel, rfl, by decide +kernel, by decide +kernel⟩
theorem ok__law_boxes (z_range : mg "range" = none) (z_len : mg "len" = none) {f : Addr} {fd : FuncData} (F : Fun K "_law_boxes" "_law_boxes" s__law_boxes f fd) : FnD P w K mg base (1) f fd ["rows", "sizes"] (dBody N__law_boxes LB.d__law_boxes_0) := by
  refine fn_d (k := 0) F sc__law_boxes fun cdv A outer s H E hr => ?_
  have hu := hr.units
  have nd := sc__law_boxes.nd
  exact (ss_cons (s_set 2 nd (e_lst true a_nil))
    (ss_cons (s_for (i_rg1 z_range (a_cons (e_bf b_len z_len (a_cons (e_v 0) a_nil)) a_nil)) (g_n 3 nd) (ss_cons (s_asg (e_ix (e_v 0) (e_v 3)) (g_t 2 rfl (gs_cons (g_n 4 nd) (gs_cons (g_n 5 nd) gs_nil))))
    (ss_cons (s_asg (e_ix (e_v 1) (e_v 3)) (g_t 2 rfl (gs_cons (g_n 6 nd) (gs_cons (g_n 7 nd) gs_nil))))
    (ss_one (s_do (e_m m_app (e_v 2) (a_cons (e_lst false (a_cons (e_tup (a_cons (e_v 4) (a_cons (e_v 5) (a_cons (e_add false (e_v 4) (e_v 6)) (a_cons (e_add false (e_v 5) (e_v 7)) a_nil))))) (a_cons (e_tup (a_cons (e_sub (e_v 4) (e_v 6)) (a_cons (e_v 5) (a_cons (e_v 4) (a_cons (e_add false (e_v 5) (e_v 7)) a_nil))))) (a_cons (e_tup (a_cons (e_sub (e_v 4) (e_v 6)) (a_cons (e_sub (e_v 5) (e_v 7)) (a_cons (e_v 4) (a_cons (e_v 5) a_nil))))) (a_cons (e_tup (a_cons (e_v 4) (a_cons (e_sub (e_v 5) (e_v 7)) (a_cons (e_add false (e_v 4) (e_v 6)) (a_cons (e_v 5) a_nil))))) a_nil))))) a_nil)))))))
    (ss_one (s_ret (e_v 2)))))
theorem sc__law_lap : FnScope N__law_lap ["one", "other"] (defScope s__law_lap) := ⟨rfl, rfl, rfl, by decide +kernel, rfl, by decide +kernel, by decide +kernel⟩
theorem ok__law_lap (z_min : mg "min" = none) (z_max : mg "max" = none) {f : Addr} {fd : FuncData} (F : Fun K "_law_lap" "_law_lap" s__law_lap f fd) : FnD P w K mg base (1) f fd ["one", "other"] (dBody N__law_lap LB.d__law_lap_0) := by
  refine fn_d (k := 0) F sc__law_lap fun cdv A outer s H E hr => ?_
  have hu := hr.units
  have nd := sc__law_lap.nd
  exact (ss_cons (s_set 2 nd (e_sub (e_bf b_min z_min (a_cons (e_ix (e_v 0) e_int) (a_cons (e_ix (e_v 1) e_int) a_nil))) (e_bf b_max z_max (a_cons (e_ix (e_v 0) e_int) (a_cons (e_ix (e_v 1) e_int) a_nil)))))
    (ss_one (s_ret (e_and (e_cmp c_gt (e_v 2) e_int) (e_one (e_cmp c_gt (e_sub (e_bf b_min z_min (a_cons (e_ix (e_v 0) e_int) (a_cons (e_ix (e_v 1) e_int) a_nil))) (e_bf b_max z_max (a_cons (e_ix (e_v 0) e_int) (a_cons (e_ix (e_v 1) e_int) a_nil)))) e_int))))))
theorem sc__law_hides : FnScope N__law_hides ["label", "rows"] (defScope s__law_hides) := ⟨rfl, rfl, rfl, by decide +kernel, rfl, by decide +kernel, by decide +kernel⟩
theorem ok__law_hides  {f : Addr} {fd : FuncData} (F : Fun K "_law_hides" "_law_hides" s__law_hides f fd) : FnD P w K mg base (1) f fd ["label", "rows"] (dBody N__law_hides LB.d__law_hides_0) := by
  refine fn_d (k := 0) F sc__law_hides fun cdv A outer s H E hr => ?_
  have hu := hr.units
  have nd := sc__law_hides.nd
  exact (ss_one (s_ret (e_cmp (c_ne hu) (e_lc false [("town", 2)] nd (i_in (e_v 1)) (blkOk_by (N := N__law_hides) (sc := defScope s__law_hides) (by decide +kernel)) (fun _ _ _ _ _ => (g_n 2 nd)) (fun _ _ _ _ _ => (ts_one (t_w (w_and (t_chain c_lt c_lt (e_ix (e_v 0) e_int) (e_ix (e_v 2) e_int) (e_ix (e_v 0) e_int)) (w_and1 (t_chain c_lt c_lt (e_ix (e_v 0) e_int) (e_ix (e_v 2) e_int) (e_ix (e_v 0) e_int))))))) (fun _ _ _ _ _ => (e_v 2))) (e_lst false a_nil))))
theorem sc__law_lies : FnScope N__law_lies ["clashes", "row", "place"] (defScope s__law_lies) := ⟨rfl, rfl, rfl, by decide +kernel, rfl, by decide +kernel, by decide +kernel⟩
theorem ok__law_lies (z_len : mg "len" = none) (z_range : mg "range" = none) {f : Addr} {fd : FuncData} (F : Fun K "_law_lies" "_law_lies" s__law_lies f fd) : FnD P w K mg base (1) f fd ["clashes", "row", "place"] (dBody N__law_lies LB.d__law_lies_0) := by
  refine fn_d (k := 0) F sc__law_lies fun cdv A outer s H E hr => ?_
  have hu := hr.units
  have nd := sc__law_lies.nd
  exact (ss_cons (s_set 3 nd (e_ix (e_ix (e_v 0) (e_bf b_len z_len (a_cons (e_v 1) a_nil))) (e_v 2)))
    (ss_one (s_ret (e_and (e_cmp c_isn (e_v 3) e_non) (e_one (e_cmp (c_eq hu) (e_lc false [("far", 4)] nd (i_rg1 z_range (a_cons (e_bf b_len z_len (a_cons (e_v 1) a_nil)) a_nil)) (blkOk_by (N := N__law_lies) (sc := defScope s__law_lies) (by decide +kernel)) (fun _ _ _ _ _ => (g_n 4 nd)) (fun _ _ _ _ _ => (ts_one (t_cmp (c_in hu) (e_tup (a_cons (e_v 4) (a_cons (e_ix (e_v 1) (e_v 4)) a_nil))) (e_v 3)))) (fun _ _ _ _ _ => (e_v 4))) (e_lst false a_nil)))))))
theorem sc_fits : FnScope N_fits ["towns", "sizes", "row", "place"] (defScope s_fits) := ⟨rfl, rfl, rfl, by decide +kernel, rfl, by decide +kernel, by decide +kernel⟩
theorem ok_fits (z_len : mg "len" = none) (z_any : mg "any" = none) (z_enumerate : mg "enumerate" = none) (G_box_for : Dn P w K mg base 1 "box_for" ["town", "size", "place"] LB.S_box_for) (G_covers : Dn P w K mg base 1 "covers" ["box", "town"] LB.S_covers) (G_overlap : Dn P w K mg base 1 "overlap" ["one", "other"] LB.S_overlap) {f : Addr} {fd : FuncData} (F : Fun K "fits" "fits" s_fits f fd) : FnD P w K mg base (2) f fd ["towns", "sizes", "row", "place"] (dBody N_fits d_fits_0) := by
  refine fn_d (k := 1) F sc_fits fun cdv A outer s H E hr => ?_
  have hu := hr.units
  have nd := sc_fits.nd
  exact (ss_cons (s_set 4 nd (e_bf b_len z_len (a_cons (e_v 2) a_nil)))
    (ss_cons (s_set 5 nd (e_def G_box_for (hr.mono (by decide)) (a_cons (e_ix (e_v 0) (e_v 4)) (a_cons (e_ix (e_v 1) (e_v 4)) (a_cons (e_v 3) a_nil)))))
    (ss_cons (s_if (t_tr (e_bf b_any z_any (a_cons (e_lc false [("town", 6)] nd (i_in (e_v 0)) (blkOk_by (N := N_fits) (sc := defScope s_fits) (by decide +kernel)) (fun _ _ _ _ _ => (g_n 6 nd)) (fun _ _ _ _ _ => ts_nil) (fun _ _ _ _ _ => (e_def G_covers (hr.mono (by decide)) (a_cons (e_v 5) (a_cons (e_v 6) a_nil))))) a_nil))) (ss_one (s_ret e_bl)) ss_nil)
    (ss_one (s_ret (e_not (e_bf b_any z_any (a_cons (e_lc false [("far", 7), ("old", 8)] nd (i_enum z_enumerate (a_cons (e_v 2) a_nil)) (blkOk_by (N := N_fits) (sc := defScope s_fits) (by decide +kernel)) (fun _ _ _ _ _ => (g_t 2 rfl (gs_cons (g_n 7 nd) (gs_cons (g_n 8 nd) gs_nil)))) (fun _ _ _ _ _ => ts_nil) (fun _ _ _ _ _ => (e_def G_overlap (hr.mono (by decide)) (a_cons (e_v 5) (a_cons (e_def G_box_for (hr.mono (by decide)) (a_cons (e_ix (e_v 0) (e_v 7)) (a_cons (e_ix (e_v 1) (e_v 7)) (a_cons (e_v 8) a_nil)))) a_nil))))) a_nil))))))))
theorem sc__law_digits : FnScope N__law_digits ["script", "first", "last"] (defScope s__law_digits) := ⟨rfl, rfl, rfl, by decide +kernel, rfl, by decide +kernel, by decide +kernel⟩
theorem ok__law_digits (z_range : mg "range" = none) (z_int : mg "int" = none) (G__law_cell : Dn P w K mg base 1 "_law_cell" ["script", "k"] DL.S_cell) {f : Addr} {fd : FuncData} (F : Fun K "_law_digits" "_law_digits" s__law_digits f fd) : FnD P w K mg base (2) f fd ["script", "first", "last"] (dBody N__law_digits DL.d__law_digits_0) := by
  refine fn_d (k := 1) F sc__law_digits fun cdv A outer s H E hr => ?_
  have hu := hr.units
  have nd := sc__law_digits.nd
  exact (ss_cons (s_set 3 nd (e_lst true a_nil))
    (ss_cons (s_for (i_rg2 z_range (a_cons (e_v 1) (a_cons (e_v 2) a_nil))) (g_n 4 nd) (ss_cons (s_set 5 nd (e_def G__law_cell (hr.mono (by decide)) (a_cons (e_v 0) (a_cons (e_v 4) a_nil))))
    (ss_cons (s_if (t_cmp c_lt (e_v 5) e_int) (ss_one (s_set 5 nd (e_sub e_int (e_mul false e_int (e_v 5))))) ss_nil)
    (ss_one (s_if (t_cmp c_ge (e_v 5) (e_pw e_int e_int)) (ss_one (s_for (i_rg1 z_range (a_cons e_int a_nil)) (g_n 6 nd) (ss_one (s_if (t_cmp c_gt (e_v 5) e_int) (ss_cons (s_do (e_m m_app (e_v 3) (a_cons (e_md (e_bt b_int z_int (a_cons (e_v 5) a_nil)) e_int) a_nil)))
    (ss_one (s_set 5 nd (e_fd (e_v 5) e_int)))) ss_nil)))) (ss_cons (s_set 7 nd (e_md (e_bt b_int z_int (a_cons (e_add false (e_add false (e_mul false (e_v 5) e_int) (e_mul false (e_v 4) e_int)) e_int) a_nil)) e_int))
    (ss_one (s_for (i_rg1 z_range (a_cons e_int a_nil)) (g_n 6 nd) (ss_cons (s_set 7 nd (e_md (e_bt b_int z_int (a_cons (e_add false (e_add false (e_mul false (e_v 7) e_int) (e_mul false e_int (e_v 6))) e_int) a_nil)) e_int))
    (ss_one (s_do (e_m m_app (e_v 3) (a_cons (e_md (e_bt b_int z_int (a_cons (e_fd (e_v 7) e_int) a_nil)) e_int) a_nil)))))))))))))
    (ss_one (s_ret (e_v 3)))))
theorem sc__law_pick : FnScope N__law_pick ["box", "row"] (defScope s__law_pick) := ⟨rfl, rfl, rfl, by decide +kernel, rfl, by decide +kernel, by decide +kernel⟩
theorem ok__law_pick (z_int : mg "int" = none) (z_len : mg "len" = none) (G__law_draw : Dn P w K mg base 1 "_law_draw" ["box", "many"] DL.S_draw) {f : Addr} {fd : FuncData} (F : Fun K "_law_pick" "_law_pick" s__law_pick f fd) : FnD P w K mg base (2) f fd ["box", "row"] (dBody N__law_pick DL.d__law_pick_0) := by
  refine fn_d (k := 1) F sc__law_pick fun cdv A outer s H E hr => ?_
  have hu := hr.units
  have nd := sc__law_pick.nd
  exact (ss_one (s_ret (e_ix (e_v 1) (e_md (e_bt b_int z_int (a_cons (e_def G__law_draw (hr.mono (by decide)) (a_cons (e_v 0) (a_cons e_int a_nil))) a_nil)) (e_bf b_len z_len (a_cons (e_v 1) a_nil))))))
theorem sc__law_spots : FnScope N__law_spots ["box", "most", "wide"] (defScope s__law_spots) := ⟨rfl, rfl, rfl, by decide +kernel, rfl, by decide +kernel, by decide +kernel⟩
theorem ok__law_spots (z_range : mg "range" = none) (G__law_draw : Dn P w K mg base 1 "_law_draw" ["box", "many"] DL.S_draw) {f : Addr} {fd : FuncData} (F : Fun K "_law_spots" "_law_spots" s__law_spots f fd) : FnD P w K mg base (2) f fd ["box", "most", "wide"] (dBody N__law_spots LB.d__law_spots_0) := by
  refine fn_d (k := 1) F sc__law_spots fun cdv A outer s H E hr => ?_
  have hu := hr.units
  have nd := sc__law_spots.nd
  exact (ss_cons (s_set 3 nd (e_lst true a_nil))
    (ss_cons (s_for (i_rg1 z_range (a_cons (e_v 1) a_nil)) (g_n 4 nd) (ss_cons (s_set 5 nd (e_tup (a_cons (e_def G__law_draw (hr.mono (by decide)) (a_cons (e_v 0) (a_cons (e_v 2) a_nil))) (a_cons (e_def G__law_draw (hr.mono (by decide)) (a_cons (e_v 0) (a_cons (e_v 2) a_nil))) a_nil))))
    (ss_one (s_if (t_cmp (c_ni hu) (e_v 5) (e_v 3)) (ss_one (s_do (e_m m_app (e_v 3) (a_cons (e_v 5) a_nil)))) ss_nil))))
    (ss_one (s_ret (e_v 3)))))
theorem sc__law_clashes : FnScope N__law_clashes ["rows", "sizes"] (defScope s__law_clashes) := ⟨rfl, rfl, rfl, by decide +kernel, rfl, by decide +kernel, by decide +kernel⟩
theorem ok__law_clashes (z_range : mg "range" = none) (z_len : mg "len" = none) (G__law_boxes : Dn P w K mg base 1 "_law_boxes" ["rows", "sizes"] LB.S__law_boxes) (G__law_hides : Dn P w K mg base 1 "_law_hides" ["label", "rows"] LB.S__law_hides) (G__law_lap : Dn P w K mg base 1 "_law_lap" ["one", "other"] LB.S__law_lap) {f : Addr} {fd : FuncData} (F : Fun K "_law_clashes" "_law_clashes" s__law_clashes f fd) : FnD P w K mg base (2) f fd ["rows", "sizes"] (dBody N__law_clashes LB.d__law_clashes_0) := by
  refine fn_d (k := 1) F sc__law_clashes fun cdv A outer s H E hr => ?_
  have hu := hr.units
  have nd := sc__law_clashes.nd
  exact (ss_cons (s_set 2 nd (e_frz (e_def G__law_boxes (hr.mono (by decide)) (a_cons (e_v 0) (a_cons (e_v 1) a_nil)))))
    (ss_cons (s_set 3 nd (e_lst true a_nil))
    (ss_cons (s_for (i_rg1 z_range (a_cons (e_bf b_len z_len (a_cons (e_v 0) a_nil)) a_nil)) (g_n 4 nd) (ss_cons (s_set 5 nd (e_lst true a_nil))
    (ss_cons (s_for (i_in (e_ix (e_v 2) (e_v 4))) (g_n 6 nd) (ss_one (s_if (t_tr (e_def G__law_hides (hr.mono (by decide)) (a_cons (e_v 6) (a_cons (e_v 0) a_nil)))) (ss_one (s_do (e_m m_app (e_v 5) (a_cons e_non a_nil)))) (ss_cons (s_set 7 nd (e_lst false a_nil))
    (ss_cons (s_for (i_rg1 z_range (a_cons (e_v 4) a_nil)) (g_n 8 nd) (ss_one (s_set 7 nd (e_add false (e_v 7) (e_lc false [("place", 9)] nd (i_rg1 z_range (a_cons e_int a_nil)) (blkOk_by (N := N__law_clashes) (sc := defScope s__law_clashes) (by decide +kernel)) (fun _ _ _ _ _ => (g_n 9 nd)) (fun _ _ _ _ _ => (ts_one (t_tr (e_def G__law_lap (hr.mono (by decide)) (a_cons (e_v 6) (a_cons (e_ix (e_ix (e_v 2) (e_v 8)) (e_v 9)) a_nil)))))) (fun _ _ _ _ _ => (e_tup (a_cons (e_v 8) (a_cons (e_v 9) a_nil)))))))))
    (ss_one (s_do (e_m m_app (e_v 5) (a_cons (e_v 7) a_nil)))))))))
    (ss_fz 5 (ss_one (s_do (e_m m_app (e_v 3) (a_cons (e_v 5) a_nil))))))))
    (ss_one (s_ret (e_v 3))))))
theorem sc__law_lay : FnScope N__law_lay ["clashes", "allowed"] (defScope s__law_lay) := ⟨rfl, rfl, rfl, by decide +kernel, rfl, by decide +kernel, by decide +kernel⟩
theorem ok__law_lay (z_range : mg "range" = none) (z_len : mg "len" = none) (z_reversed : mg "reversed" = none) (G__law_lies : Dn P w K mg base 1 "_law_lies" ["clashes", "row", "place"] LB.S__law_lies) {f : Addr} {fd : FuncData} (F : Fun K "_law_lay" "_law_lay" s__law_lay f fd) : FnD P w K mg base (2) f fd ["clashes", "allowed"] (dBody N__law_lay d__law_lay_0) := by
  refine fn_d (k := 1) F sc__law_lay fun cdv A outer s H E hr => ?_
  have hu := hr.units
  have nd := sc__law_lay.nd
  exact (ss_cons (s_set 2 nd (e_lst true (a_cons (e_lst false a_nil) a_nil)))
    (ss_cons (s_for (i_rg1 z_range (a_cons e_int a_nil)) (g_n 3 nd) (ss_cons (s_if (t_cmp (c_eq hu) (e_v 2) (e_lst false a_nil)) (ss_one (s_ret e_non)) ss_nil)
    (ss_cons (s_set 4 nd (e_m0 m_pop (e_v 2)))
    (ss_cons (s_if (t_cmp (c_eq hu) (e_bf b_len z_len (a_cons (e_v 4) a_nil)) (e_bf b_len z_len (a_cons (e_v 0) a_nil))) (ss_one (s_ret (e_v 4))) ss_nil)
    (ss_one (s_set 2 nd (e_add true (e_v 2) (e_lc false [("place", 5)] nd (i_rev z_reversed (e_v 1)) (blkOk_by (N := N__law_lay) (sc := defScope s__law_lay) (by decide +kernel)) (fun _ _ _ _ _ => (g_n 5 nd)) (fun _ _ _ _ _ => (ts_one (t_tr (e_def G__law_lies (hr.mono (by decide)) (a_cons (e_v 0) (a_cons (e_v 4) (a_cons (e_v 5) a_nil))))))) (fun _ _ _ _ _ => (e_add false (e_v 4) (e_lst false (a_cons (e_v 5) a_nil))))))))))))
    (ss_one (s_ret e_non))))
theorem sc_first_laying : FnScope N_first_laying ["towns", "sizes", "allowed"] (defScope s_first_laying) := ⟨rfl, rfl, rfl, by decide +kernel, rfl, by decide +kernel, by decide +kernel⟩
theorem ok_first_laying (z_len : mg "len" = none) (z_reversed : mg "reversed" = none) (G_fits : Dn P w K mg base 2 "fits" ["towns", "sizes", "row", "place"] S_fits) {f : Addr} {fd : FuncData} (F : Fun K "first_laying" "first_laying" s_first_laying f fd) : FnD P w K mg base (3) f fd ["towns", "sizes", "allowed"] (dBody N_first_laying d_first_laying_0) := by
  refine fn_d (k := 2) F sc_first_laying fun cdv A outer s H E hr => ?_
  have hu := hr.units
  have nd := sc_first_laying.nd
  exact (ss_cons (s_set 3 nd (e_lst true (a_cons (e_lst true a_nil) a_nil)))
    (ss_cons (s_while (t_cmp c_gt (e_bf b_len z_len (a_cons (e_v 3) a_nil)) e_int) (ss_cons (s_set 4 nd (e_m0 m_pop (e_v 3)))
    (ss_cons (s_if (t_cmp (c_eq hu) (e_bf b_len z_len (a_cons (e_v 4) a_nil)) (e_bf b_len z_len (a_cons (e_v 0) a_nil))) (ss_one (s_ret (e_v 4))) ss_nil)
    (ss_cons (s_setLc false 5 [("place", 6)] nd (i_in (e_v 2)) (blkOk_by (N := N_first_laying) (sc := defScope s_first_laying) (by decide +kernel)) (fun _ _ _ _ _ => (g_n 6 nd)) (fun _ _ _ _ _ => (ts_one (t_tr (e_def G_fits (hr.mono (by decide)) (a_cons (e_v 0) (a_cons (e_v 1) (a_cons (e_v 4) (a_cons (e_v 6) a_nil)))))))) (fun _ _ _ _ _ => (e_v 6)) (sw_true rfl rfl rfl (by decide +kernel)))
    (ss_one (s_do (e_m m_ext (e_v 3) (a_cons (e_lc false [("place", 6)] nd (i_rev z_reversed (e_v 5)) (blkOk_by (N := N_first_laying) (sc := defScope s_first_laying) (by decide +kernel)) (fun _ _ _ _ _ => (g_n 6 nd)) (fun _ _ _ _ _ => ts_nil) (fun _ _ _ _ _ => (e_add true (e_v 4) (e_lst false (a_cons (e_v 6) a_nil))))) a_nil))))))))
    (ss_one (s_ret e_non))))
theorem sc__law_labels : FnScope N__law_labels ["box", "most", "wide"] (defScope s__law_labels) := ⟨rfl, rfl, rfl, by decide +kernel, rfl, by decide +kernel, by decide +kernel⟩
theorem ok__law_labels (G__law_spots : Dn P w K mg base 2 "_law_spots" ["box", "most", "wide"] LB.S__law_spots) (G__law_draw : Dn P w K mg base 1 "_law_draw" ["box", "many"] DL.S_draw) {f : Addr} {fd : FuncData} (F : Fun K "_law_labels" "_law_labels" s__law_labels f fd) : FnD P w K mg base (3) f fd ["box", "most", "wide"] (dBody N__law_labels LB.d__law_labels_0) := by
  refine fn_d (k := 2) F sc__law_labels fun cdv A outer s H E hr => ?_
  have hu := hr.units
  have nd := sc__law_labels.nd
  exact (ss_cons (s_set 3 nd (e_frz (e_def G__law_spots (hr.mono (by decide)) (a_cons (e_v 0) (a_cons (e_v 1) (a_cons (e_v 2) a_nil))))))
    (ss_one (s_ret (e_tup (a_cons (e_v 3) (a_cons (e_lc false [("town", 4)] nd (i_in (e_v 3)) (blkOk_by (N := N__law_labels) (sc := defScope s__law_labels) (by decide +kernel)) (fun _ _ _ _ _ => (g_n 4 nd)) (fun _ _ _ _ _ => ts_nil) (fun _ _ _ _ _ => (e_tup (a_cons (e_add false e_int (e_def G__law_draw (hr.mono (by decide)) (a_cons (e_v 0) (a_cons e_int a_nil)))) (a_cons (e_add false e_int (e_def G__law_draw (hr.mono (by decide)) (a_cons (e_v 0) (a_cons e_int a_nil)))) a_nil))))) a_nil))))))
theorem sc_greatest_size : FnScope N_greatest_size ["towns", "sizes", "most"] (defScope s_greatest_size) := ⟨rfl, rfl, rfl, by decide +kernel, rfl, by decide +kernel, by decide +kernel⟩
theorem ok_greatest_size (z_range : mg "range" = none) (G_first_laying : Dn P w K mg base 3 "first_laying" ["towns", "sizes", "allowed"] S_first_laying) {f : Addr} {fd : FuncData} (F : Fun K "greatest_size" "greatest_size" s_greatest_size f fd) : FnD P w K mg base (4) f fd ["towns", "sizes", "most"] (dBody N_greatest_size d_greatest_size_0) := by
  refine fn_d (k := 3) F sc_greatest_size fun cdv A outer s H E hr => ?_
  have hu := hr.units
  have nd := sc_greatest_size.nd
  exact (ss_cons (s_set 3 nd e_int)
    (ss_cons (s_for (i_rg2 z_range (a_cons e_int (a_cons (e_add false (e_v 2) e_int) a_nil))) (g_n 4 nd) (ss_cons (s_setLc false 5 [("wide", 6), ("high", 7)] nd (i_in (e_v 1)) (blkOk_by (N := N_greatest_size) (sc := defScope s_greatest_size) (by decide +kernel)) (fun _ _ _ _ _ => (g_t 2 rfl (gs_cons (g_n 6 nd) (gs_cons (g_n 7 nd) gs_nil)))) (fun _ _ _ _ _ => ts_nil) (fun _ _ _ _ _ => (e_tup (a_cons (e_mul false (e_v 6) (e_v 4)) (a_cons (e_mul false (e_v 7) (e_v 4)) a_nil)))) (sw_true rfl rfl rfl (by decide +kernel)))
    (ss_cons (s_if (t_cmp c_is (e_frz (e_def G_first_laying (hr.mono (by decide)) (a_cons (e_v 0) (a_cons (e_v 5) (a_cons (e_tup (a_cons e_int (a_cons e_int (a_cons e_int (a_cons e_int a_nil))))) a_nil))))) e_non) (ss_one (s_ret (e_v 3))) ss_nil)
    (ss_one (s_set 3 nd (e_v 4))))))
    (ss_one (s_ret (e_v 3)))))
theorem sc__law_same : FnScope N__law_same ["told", "due"] (defScope s__law_same) := ⟨rfl, rfl, rfl, by decide +kernel, rfl, by decide +kernel, by decide +kernel⟩
theorem ok__law_same {kk : Nat} (z_isinstance : mg "isinstance" = none) (z_str : mg "str" = none) (z_repr : mg "repr" = none) (z_int : mg "int" = none) (z_bool : mg "bool" = none) (z_tuple : mg "tuple" = none) (z_list : mg "list" = none) (z_len : mg "len" = none) (z_range : mg "range" = none) {S__law_same : DSpec} (G__law_same : Dn P w K mg base kk "_law_same" ["told", "due"] S__law_same) {f : Addr} {fd : FuncData} (F : Fun K "_law_same" "_law_same" s__law_same f fd) : FnD P w K mg base (kk + 1) f fd ["told", "due"] (dBody N__law_same (DL.d__law_same_0 S__law_same)) := by
  refine fn_d (k := kk) F sc__law_same fun cdv A outer s H E hr => ?_
  have hu := hr.units
  have nd := sc__law_same.nd
  exact (ss_cons (s_if (t_cmp c_is (e_v 1) e_non) (ss_one (s_ret (e_cmp c_is (e_v 0) e_non))) ss_nil)
    (ss_cons (s_if (t_cmp c_is (e_v 1) e_bl) (ss_one (s_ret (e_cmp c_is (e_v 0) e_bl))) ss_nil)
    (ss_cons (s_if (t_cmp c_is (e_v 1) e_bl) (ss_one (s_ret (e_cmp c_is (e_v 0) e_bl))) ss_nil)
    (ss_cons (s_if (t_tr (e_bf b_isi z_isinstance (a_cons (e_v 1) (a_cons (e_ty "str" z_str) a_nil)))) (ss_one (s_ret (e_and (e_bf b_isi z_isinstance (a_cons (e_v 0) (a_cons (e_ty "str" z_str) a_nil))) (e_one (e_cmp (c_eq hu) (e_bf b_repr z_repr (a_cons (e_v 0) a_nil)) (e_bf b_repr z_repr (a_cons (e_v 1) a_nil))))))) ss_nil)
    (ss_cons (s_if (t_tr (e_bf b_isi z_isinstance (a_cons (e_v 1) (a_cons (e_ty "int" z_int) a_nil)))) (ss_one (s_ret (e_and (e_bf b_isi z_isinstance (a_cons (e_v 0) (a_cons (e_ty "int" z_int) a_nil))) (e_and (e_not (e_bf b_isi z_isinstance (a_cons (e_v 0) (a_cons (e_ty "bool" z_bool) a_nil)))) (e_one (e_cmp (c_eq hu) (e_bf b_repr z_repr (a_cons (e_v 0) a_nil)) (e_bf b_repr z_repr (a_cons (e_v 1) a_nil)))))))) ss_nil)
    (ss_cons (s_if (t_w (w_or (t_w (w_and (t_tr (e_bf b_isi z_isinstance (a_cons (e_v 1) (a_cons (e_ty "tuple" z_tuple) a_nil)))) (w_and1 (t_not (t_tr (e_bf b_isi z_isinstance (a_cons (e_v 0) (a_cons (e_ty "tuple" z_tuple) a_nil)))))))) (w_or1 (t_w (w_and (t_tr (e_bf b_isi z_isinstance (a_cons (e_v 1) (a_cons (e_ty "list" z_list) a_nil)))) (w_and1 (t_not (t_tr (e_bf b_isi z_isinstance (a_cons (e_v 0) (a_cons (e_ty "list" z_list) a_nil))))))))))) (ss_one (s_ret e_bl)) ss_nil)
    (ss_cons (s_if (t_cmp (c_ne hu) (e_bf b_len z_len (a_cons (e_v 0) a_nil)) (e_bf b_len z_len (a_cons (e_v 1) a_nil))) (ss_one (s_ret e_bl)) ss_nil)
    (ss_cons (s_for (i_rg1 z_range (a_cons (e_bf b_len z_len (a_cons (e_v 1) a_nil)) a_nil)) (g_n 2 nd) (ss_one (s_if (t_not (t_tr (e_def G__law_same hr (a_cons (e_ix (e_v 0) (e_v 2)) (a_cons (e_ix (e_v 1) (e_v 2)) a_nil))))) (ss_one (s_ret e_bl)) ss_nil)))
    (ss_one (s_ret e_bl))))))))))
theorem sc_law : FnScope N_law ["script"] (defScope s_law) := ⟨rfl, rfl, rfl, by decide +kernel, rfl, by decide +kernel, by decide +kernel⟩
theorem ok_law (z_range : mg "range" = none) (z_list : mg "list" = none) (z_max : mg "max" = none) (G__law_digits : Dn P w K mg base 2 "_law_digits" ["script", "first", "last"] DL.S_digits) (G__law_labels : Dn P w K mg base 3 "_law_labels" ["box", "most", "wide"] LB.S__law_labels) (G__law_pick : Dn P w K mg base 2 "_law_pick" ["box", "row"] DL.S_pick) (G__law_clashes : Dn P w K mg base 2 "_law_clashes" ["rows", "sizes"] LB.S__law_clashes) (G__law_lay : Dn P w K mg base 2 "_law_lay" ["clashes", "allowed"] S__law_lay) (G_first_laying : Dn P w K mg base 3 "first_laying" ["towns", "sizes", "allowed"] S_first_laying) (G__law_same : Dn P w K mg base 13 "_law_same" ["told", "due"] (DL.S_same 12)) (G_greatest_size : Dn P w K mg base 4 "greatest_size" ["towns", "sizes", "most"] S_greatest_size) {f : Addr} {fd : FuncData} (F : Fun K "law" "law" s_law f fd) : FnD P w K mg base (14) f fd ["script"] (dBody N_law d_law_0) := by
  refine fn_d (k := 13) F sc_law fun cdv A outer s H E hr => ?_
  have hu := hr.units
  have nd := sc_law.nd
  exact (ss_cons (s_set 1 nd (e_lst true (a_cons (e_frz (e_def G__law_digits (hr.mono (by decide)) (a_cons (e_v 0) (a_cons e_int (a_cons e_int a_nil))))) (a_cons e_int a_nil))))
    (ss_hide 1 (ss_cons (s_for (i_rg1 z_range (a_cons e_int a_nil)) (g_n 2 nd) (ss_cons (s_asg (e_def G__law_labels (hr.mono (by decide)) (a_cons (e_v 1) (a_cons (e_def G__law_pick (hr.mono (by decide)) (a_cons (e_v 1) (a_cons (e_lst false (a_cons e_int (a_cons e_int (a_cons e_int (a_cons e_int (a_cons e_int (a_cons e_int a_nil))))))) a_nil))) (a_cons (e_def G__law_pick (hr.mono (by decide)) (a_cons (e_v 1) (a_cons (e_lst false (a_cons e_int (a_cons e_int (a_cons e_int (a_cons e_int a_nil))))) a_nil))) a_nil)))) (g_t 2 rfl (gs_cons (g_n 3 nd) (gs_cons (g_n 4 nd) gs_nil))))
    (ss_cons (s_set 5 nd (e_tup (a_cons (e_bt (b_list false) z_list (a_cons (e_v 3) a_nil)) (a_cons (e_bt (b_list false) z_list (a_cons (e_v 4) a_nil)) a_nil))))
    (ss_cons (s_set 6 nd (e_frz (e_def G__law_clashes (hr.mono (by decide)) (a_cons (e_v 3) (a_cons (e_v 4) a_nil)))))
    (ss_one (s_for (i_in (e_lst false (a_cons (e_tup (a_cons e_int (a_cons e_int (a_cons e_int (a_cons e_int a_nil))))) (a_cons (e_def G__law_pick (hr.mono (by decide)) (a_cons (e_v 1) (a_cons (e_lst false (a_cons (e_tup (a_cons e_int (a_cons e_int a_nil))) (a_cons (e_tup (a_cons e_int (a_cons e_int a_nil))) (a_cons (e_tup (a_cons e_int (a_cons e_int (a_cons e_int a_nil)))) (a_cons (e_tup (a_cons e_int (a_cons e_int (a_cons e_int a_nil)))) (a_cons (e_tup (a_cons e_int (a_cons e_int a_nil))) a_nil)))))) a_nil))) (a_cons (e_def G__law_pick (hr.mono (by decide)) (a_cons (e_v 1) (a_cons (e_lst false (a_cons (e_tup (a_cons e_int a_nil)) (a_cons (e_tup (a_cons e_int a_nil)) (a_cons (e_tup a_nil) a_nil)))) a_nil))) a_nil))))) (g_n 7 nd) (ss_cons (s_set 8 nd (e_def G__law_lay (hr.mono (by decide)) (a_cons (e_v 6) (a_cons (e_v 7) a_nil))))
    (ss_cons (s_set 9 nd (e_def G_first_laying (hr.mono (by decide)) (a_cons (e_ix (e_v 5) e_int) (a_cons (e_ix (e_v 5) e_int) (a_cons (e_v 7) a_nil)))))
    (ss_cons (s_if (t_w (w_or (t_not (t_tr (e_def G__law_same (hr.mono (by decide)) (a_cons (e_v 9) (a_cons (e_v 8) a_nil))))) (w_or (t_cmp (c_ne hu) (e_ix (e_v 5) e_int) (e_v 3)) (w_or1 (t_cmp (c_ne hu) (e_ix (e_v 5) e_int) (e_v 4)))))) (ss_one (s_ret e_bl)) ss_nil)
    (ss_cons (s_if (t_cmp c_isn (e_v 8) e_non) (ss_cons (s_do (e_m m_app (e_v 9) (a_cons e_int a_nil)))
    (ss_one (s_if (t_not (t_tr (e_def G__law_same (hr.mono (by decide)) (a_cons (e_frz (e_def G_first_laying (hr.mono (by decide)) (a_cons (e_ix (e_v 5) e_int) (a_cons (e_ix (e_v 5) e_int) (a_cons (e_v 7) a_nil))))) (a_cons (e_v 8) a_nil))))) (ss_one (s_ret e_bl)) ss_nil))) ss_nil)
    (ss_fz 9 ss_nil)))))))))))
    (ss_cons (s_asg (e_def G__law_labels (hr.mono (by decide)) (a_cons (e_v 1) (a_cons (e_def G__law_pick (hr.mono (by decide)) (a_cons (e_v 1) (a_cons (e_lst false (a_cons e_int (a_cons e_int (a_cons e_int (a_cons e_int (a_cons e_int a_nil)))))) a_nil))) (a_cons (e_def G__law_pick (hr.mono (by decide)) (a_cons (e_v 1) (a_cons (e_lst false (a_cons e_int (a_cons e_int (a_cons e_int a_nil)))) a_nil))) a_nil)))) (g_t 2 rfl (gs_cons (g_n 3 nd) (gs_cons (g_n 4 nd) gs_nil))))
    (ss_cons (s_set 5 nd (e_tup (a_cons (e_bt (b_list false) z_list (a_cons (e_v 3) a_nil)) (a_cons (e_bt (b_list false) z_list (a_cons (e_v 4) a_nil)) a_nil))))
    (ss_cons (s_set 10 nd (e_def G__law_pick (hr.mono (by decide)) (a_cons (e_v 1) (a_cons (e_lst false (a_cons e_int (a_cons e_int (a_cons e_int (a_cons e_int (a_cons e_int a_nil)))))) a_nil))))
    (ss_cons (s_set 11 nd (e_lst true (a_cons e_int a_nil)))
    (ss_cons (s_for (i_rg2 z_range (a_cons e_int (a_cons (e_add false (e_v 10) e_int) a_nil))) (g_n 12 nd) (ss_cons (s_setLc false 13 [("wide", 16), ("high", 17)] nd (i_in (e_v 4)) (blkOk_by (N := N_law) (sc := defScope s_law) (by decide +kernel)) (fun _ _ _ _ _ => (g_t 2 rfl (gs_cons (g_n 16 nd) (gs_cons (g_n 17 nd) gs_nil)))) (fun _ _ _ _ _ => ts_nil) (fun _ _ _ _ _ => (e_tup (a_cons (e_mul false (e_v 16) (e_v 12)) (a_cons (e_mul false (e_v 17) (e_v 12)) a_nil)))) (sw_true rfl rfl rfl (by decide +kernel)))
    (ss_one (s_if (t_cmp c_isn (e_def G__law_lay (hr.mono (by decide)) (a_cons (e_frz (e_def G__law_clashes (hr.mono (by decide)) (a_cons (e_v 3) (a_cons (e_v 13) a_nil)))) (a_cons (e_tup (a_cons e_int (a_cons e_int (a_cons e_int (a_cons e_int a_nil))))) a_nil))) e_non) (ss_one (s_do (e_m m_app (e_v 11) (a_cons (e_v 12) a_nil)))) ss_nil))))
    (ss_fz 11 (ss_cons (s_if (t_w (w_or (t_not (t_tr (e_def G__law_same (hr.mono (by decide)) (a_cons (e_def G_greatest_size (hr.mono (by decide)) (a_cons (e_ix (e_v 5) e_int) (a_cons (e_ix (e_v 5) e_int) (a_cons (e_v 10) a_nil)))) (a_cons (e_bf b_max z_max (a_cons (e_v 11) a_nil)) a_nil))))) (w_or (t_cmp (c_ne hu) (e_ix (e_v 5) e_int) (e_v 3)) (w_or1 (t_cmp (c_ne hu) (e_ix (e_v 5) e_int) (e_v 4)))))) (ss_one (s_ret e_bl)) ss_nil)
    (ss_cons (s_set 14 nd (e_lst false (a_cons (e_tup (a_cons e_int (a_cons e_int a_nil))) (a_cons (e_tup (a_cons e_int (a_cons e_int a_nil))) (a_cons (e_tup (a_cons e_int (a_cons e_int a_nil))) (a_cons (e_tup (a_cons e_int (a_cons e_int a_nil))) a_nil))))))
    (ss_cons (s_if (t_w (w_or (t_not (t_tr (e_def G__law_same (hr.mono (by decide)) (a_cons (e_frz (e_def G_first_laying (hr.mono (by decide)) (a_cons (e_v 14) (a_cons (e_mul false (e_lst false (a_cons (e_tup (a_cons e_int (a_cons e_int a_nil))) a_nil)) e_int) (a_cons (e_tup (a_cons e_int (a_cons e_int (a_cons e_int (a_cons e_int a_nil))))) a_nil))))) (a_cons (e_lst false (a_cons e_int (a_cons e_int (a_cons e_int (a_cons e_int a_nil))))) a_nil))))) (w_or1 (t_not (t_tr (e_def G__law_same (hr.mono (by decide)) (a_cons (e_def G_greatest_size (hr.mono (by decide)) (a_cons (e_v 14) (a_cons (e_mul false (e_lst false (a_cons (e_tup (a_cons e_int (a_cons e_int a_nil))) a_nil)) e_int) (a_cons e_int a_nil)))) (a_cons e_int a_nil)))))))) (ss_one (s_ret e_bl)) ss_nil)
    (ss_cons (s_set 15 nd (e_lst false (a_cons (e_tup (a_cons e_int (a_cons e_int a_nil))) (a_cons (e_tup (a_cons e_int (a_cons e_int a_nil))) a_nil))))
    (ss_cons (s_if (t_w (w_or (t_cmp c_isn (e_frz (e_def G_first_laying (hr.mono (by decide)) (a_cons (e_sl false (e_v 14) o_none (o_some e_int)) (a_cons (e_v 15) (a_cons (e_tup (a_cons e_int a_nil)) a_nil))))) e_non) (w_or1 (t_not (t_tr (e_def G__law_same (hr.mono (by decide)) (a_cons (e_frz (e_def G_first_laying (hr.mono (by decide)) (a_cons (e_sl false (e_v 14) o_none (o_some e_int)) (a_cons (e_v 15) (a_cons (e_tup (a_cons e_int (a_cons e_int a_nil))) a_nil))))) (a_cons (e_lst false (a_cons e_int (a_cons e_int a_nil))) a_nil)))))))) (ss_one (s_ret e_bl)) ss_nil)
    (ss_one (s_ret (e_def G__law_same (hr.mono (by decide)) (a_cons (e_frz (e_def G_first_laying (hr.mono (by decide)) (a_cons (e_sl false (e_v 14) o_none (o_some e_int)) (a_cons (e_v 15) (a_cons (e_tup (a_cons e_int (a_cons e_int (a_cons e_int a_nil)))) a_nil))))) (a_cons (e_lst false (a_cons e_int (a_cons e_int a_nil))) a_nil)))))))))))))))))))
end
end K68

namespace K68
open PySem PySem.Spec PyProof.Rows L2 DL
theorem all_mk {l : PySem.W.OpenLaw} {w : World} {K : PySem.W.Frag} {h : Heap} {mg : Str → Option Value} {fa : Addr} (X : K.In h) (G : h.Ns mainGlobals mg) (hfa : mg "law" = some (.ref fa))
    {f0 : Addr} {od0 an0 : Option Addr} {sl0 : Array (Option Value)} {oc0 kV0 dc0 pm0 cd0 ct0 : Value}
    (a0 : PySem.W.nsIn K mainGlobals "box_for" = some (some (.ref f0))) (l0 : K.lookup f0 = some ⟨oc0, od0, .func (PySem.W.fnOf "box_for" "box_for" (defArgs s_box_for) (defBody s_box_for) (defScope s_box_for) .none kV0 dc0 pm0 an0 cd0 ct0), sl0⟩) (c0 : PySem.W.codeIn K cd0 "box_for" = true) (k0 : PySem.W.keepIn K (.ref f0) = true)
    {f1 : Addr} {od1 an1 : Option Addr} {sl1 : Array (Option Value)} {oc1 kV1 dc1 pm1 cd1 ct1 : Value}
    (a1 : PySem.W.nsIn K mainGlobals "overlap" = some (some (.ref f1))) (l1 : K.lookup f1 = some ⟨oc1, od1, .func (PySem.W.fnOf "overlap" "overlap" (defArgs s_overlap) (defBody s_overlap) (defScope s_overlap) .none kV1 dc1 pm1 an1 cd1 ct1), sl1⟩) (c1 : PySem.W.codeIn K cd1 "overlap" = true) (k1 : PySem.W.keepIn K (.ref f1) = true)
    {f2 : Addr} {od2 an2 : Option Addr} {sl2 : Array (Option Value)} {oc2 kV2 dc2 pm2 cd2 ct2 : Value}
    (a2 : PySem.W.nsIn K mainGlobals "covers" = some (some (.ref f2))) (l2 : K.lookup f2 = some ⟨oc2, od2, .func (PySem.W.fnOf "covers" "covers" (defArgs s_covers) (defBody s_covers) (defScope s_covers) .none kV2 dc2 pm2 an2 cd2 ct2), sl2⟩) (c2 : PySem.W.codeIn K cd2 "covers" = true) (k2 : PySem.W.keepIn K (.ref f2) = true)
    {f3 : Addr} {od3 an3 : Option Addr} {sl3 : Array (Option Value)} {oc3 kV3 dc3 pm3 cd3 ct3 : Value}
    (a3 : PySem.W.nsIn K mainGlobals "_law_cell" = some (some (.ref f3))) (l3 : K.lookup f3 = some ⟨oc3, od3, .func (PySem.W.fnOf "_law_cell" "_law_cell" (defArgs s__law_cell) (defBody s__law_cell) (defScope s__law_cell) .none kV3 dc3 pm3 an3 cd3 ct3), sl3⟩) (c3 : PySem.W.codeIn K cd3 "_law_cell" = true) (k3 : PySem.W.keepIn K (.ref f3) = true)
    {f4 : Addr} {od4 an4 : Option Addr} {sl4 : Array (Option Value)} {oc4 kV4 dc4 pm4 cd4 ct4 : Value}
    (a4 : PySem.W.nsIn K mainGlobals "_law_draw" = some (some (.ref f4))) (l4 : K.lookup f4 = some ⟨oc4, od4, .func (PySem.W.fnOf "_law_draw" "_law_draw" (defArgs s__law_draw) (defBody s__law_draw) (defScope s__law_draw) .none kV4 dc4 pm4 an4 cd4 ct4), sl4⟩) (c4 : PySem.W.codeIn K cd4 "_law_draw" = true) (k4 : PySem.W.keepIn K (.ref f4) = true)
    {f5 : Addr} {od5 an5 : Option Addr} {sl5 : Array (Option Value)} {oc5 kV5 dc5 pm5 cd5 ct5 : Value}
    (a5 : PySem.W.nsIn K mainGlobals "_law_boxes" = some (some (.ref f5))) (l5 : K.lookup f5 = some ⟨oc5, od5, .func (PySem.W.fnOf "_law_boxes" "_law_boxes" (defArgs s__law_boxes) (defBody s__law_boxes) (defScope s__law_boxes) .none kV5 dc5 pm5 an5 cd5 ct5), sl5⟩) (c5 : PySem.W.codeIn K cd5 "_law_boxes" = true) (k5 : PySem.W.keepIn K (.ref f5) = true)
    {f6 : Addr} {od6 an6 : Option Addr} {sl6 : Array (Option Value)} {oc6 kV6 dc6 pm6 cd6 ct6 : Value}
    (a6 : PySem.W.nsIn K mainGlobals "_law_lap" = some (some (.ref f6))) (l6 : K.lookup f6 = some ⟨oc6, od6, .func (PySem.W.fnOf "_law_lap" "_law_lap" (defArgs s__law_lap) (defBody s__law_lap) (defScope s__law_lap) .none kV6 dc6 pm6 an6 cd6 ct6), sl6⟩) (c6 : PySem.W.codeIn K cd6 "_law_lap" = true) (k6 : PySem.W.keepIn K (.ref f6) = true)
    {f7 : Addr} {od7 an7 : Option Addr} {sl7 : Array (Option Value)} {oc7 kV7 dc7 pm7 cd7 ct7 : Value}
    (a7 : PySem.W.nsIn K mainGlobals "_law_hides" = some (some (.ref f7))) (l7 : K.lookup f7 = some ⟨oc7, od7, .func (PySem.W.fnOf "_law_hides" "_law_hides" (defArgs s__law_hides) (defBody s__law_hides) (defScope s__law_hides) .none kV7 dc7 pm7 an7 cd7 ct7), sl7⟩) (c7 : PySem.W.codeIn K cd7 "_law_hides" = true) (k7 : PySem.W.keepIn K (.ref f7) = true)
    {f8 : Addr} {od8 an8 : Option Addr} {sl8 : Array (Option Value)} {oc8 kV8 dc8 pm8 cd8 ct8 : Value}
    (a8 : PySem.W.nsIn K mainGlobals "_law_lies" = some (some (.ref f8))) (l8 : K.lookup f8 = some ⟨oc8, od8, .func (PySem.W.fnOf "_law_lies" "_law_lies" (defArgs s__law_lies) (defBody s__law_lies) (defScope s__law_lies) .none kV8 dc8 pm8 an8 cd8 ct8), sl8⟩) (c8 : PySem.W.codeIn K cd8 "_law_lies" = true) (k8 : PySem.W.keepIn K (.ref f8) = true)
    {f9 : Addr} {od9 an9 : Option Addr} {sl9 : Array (Option Value)} {oc9 kV9 dc9 pm9 cd9 ct9 : Value}
    (a9 : PySem.W.nsIn K mainGlobals "fits" = some (some (.ref f9))) (l9 : K.lookup f9 = some ⟨oc9, od9, .func (PySem.W.fnOf "fits" "fits" (defArgs s_fits) (defBody s_fits) (defScope s_fits) .none kV9 dc9 pm9 an9 cd9 ct9), sl9⟩) (c9 : PySem.W.codeIn K cd9 "fits" = true) (k9 : PySem.W.keepIn K (.ref f9) = true)
    {f10 : Addr} {od10 an10 : Option Addr} {sl10 : Array (Option Value)} {oc10 kV10 dc10 pm10 cd10 ct10 : Value}
    (a10 : PySem.W.nsIn K mainGlobals "_law_digits" = some (some (.ref f10))) (l10 : K.lookup f10 = some ⟨oc10, od10, .func (PySem.W.fnOf "_law_digits" "_law_digits" (defArgs s__law_digits) (defBody s__law_digits) (defScope s__law_digits) .none kV10 dc10 pm10 an10 cd10 ct10), sl10⟩) (c10 : PySem.W.codeIn K cd10 "_law_digits" = true) (k10 : PySem.W.keepIn K (.ref f10) = true)
    {f11 : Addr} {od11 an11 : Option Addr} {sl11 : Array (Option Value)} {oc11 kV11 dc11 pm11 cd11 ct11 : Value}
    (a11 : PySem.W.nsIn K mainGlobals "_law_pick" = some (some (.ref f11))) (l11 : K.lookup f11 = some ⟨oc11, od11, .func (PySem.W.fnOf "_law_pick" "_law_pick" (defArgs s__law_pick) (defBody s__law_pick) (defScope s__law_pick) .none kV11 dc11 pm11 an11 cd11 ct11), sl11⟩) (c11 : PySem.W.codeIn K cd11 "_law_pick" = true) (k11 : PySem.W.keepIn K (.ref f11) = true)
    {f12 : Addr} {od12 an12 : Option Addr} {sl12 : Array (Option Value)} {oc12 kV12 dc12 pm12 cd12 ct12 : Value}
    (a12 : PySem.W.nsIn K mainGlobals "_law_spots" = some (some (.ref f12))) (l12 : K.lookup f12 = some ⟨oc12, od12, .func (PySem.W.fnOf "_law_spots" "_law_spots" (defArgs s__law_spots) (defBody s__law_spots) (defScope s__law_spots) .none kV12 dc12 pm12 an12 cd12 ct12), sl12⟩) (c12 : PySem.W.codeIn K cd12 "_law_spots" = true) (k12 : PySem.W.keepIn K (.ref f12) = true)
    {f13 : Addr} {od13 an13 : Option Addr} {sl13 : Array (Option Value)} {oc13 kV13 dc13 pm13 cd13 ct13 : Value}
    (a13 : PySem.W.nsIn K mainGlobals "_law_clashes" = some (some (.ref f13))) (l13 : K.lookup f13 = some ⟨oc13, od13, .func (PySem.W.fnOf "_law_clashes" "_law_clashes" (defArgs s__law_clashes) (defBody s__law_clashes) (defScope s__law_clashes) .none kV13 dc13 pm13 an13 cd13 ct13), sl13⟩) (c13 : PySem.W.codeIn K cd13 "_law_clashes" = true) (k13 : PySem.W.keepIn K (.ref f13) = true)
    {f14 : Addr} {od14 an14 : Option Addr} {sl14 : Array (Option Value)} {oc14 kV14 dc14 pm14 cd14 ct14 : Value}
    (a14 : PySem.W.nsIn K mainGlobals "_law_lay" = some (some (.ref f14))) (l14 : K.lookup f14 = some ⟨oc14, od14, .func (PySem.W.fnOf "_law_lay" "_law_lay" (defArgs s__law_lay) (defBody s__law_lay) (defScope s__law_lay) .none kV14 dc14 pm14 an14 cd14 ct14), sl14⟩) (c14 : PySem.W.codeIn K cd14 "_law_lay" = true) (k14 : PySem.W.keepIn K (.ref f14) = true)
    {f15 : Addr} {od15 an15 : Option Addr} {sl15 : Array (Option Value)} {oc15 kV15 dc15 pm15 cd15 ct15 : Value}
    (a15 : PySem.W.nsIn K mainGlobals "first_laying" = some (some (.ref f15))) (l15 : K.lookup f15 = some ⟨oc15, od15, .func (PySem.W.fnOf "first_laying" "first_laying" (defArgs s_first_laying) (defBody s_first_laying) (defScope s_first_laying) .none kV15 dc15 pm15 an15 cd15 ct15), sl15⟩) (c15 : PySem.W.codeIn K cd15 "first_laying" = true) (k15 : PySem.W.keepIn K (.ref f15) = true)
    {f16 : Addr} {od16 an16 : Option Addr} {sl16 : Array (Option Value)} {oc16 kV16 dc16 pm16 cd16 ct16 : Value}
    (a16 : PySem.W.nsIn K mainGlobals "_law_labels" = some (some (.ref f16))) (l16 : K.lookup f16 = some ⟨oc16, od16, .func (PySem.W.fnOf "_law_labels" "_law_labels" (defArgs s__law_labels) (defBody s__law_labels) (defScope s__law_labels) .none kV16 dc16 pm16 an16 cd16 ct16), sl16⟩) (c16 : PySem.W.codeIn K cd16 "_law_labels" = true) (k16 : PySem.W.keepIn K (.ref f16) = true)
    {f17 : Addr} {od17 an17 : Option Addr} {sl17 : Array (Option Value)} {oc17 kV17 dc17 pm17 cd17 ct17 : Value}
    (a17 : PySem.W.nsIn K mainGlobals "greatest_size" = some (some (.ref f17))) (l17 : K.lookup f17 = some ⟨oc17, od17, .func (PySem.W.fnOf "greatest_size" "greatest_size" (defArgs s_greatest_size) (defBody s_greatest_size) (defScope s_greatest_size) .none kV17 dc17 pm17 an17 cd17 ct17), sl17⟩) (c17 : PySem.W.codeIn K cd17 "greatest_size" = true) (k17 : PySem.W.keepIn K (.ref f17) = true)
    {f18 : Addr} {od18 an18 : Option Addr} {sl18 : Array (Option Value)} {oc18 kV18 dc18 pm18 cd18 ct18 : Value}
    (a18 : PySem.W.nsIn K mainGlobals "_law_same" = some (some (.ref f18))) (l18 : K.lookup f18 = some ⟨oc18, od18, .func (PySem.W.fnOf "_law_same" "_law_same" (defArgs s__law_same) (defBody s__law_same) (defScope s__law_same) .none kV18 dc18 pm18 an18 cd18 ct18), sl18⟩) (c18 : PySem.W.codeIn K cd18 "_law_same" = true) (k18 : PySem.W.keepIn K (.ref f18) = true)
    {f19 : Addr} {od19 an19 : Option Addr} {sl19 : Array (Option Value)} {oc19 kV19 dc19 pm19 cd19 ct19 : Value}
    (a19 : PySem.W.nsIn K mainGlobals "law" = some (some (.ref f19))) (l19 : K.lookup f19 = some ⟨oc19, od19, .func (PySem.W.fnOf "law" "law" (defArgs s_law) (defBody s_law) (defScope s_law) .none kV19 dc19 pm19 an19 cd19 ct19), sl19⟩) (c19 : PySem.W.codeIn K cd19 "law" = true) (k19 : PySem.W.keepIn K (.ref f19) = true)
    (z_len : PySem.W.nsIn K mainGlobals "len" = some none)
    (z_int : PySem.W.nsIn K mainGlobals "int" = some none)
    (z_range : PySem.W.nsIn K mainGlobals "range" = some none)
    (z_min : PySem.W.nsIn K mainGlobals "min" = some none)
    (z_max : PySem.W.nsIn K mainGlobals "max" = some none)
    (z_any : PySem.W.nsIn K mainGlobals "any" = some none)
    (z_enumerate : PySem.W.nsIn K mainGlobals "enumerate" = some none)
    (z_reversed : PySem.W.nsIn K mainGlobals "reversed" = some none)
    (z_isinstance : PySem.W.nsIn K mainGlobals "isinstance" = some none)
    (z_str : PySem.W.nsIn K mainGlobals "str" = some none)
    (z_repr : PySem.W.nsIn K mainGlobals "repr" = some none)
    (z_bool : PySem.W.nsIn K mainGlobals "bool" = some none)
    (z_tuple : PySem.W.nsIn K mainGlobals "tuple" = some none)
    (z_list : PySem.W.nsIn K mainGlobals "list" = some none)
    : ∃ fd : FuncData, (∀ (s : Shared) (v : Value), BindsTo s fd ⟨[v], []⟩ [("script", v)]) ∧ ∀ base : Heap, K.In base → base.Ns mainGlobals mg → FnOk l.prog w K mg base CX0 14 fa fd ["script"] (spD K 1 S_law) := by
  have e := hfa.symm.trans (PySem.W.mg_of X G a19)
  cases e
  have y_len := PySem.W.mg_none_of X G z_len
  have y_int := PySem.W.mg_none_of X G z_int
  have y_range := PySem.W.mg_none_of X G z_range
  have y_min := PySem.W.mg_none_of X G z_min
  have y_max := PySem.W.mg_none_of X G z_max
  have y_any := PySem.W.mg_none_of X G z_any
  have y_enumerate := PySem.W.mg_none_of X G z_enumerate
  have y_reversed := PySem.W.mg_none_of X G z_reversed
  have y_isinstance := PySem.W.mg_none_of X G z_isinstance
  have y_str := PySem.W.mg_none_of X G z_str
  have y_repr := PySem.W.mg_none_of X G z_repr
  have y_bool := PySem.W.mg_none_of X G z_bool
  have y_tuple := PySem.W.mg_none_of X G z_tuple
  have y_list := PySem.W.mg_none_of X G z_list
  have F0 := fun_mk (st := s_box_for) l0 c0 k0
  have F1 := fun_mk (st := s_overlap) l1 c1 k1
  have F2 := fun_mk (st := s_covers) l2 c2 k2
  have F3 := fun_mk (st := s__law_cell) l3 c3 k3
  have F4 := fun_mk (st := s__law_draw) l4 c4 k4
  have F5 := fun_mk (st := s__law_boxes) l5 c5 k5
  have F6 := fun_mk (st := s__law_lap) l6 c6 k6
  have F7 := fun_mk (st := s__law_hides) l7 c7 k7
  have F8 := fun_mk (st := s__law_lies) l8 c8 k8
  have F9 := fun_mk (st := s_fits) l9 c9 k9
  have F10 := fun_mk (st := s__law_digits) l10 c10 k10
  have F11 := fun_mk (st := s__law_pick) l11 c11 k11
  have F12 := fun_mk (st := s__law_spots) l12 c12 k12
  have F13 := fun_mk (st := s__law_clashes) l13 c13 k13
  have F14 := fun_mk (st := s__law_lay) l14 c14 k14
  have F15 := fun_mk (st := s_first_laying) l15 c15 k15
  have F16 := fun_mk (st := s__law_labels) l16 c16 k16
  have F17 := fun_mk (st := s_greatest_size) l17 c17 k17
  have F18 := fun_mk (st := s__law_same) l18 c18 k18
  have F19 := fun_mk (st := s_law) l19 c19 k19
  refine ⟨PySem.W.fnOf "law" "law" (defArgs s_law) (defBody s_law) (defScope s_law) .none kV19 dc19 pm19 an19 cd19 ct19, fun s v => .of_eq rfl, fun base _ _ => ?_⟩
  have b0 := F0.binds (ps := ["town", "size", "place"]) fun _ _ _ _ _ _ us hl => match us, hl with | [_, _, _], _ => rfl
  have G_box_for : Dn l.prog w K mg base 1 "box_for" ["town", "size", "place"] LB.S_box_for := ⟨f0, _, FnD.imp (ok_box_for  F0) fun ds C Q _ h => LB.w_box_for h, PySem.W.mg_of X G a0, k0, b0⟩
  have b1 := F1.binds (ps := ["one", "other"]) fun _ _ _ _ _ _ us hl => match us, hl with | [_, _], _ => rfl
  have G_overlap : Dn l.prog w K mg base 1 "overlap" ["one", "other"] LB.S_overlap := ⟨f1, _, FnD.imp (ok_overlap  F1) fun ds C Q _ h => LB.w_overlap h, PySem.W.mg_of X G a1, k1, b1⟩
  have b2 := F2.binds (ps := ["box", "town"]) fun _ _ _ _ _ _ us hl => match us, hl with | [_, _], _ => rfl
  have G_covers : Dn l.prog w K mg base 1 "covers" ["box", "town"] LB.S_covers := ⟨f2, _, FnD.imp (ok_covers  F2) fun ds C Q _ h => LB.w_covers h, PySem.W.mg_of X G a2, k2, b2⟩
  have b3 := F3.binds (ps := ["script", "k"]) fun _ _ _ _ _ _ us hl => match us, hl with | [_, _], _ => rfl
  have G__law_cell : Dn l.prog w K mg base 1 "_law_cell" ["script", "k"] DL.S_cell := ⟨f3, _, FnD.imp (ok__law_cell y_len F3) fun ds C Q _ h => DL.w_cell h, PySem.W.mg_of X G a3, k3, b3⟩
  have b4 := F4.binds (ps := ["box", "many"]) fun _ _ _ _ _ _ us hl => match us, hl with | [_, _], _ => rfl
  have G__law_draw : Dn l.prog w K mg base 1 "_law_draw" ["box", "many"] DL.S_draw := ⟨f4, _, FnD.box (ok__law_draw y_len y_int F4) rfl fun b m xs c C Q h1 h2 h3 h4 => DL.w_draw h1 h2 h3 h4, PySem.W.mg_of X G a4, k4, b4⟩
  have b5 := F5.binds (ps := ["rows", "sizes"]) fun _ _ _ _ _ _ us hl => match us, hl with | [_, _], _ => rfl
  have G__law_boxes : Dn l.prog w K mg base 1 "_law_boxes" ["rows", "sizes"] LB.S__law_boxes := ⟨f5, _, FnD.imp (ok__law_boxes y_range y_len F5) fun ds C Q _ h => LB.w__law_boxes h, PySem.W.mg_of X G a5, k5, b5⟩
  have b6 := F6.binds (ps := ["one", "other"]) fun _ _ _ _ _ _ us hl => match us, hl with | [_, _], _ => rfl
  have G__law_lap : Dn l.prog w K mg base 1 "_law_lap" ["one", "other"] LB.S__law_lap := ⟨f6, _, FnD.imp (ok__law_lap y_min y_max F6) fun ds C Q _ h => LB.w__law_lap h, PySem.W.mg_of X G a6, k6, b6⟩
  have b7 := F7.binds (ps := ["label", "rows"]) fun _ _ _ _ _ _ us hl => match us, hl with | [_, _], _ => rfl
  have G__law_hides : Dn l.prog w K mg base 1 "_law_hides" ["label", "rows"] LB.S__law_hides := ⟨f7, _, FnD.imp (ok__law_hides  F7) fun ds C Q _ h => LB.w__law_hides h, PySem.W.mg_of X G a7, k7, b7⟩
  have b8 := F8.binds (ps := ["clashes", "row", "place"]) fun _ _ _ _ _ _ us hl => match us, hl with | [_, _, _], _ => rfl
  have G__law_lies : Dn l.prog w K mg base 1 "_law_lies" ["clashes", "row", "place"] LB.S__law_lies := ⟨f8, _, FnD.imp (ok__law_lies y_len y_range F8) fun ds C Q _ h => LB.w__law_lies h, PySem.W.mg_of X G a8, k8, b8⟩
  have b9 := F9.binds (ps := ["towns", "sizes", "row", "place"]) fun _ _ _ _ _ _ us hl => match us, hl with | [_, _, _, _], _ => rfl
  have G_fits : Dn l.prog w K mg base 2 "fits" ["towns", "sizes", "row", "place"] S_fits := ⟨f9, _, FnD.imp (ok_fits y_len y_any y_enumerate G_box_for G_covers G_overlap F9) fun ds C Q _ h => w_fits h, PySem.W.mg_of X G a9, k9, b9⟩
  have b10 := F10.binds (ps := ["script", "first", "last"]) fun _ _ _ _ _ _ us hl => match us, hl with | [_, _, _], _ => rfl
  have G__law_digits : Dn l.prog w K mg base 2 "_law_digits" ["script", "first", "last"] DL.S_digits := ⟨f10, _, FnD.imp (ok__law_digits y_range y_int G__law_cell F10) fun ds C Q _ h => DL.w_digits h, PySem.W.mg_of X G a10, k10, b10⟩
  have b11 := F11.binds (ps := ["box", "row"]) fun _ _ _ _ _ _ us hl => match us, hl with | [_, _], _ => rfl
  have G__law_pick : Dn l.prog w K mg base 2 "_law_pick" ["box", "row"] DL.S_pick := ⟨f11, _, FnD.imp (ok__law_pick y_int y_len G__law_draw F11) fun ds C Q _ h => DL.w_pick h, PySem.W.mg_of X G a11, k11, b11⟩
  have b12 := F12.binds (ps := ["box", "most", "wide"]) fun _ _ _ _ _ _ us hl => match us, hl with | [_, _, _], _ => rfl
  have G__law_spots : Dn l.prog w K mg base 2 "_law_spots" ["box", "most", "wide"] LB.S__law_spots := ⟨f12, _, FnD.imp (ok__law_spots y_range G__law_draw F12) fun ds C Q _ h => LB.w__law_spots h, PySem.W.mg_of X G a12, k12, b12⟩
  have b13 := F13.binds (ps := ["rows", "sizes"]) fun _ _ _ _ _ _ us hl => match us, hl with | [_, _], _ => rfl
  have G__law_clashes : Dn l.prog w K mg base 2 "_law_clashes" ["rows", "sizes"] LB.S__law_clashes := ⟨f13, _, FnD.imp (ok__law_clashes y_range y_len G__law_boxes G__law_hides G__law_lap F13) fun ds C Q _ h => LB.w__law_clashes h, PySem.W.mg_of X G a13, k13, b13⟩
  have b14 := F14.binds (ps := ["clashes", "allowed"]) fun _ _ _ _ _ _ us hl => match us, hl with | [_, _], _ => rfl
  have G__law_lay : Dn l.prog w K mg base 2 "_law_lay" ["clashes", "allowed"] S__law_lay := ⟨f14, _, FnD.weak (ok__law_lay y_range y_len y_reversed G__law_lies F14) fun ds C Q _ h => w_lay h, PySem.W.mg_of X G a14, k14, b14⟩
  have b15 := F15.binds (ps := ["towns", "sizes", "allowed"]) fun _ _ _ _ _ _ us hl => match us, hl with | [_, _, _], _ => rfl
  have G_first_laying : Dn l.prog w K mg base 3 "first_laying" ["towns", "sizes", "allowed"] S_first_laying := ⟨f15, _, FnD.weak (ok_first_laying y_len y_reversed G_fits F15) fun ds C Q _ h => w_first h, PySem.W.mg_of X G a15, k15, b15⟩
  have b16 := F16.binds (ps := ["box", "most", "wide"]) fun _ _ _ _ _ _ us hl => match us, hl with | [_, _, _], _ => rfl
  have G__law_labels : Dn l.prog w K mg base 3 "_law_labels" ["box", "most", "wide"] LB.S__law_labels := ⟨f16, _, FnD.imp (ok__law_labels G__law_spots G__law_draw F16) fun ds C Q _ h => LB.w__law_labels h, PySem.W.mg_of X G a16, k16, b16⟩
  have b17 := F17.binds (ps := ["towns", "sizes", "most"]) fun _ _ _ _ _ _ us hl => match us, hl with | [_, _, _], _ => rfl
  have G_greatest_size : Dn l.prog w K mg base 4 "greatest_size" ["towns", "sizes", "most"] S_greatest_size := ⟨f17, _, FnD.imp (ok_greatest_size y_range G_first_laying F17) fun ds C Q _ h => w_greatest h, PySem.W.mg_of X G a17, k17, b17⟩
  have b18 := F18.binds (ps := ["told", "due"]) fun _ _ _ _ _ _ us hl => match us, hl with | [_, _], _ => rfl
  have G__law_same : Dn l.prog w K mg base 13 "_law_same" ["told", "due"] (DL.S_same 12) := ⟨f18, _, same_lv (fun kk S g => ok__law_same y_isinstance y_str y_repr y_int y_bool y_tuple y_list y_len y_range g F18) (PySem.W.mg_of X G a18) k18 b18 12, PySem.W.mg_of X G a18, k18, b18⟩
  exact FnD.imp (ok_law y_range y_list y_max G__law_digits G__law_labels G__law_pick G__law_clashes G__law_lay G_first_laying G__law_same G_greatest_size F19) fun ds C Q _ h => w_law h
end K68
open PySem PySem.W PyProof.Rows
set_option maxHeartbeats 0 in
theorem PySem.Challenge.cw_maplands_k68_whole_first_ways_to_lay_nam_holds : PySem.Challenge.rw_maplands_k68_whole_first_ways_to_lay_nam.Holds := by
  w_on; o_law; k_head; (case hw => w_witness2)
  k_fill
  refine L2.walk_of (l := PySem.Challenge.rw_maplands_k68_whole_first_ways_to_lay_nam) (n := 63) (k := 14) (x := "script") (CX := fun _ => L2.CX0) (sp := fun w => DL.spD _ 1 K68.S_law) rfl (by decide) rfl ⟨rfl, by decide, by decide⟩ (fun w h Y => PySem.W.kIn_of Y) ?F (fun _ _ a ns _ _ hS => DL.law_sp (fun Q q => ⟨ns, rfl, q⟩) hS) (fun _ _ _ _ _ h => h)
  case F =>
    intro w mg fa h KX G hmg
    refine' K68.all_mk KX G hmg ?a0 ?l0 ?c0 ?k0 ?a1 ?l1 ?c1 ?k1 ?a2 ?l2 ?c2 ?k2 ?a3 ?l3 ?c3 ?k3 ?a4 ?l4 ?c4 ?k4 ?a5 ?l5 ?c5 ?k5 ?a6 ?l6 ?c6 ?k6 ?a7 ?l7 ?c7 ?k7 ?a8 ?l8 ?c8 ?k8 ?a9 ?l9 ?c9 ?k9 ?a10 ?l10 ?c10 ?k10 ?a11 ?l11 ?c11 ?k11 ?a12 ?l12 ?c12 ?k12 ?a13 ?l13 ?c13 ?k13 ?a14 ?l14 ?c14 ?k14 ?a15 ?l15 ?c15 ?k15 ?a16 ?l16 ?c16 ?k16 ?a17 ?l17 ?c17 ?k17 ?a18 ?l18 ?c18 ?k18 ?a19 ?l19 ?c19 ?k19 ?z_len ?z_int ?z_range ?z_min ?z_max ?z_any ?z_enumerate ?z_reversed ?z_isinstance ?z_str ?z_repr ?z_bool ?z_tuple ?z_list
    (case a0 => k_is)
    (case l0 => k_is)
    (case c0 => k_is)
    (case k0 => k_is)
    (case a1 => k_is)
    (case l1 => k_is)
    (case c1 => k_is)
    (case k1 => k_is)
    (case a2 => k_is)
    (case l2 => k_is)
    (case c2 => k_is)
    (case k2 => k_is)
    (case a3 => k_is)
    (case l3 => k_is)
    (case c3 => k_is)
    (case k3 => k_is)
    (case a4 => k_is)
    (case l4 => k_is)
    (case c4 => k_is)
    (case k4 => k_is)
    (case a5 => k_is)
    (case l5 => k_is)
    (case c5 => k_is)
    (case k5 => k_is)
    (case a6 => k_is)
    (case l6 => k_is)
    (case c6 => k_is)
    (case k6 => k_is)
    (case a7 => k_is)
    (case l7 => k_is)
    (case c7 => k_is)
    (case k7 => k_is)
    (case a8 => k_is)
    (case l8 => k_is)
    (case c8 => k_is)
    (case k8 => k_is)
    (case a9 => k_is)
    (case l9 => k_is)
    (case c9 => k_is)
    (case k9 => k_is)
    (case a10 => k_is)
    (case l10 => k_is)
    (case c10 => k_is)
    (case k10 => k_is)
    (case a11 => k_is)
    (case l11 => k_is)
    (case c11 => k_is)
    (case k11 => k_is)
    (case a12 => k_is)
    (case l12 => k_is)
    (case c12 => k_is)
    (case k12 => k_is)
    (case a13 => k_is)
    (case l13 => k_is)
    (case c13 => k_is)
    (case k13 => k_is)
    (case a14 => k_is)
    (case l14 => k_is)
    (case c14 => k_is)
    (case k14 => k_is)
    (case a15 => k_is)
    (case l15 => k_is)
    (case c15 => k_is)
    (case k15 => k_is)
    (case a16 => k_is)
    (case l16 => k_is)
    (case c16 => k_is)
    (case k16 => k_is)
    (case a17 => k_is)
    (case l17 => k_is)
    (case c17 => k_is)
    (case k17 => k_is)
    (case a18 => k_is)
    (case l18 => k_is)
    (case c18 => k_is)
    (case k18 => k_is)
    (case a19 => k_is)
    (case l19 => k_is)
    (case c19 => k_is)
    (case k19 => k_is)
    (case z_len => k_is)
    (case z_int => k_is)
    (case z_range => k_is)
    (case z_min => k_is)
    (case z_max => k_is)
    (case z_any => k_is)
    (case z_enumerate => k_is)
    (case z_reversed => k_is)
    (case z_isinstance => k_is)
    (case z_str => k_is)
    (case z_repr => k_is)
    (case z_bool => k_is)
    (case z_tuple => k_is)
    (case z_list => k_is)


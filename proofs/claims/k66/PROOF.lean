import PyProof.Rows.All
import Wide.All
import OpenK.AllK
import Wide.FinOn
import HandS.ForExc
import HandS.Comp
import HandS.Iter
import HandS.Text
import HandS.Wide
import HandS.WideBits
import HandS.SortInts
import HandS.SortKw
import HandS.IsInst
import HandS.TryMany
import HandS.ExcIs
import HandS.ExcValue
import HandS.EndBits
import HandS.Style
import HandS.Deep
import HandS.Walk
import HandS.CallSlots
import HandS.ExcOwn
import HandS.Defaults
import KE.KTryMore
import HandS.Rev
import HandS.SetFor
import HandS.SortRule
import KE.OsArith
import PyProof.Rows.ReprOcc
import KE.KIntText
import PySem.Challenge.RW_shoutline_k66_books_written
set_option Elab.async false
set_option linter.all false
set_option maxRecDepth 100000
set_option maxHeartbeats 4000000
namespace Ev
open PySem L2

/-! ## Data: Python values as trees. A list's flag says whether its holder alone may reach it (so it may be changed in place). -/
inductive D where
  | non | bl (b : Bool) | int (i : Int) | str (s : Str)
  | tup (ds : List D) | lst (own : Bool) (ds : List D)
  | scr (ns : List Int)
  | obj (c : String) (ns : List String) (ds : List D)
  | exc (c : String) | cls (c : String) | ty (n : String)
  | dct (own : Bool) (kvs : List (Int × Int))
  | hid (a : Addr)
  | at (a : Addr) (d : D)
  deriving Inhabited

mutual
/-- the same, read by somebody who may not change it -/
def share : D → D
  | .tup ds => .tup (shares ds)
  | .lst _ ds => .lst false (shares ds)
  | .dct _ kvs => .dct false kvs
  | .at a d => .at a (share d)
  | d => d
def shares : List D → List D
  | [] => []
  | d :: r => share d :: shares r
end
mutual
/-- no list within that another name may hold -/
def noFrz : D → Bool
  | .tup ds => noFrzs ds
  | .lst o ds => o && noFrzs ds
  | .obj _ _ ds => noFrzs ds
  | .dct o _ => o
  | .at _ d => noFrz d
  | _ => true
def noFrzs : List D → Bool
  | [] => true
  | d :: r => noFrz d && noFrzs r
end
mutual
/-- without the tags -/
def untag : D → D
  | .tup ds => .tup (untags ds)
  | .lst o ds => .lst o (untags ds)
  | .at _ d => untag d
  | d => d
def untags : List D → List D
  | [] => []
  | d :: r => untag d :: untags r
end
theorem shares_map : ∀ ds, shares ds = ds.map share
  | [] => rfl
  | d :: r => by rw [shares, shares_map r]; rfl

/-- an exception that was caught, its class cls, at a -/
def ExT (cls : Value) (a : Addr) : HO := .ext fun h => ∃ (oe : Obj) (vs : Array Value), h.get? a = some oe ∧ Zc cls none oe ∧ oe.data = .fields vs
theorem exT_ok {P : Program} {w : World} {H : Hp} {h : Heap} {a : Addr} {cls : Value} {oe : Obj} {vs : Array Value} (e : h.get? a = some oe) (z : Zc cls none oe) (d : oe.data = .fields vs) : ObjOk P w H h a (ExT cls a) :=
  ⟨⟨oe, vs, e, z, d⟩, ⟨oe, e⟩, fun _ _ ⟨o, v, q, r⟩ k => ⟨o, v, k o q, r⟩⟩
/-- the script: a list that nobody may change -/
def ScL (K : PySem.W.Frag) (H : Hp) (a : Addr) (xs : List V) : Prop := (∃ o, H a = some (.frz o (.lst xs))) ∨ SqL K (fun _ => none) a xs
theorem ScL.sql {K : PySem.W.Frag} {H : Hp} {a : Addr} {xs : List V} (h : ScL K H a xs) : SqL K H a xs := by
  rcases h with h | h
  · exact .inl (.inr h)
  · rcases h with h | h
    · rcases h with h | ⟨o, h⟩
      · cases h
      · cases h
    · exact .inr h
def fieldsOf (ns : List String) (vs : List V) : List (Str × V) := (ns.map Str.ofString).zip vs

/-- a dict of whole numbers as the heap holds it -/
def dkv (kvs : List (Int × Int)) : List (Key × V) := kvs.map fun p => (Sum.inl p.1, V.int p.2)
/-- what a place that is owned may hold: a list or a dict -/
def LD (o : HO) : Prop := (∃ xs, o = .lst xs) ∨ ∃ kvs, o = .dK kvs
theorem LD.l {xs : List V} : LD (.lst xs) := .inl ⟨_, rfl⟩
theorem LD.d {kvs : List (Key × V)} : LD (.dK kvs) := .inr ⟨_, rfl⟩
/-- of an instance: its class is plain, its fields' names are none of the class's -/
structure ObjI (K : PySem.W.Frag) (C : Addr) (ns : List String) (ds : List D) : Prop where
  cl : Cls K C
  no : ∀ f ∈ ns, NoAttr K C (Str.ofString f)
  len : ns.length = ds.length
  few : ns.length < 1000
  nd : ns.Nodup
mutual
/-- v stands for d in the heap H; F: the lists that only v leads to; P: places that a shared list must not be -/
inductive Rep (K : PySem.W.Frag) (ca : String → Option Addr) (H : Hp) (P : Addr → Prop) : D → V → List Addr → Prop
  | non : Rep K ca H P .non .non []
  | bl (b : Bool) : Rep K ca H P (.bl b) (.bl b) []
  | int (i : Int) : Rep K ca H P (.int i) (.int i) []
  | str (s : Str) : Rep K ca H P (.str s) (.str s) []
  | tup {a : Addr} {ds : List D} {vs : List V} {F : List Addr} (h : SqT K H a vs) (r : Reps K ca H P ds vs F) : Rep K ca H P (.tup ds) (.ref a) F
  | own {a : Addr} {ds : List D} {vs : List V} {F : List Addr} (h : H a = some (.lst vs)) (r : Reps K ca H P ds vs F) : Rep K ca H P (.lst true ds) (.ref a) (a :: F)
  | frz {a : Addr} {ds : List D} {vs : List V} (h : H a = some (.lst vs)) (p : ¬ P a) (r : Reps K ca H P ds vs []) : Rep K ca H P (.lst false ds) (.ref a) []
  | scr {a : Addr} {ns : List Int} (h : ScL K H a (ns.map V.int)) : Rep K ca H P (.scr ns) (.ref a) []
  | obj {a C dx : Addr} {c : String} {ns : List String} {ds : List D} {vs : List V} (hc : ca c = some C) (h : H a = some (.ins C dx (fieldsOf ns vs))) (i : ObjI K C ns ds) (p : ¬ P a) (r : Reps K ca H P ds vs []) : Rep K ca H P (.obj c ns ds) (.ref a) []
  | exc {a C : Addr} {c : String} (hc : ca c = some C) (h : H a = some (ExT (.ref C) a)) : Rep K ca H P (.exc c) (.ref a) []
  | cls {C : Addr} {c : String} (hc : ca c = some C) : Rep K ca H P (.cls c) (.ref C) []
  | ty (n : String) : Rep K ca H P (.ty n) (.ty n) []
  | dow {a : Addr} {kvs : List (Int × Int)} (h : H a = some (.dK (dkv kvs))) : Rep K ca H P (.dct true kvs) (.ref a) [a]
  | dfz {a : Addr} {kvs : List (Int × Int)} (h : H a = some (.dK (dkv kvs))) (p : ¬ P a) : Rep K ca H P (.dct false kvs) (.ref a) []
  | hid (a : Addr) : Rep K ca H P (.hid a) (.ref a) []
  | at {a : Addr} {d : D} {F : List Addr} (r : Rep K ca H P d (.ref a) F) : Rep K ca H P (.at a d) (.ref a) F
inductive Reps (K : PySem.W.Frag) (ca : String → Option Addr) (H : Hp) (P : Addr → Prop) : List D → List V → List Addr → Prop
  | nil : Reps K ca H P [] [] []
  | cons {d : D} {v : V} {F : List Addr} {ds : List D} {vs : List V} {F' : List Addr} (h : Rep K ca H P d v F) (r : Reps K ca H P ds vs F') : Reps K ca H P (d :: ds) (v :: vs) (F ++ F')
end

/-- all that is tracked stays -/
def Ex (H H' : Hp) : Prop := ∀ a o, H a = some o → H' a = some o
theorem Ex.refl (H : Hp) : Ex H H := fun _ _ h => h
theorem Ex.trans {H H1 H2 : Hp} (a : Ex H H1) (b : Ex H1 H2) : Ex H H2 := fun x o h => b x o (a x o h)
theorem Ex.new {H : Hp} {p : Addr} {o : HO} (h : H p = none) : Ex H (upd H p o) := fun a u e => by
  rw [upd_ne (ne_of_none e h)]; exact e
theorem Ex.back {H H' : Hp} (e : Ex H H') {p : Addr} (h : H' p = none) : H p = none := by
  cases q : H p with
  | none => rfl
  | some o => rw [e p o q] at h; cases h
theorem Ex.rd {H H' : Hp} {a : Addr} {u : HO} (e : Ex H H') (h : Rd H a u) : Rd H' a u := by
  rcases h with h | ⟨o, h⟩
  · exact Or.inl (e a _ h)
  · exact Or.inr ⟨o, e a _ h⟩
theorem Ex.sqt {K : PySem.W.Frag} {H H' : Hp} {a : Addr} {xs : List V} (e : Ex H H') (h : SqT K H a xs) : SqT K H' a xs := by
  rcases h with h | h
  · exact Or.inl (e.rd h)
  · exact Or.inr h
theorem Ex.sql {K : PySem.W.Frag} {H H' : Hp} {a : Addr} {xs : List V} (e : Ex H H') (h : SqL K H a xs) : SqL K H' a xs := by
  rcases h with h | h
  · exact Or.inl (e.rd h)
  · exact Or.inr h

section
variable {K : PySem.W.Frag} {ca : String → Option Addr} {H H' : Hp} {P P' : Addr → Prop}

mutual
theorem rep_untag : ∀ {d : D} {v : V} {F : List Addr}, Rep K ca H P d v F → Rep K ca H P (untag d) v F
  | _, _, _, .tup h r => .tup h (reps_untag r)
  | _, _, _, .own h r => .own h (reps_untag r)
  | _, _, _, .non => .non
  | _, _, _, .bl _ => .bl _
  | _, _, _, .int _ => .int _
  | _, _, _, .str _ => .str _
  | _, _, _, .frz h p r => .frz h p (reps_untag r)
  | _, _, _, .scr h => .scr h
  | _, _, _, .obj hc h i p r => .obj hc h i p r
  | _, _, _, .exc hc h => .exc hc h
  | _, _, _, .cls hc => .cls hc
  | _, _, _, .ty _ => .ty _
  | _, _, _, .hid _ => .hid _
  | _, _, _, .at r => by
    have q := rep_untag r
    rw [untag]
    exact q
  | _, _, _, .dow h => .dow h
  | _, _, _, .dfz h p => .dfz h p
theorem reps_untag : ∀ {ds : List D} {vs : List V} {F : List Addr}, Reps K ca H P ds vs F → Reps K ca H P (untags ds) vs F
  | _, _, _, .nil => .nil
  | _, _, _, .cons h r => .cons (rep_untag h) (reps_untag r)
end
theorem Reps.length {ds : List D} {vs : List V} {F : List Addr} (r : Reps K ca H P ds vs F) : ds.length = vs.length := by
  induction ds generalizing vs F with
  | nil => cases r; rfl
  | cons d r ih => cases r with | cons h r => simp [ih r]

mutual
theorem Rep.tracked : ∀ {d : D} {v : V} {F : List Addr}, Rep K ca H P d v F → ∀ a ∈ F, ∃ o, H a = some o ∧ LD o
  | _, _, _, .tup _ r, a, m => Reps.tracked r a m
  | _, _, _, .own h r, a, m => by
    rcases List.mem_cons.mp m with e | m
    · subst e; exact ⟨_, h, .l⟩
    · exact Reps.tracked r a m
  | _, _, _, .non, a, m => by simp at m
  | _, _, _, .bl _, a, m => by simp at m
  | _, _, _, .int _, a, m => by simp at m
  | _, _, _, .str _, a, m => by simp at m
  | _, _, _, .frz _ _ _, a, m => by simp at m
  | _, _, _, .scr _, a, m => by simp at m
  | _, _, _, .obj _ _ _ _ _, a, m => by simp at m
  | _, _, _, .exc _ _, a, m => by simp at m
  | _, _, _, .cls _, a, m => by simp at m
  | _, _, _, .ty _, a, m => by simp at m
  | _, _, _, .hid _, a, m => by simp at m
  | _, _, _, .at r, a, m => Rep.tracked r a m
  | _, _, _, .dow h, a, m => by rw [List.mem_singleton.mp m]; exact ⟨_, h, .d⟩
  | _, _, _, .dfz _ _, a, m => by simp at m
theorem Reps.tracked : ∀ {ds : List D} {vs : List V} {F : List Addr}, Reps K ca H P ds vs F → ∀ a ∈ F, ∃ o, H a = some o ∧ LD o
  | _, _, _, .nil, a, m => by simp at m
  | _, _, _, .cons h r, a, m => by
    rcases List.mem_append.mp m with m | m
    · exact Rep.tracked h a m
    · exact Reps.tracked r a m
end

end
theorem Ex.scl {K : PySem.W.Frag} {H H' : Hp} {a : Addr} {xs : List V} (e : Ex H H') (h : ScL K H a xs) : ScL K H' a xs := by
  rcases h with ⟨o, h⟩ | h
  · exact .inl ⟨o, e _ _ h⟩
  · exact .inr h

section
variable {K : PySem.W.Frag} {ca : String → Option Addr} {H H' : Hp} {P P' : Addr → Prop}
mutual
/-- the heap has grown -/
theorem Rep.ext (e : Ex H H') : ∀ {d : D} {v : V} {F : List Addr}, Rep K ca H P d v F → Rep K ca H' P d v F
  | _, _, _, .tup h r => .tup (e.sqt h) (Reps.ext e r)
  | _, _, _, .own h r => .own (e _ _ h) (Reps.ext e r)
  | _, _, _, .non => .non
  | _, _, _, .bl _ => .bl _
  | _, _, _, .int _ => .int _
  | _, _, _, .str _ => .str _
  | _, _, _, .frz h p r => .frz (e _ _ h) p (Reps.ext e r)
  | _, _, _, .scr h => .scr (e.scl h)
  | _, _, _, .obj hc h i p r => .obj hc (e _ _ h) i p (Reps.ext e r)
  | _, _, _, .exc hc h => .exc hc (e _ _ h)
  | _, _, _, .cls hc => .cls hc
  | _, _, _, .ty _ => .ty _
  | _, _, _, .hid _ => .hid _
  | _, _, _, .at r => .at (Rep.ext e r)
  | _, _, _, .dow h => .dow (e _ _ h)
  | _, _, _, .dfz h p => .dfz (e _ _ h) p
theorem Reps.ext (e : Ex H H') : ∀ {ds : List D} {vs : List V} {F : List Addr}, Reps K ca H P ds vs F → Reps K ca H' P ds vs F
  | _, _, _, .nil => .nil
  | _, _, _, .cons h r => .cons (Rep.ext e h) (Reps.ext e r)
end
mutual
/-- other forbidden places: fewer, or ones that are not tracked yet -/
theorem Rep.forb (hP : ∀ a, P' a → P a ∨ H a = none) : ∀ {d : D} {v : V} {F : List Addr}, Rep K ca H P d v F → Rep K ca H P' d v F
  | _, _, _, .tup h r => .tup h (Reps.forb hP r)
  | _, _, _, .own h r => .own h (Reps.forb hP r)
  | _, _, _, .non => .non
  | _, _, _, .bl _ => .bl _
  | _, _, _, .int _ => .int _
  | _, _, _, .str _ => .str _
  | _, _, _, .frz h p r => .frz h (fun z => (hP _ z).elim p fun n => by rw [n] at h; cases h) (Reps.forb hP r)
  | _, _, _, .scr h => .scr h
  | _, _, _, .obj hc h i p r => .obj hc h i (fun z => (hP _ z).elim p fun n => by rw [n] at h; cases h) (Reps.forb hP r)
  | _, _, _, .exc hc h => .exc hc h
  | _, _, _, .cls hc => .cls hc
  | _, _, _, .ty _ => .ty _
  | _, _, _, .hid _ => .hid _
  | _, _, _, .at r => .at (Rep.forb hP r)
  | _, _, _, .dow h => .dow h
  | _, _, _, .dfz h p => .dfz h (fun z => (hP _ z).elim p fun n => by rw [n] at h; cases h)
theorem Reps.forb (hP : ∀ a, P' a → P a ∨ H a = none) : ∀ {ds : List D} {vs : List V} {F : List Addr}, Reps K ca H P ds vs F → Reps K ca H P' ds vs F
  | _, _, _, .nil => .nil
  | _, _, _, .cons h r => .cons (Rep.forb hP h) (Reps.forb hP r)
end
mutual
/-- handed on to somebody who only reads -/
theorem Rep.shr (hP : ∀ a, P' a → P a) : ∀ {d : D} {v : V} {F : List Addr}, (∀ a ∈ F, ¬ P' a) → Rep K ca H P d v F → Rep K ca H P' (share d) v []
  | _, _, _, hF, .tup h r => .tup h (Reps.shr hP hF r)
  | _, _, _, hF, .own h r => .frz h (hF _ (List.mem_cons_self ..)) (Reps.shr hP (fun a m => hF a (List.mem_cons_of_mem _ m)) r)
  | _, _, _, _, .non => .non
  | _, _, _, _, .bl _ => .bl _
  | _, _, _, _, .int _ => .int _
  | _, _, _, _, .str _ => .str _
  | _, _, _, _, .frz h p r => .frz h (fun z => p (hP _ z)) (Reps.shr hP (by simp) r)
  | _, _, _, _, .scr h => .scr h
  | _, _, _, _, .obj hc h i p r => .obj hc h i (fun z => p (hP _ z)) (Reps.forb (fun a z => .inl (hP a z)) r)
  | _, _, _, _, .exc hc h => .exc hc h
  | _, _, _, _, .cls hc => .cls hc
  | _, _, _, _, .ty _ => .ty _
  | _, _, _, _, .hid _ => .hid _
  | _, _, _, n, .at r => .at (Rep.shr hP n r)
  | _, _, _, hF, .dow h => .dfz h (hF _ (List.mem_cons_self ..))
  | _, _, _, _, .dfz h p => .dfz h (fun z => p (hP _ z))
theorem Reps.shr (hP : ∀ a, P' a → P a) : ∀ {ds : List D} {vs : List V} {F : List Addr}, (∀ a ∈ F, ¬ P' a) → Reps K ca H P ds vs F → Reps K ca H P' (shares ds) vs []
  | _, _, _, _, .nil => .nil
  | _, _, _, hF, .cons h r => .cons (F := []) (F' := []) (Rep.shr hP (fun a m => hF a (List.mem_append_left _ m)) h) (Reps.shr hP (fun a m => hF a (List.mem_append_right _ m)) r)
end
mutual
/-- where no shared list lies within, places of lists may be forbidden, too -/
theorem Rep.free (hP : ∀ a, P' a → P a ∨ H a = none ∨ ∃ o, H a = some o ∧ LD o) : ∀ {d : D} {v : V} {F : List Addr}, noFrz d = true → Rep K ca H P d v F → Rep K ca H P' d v F
  | _, _, _, n, .tup h r => .tup h (Reps.free hP n r)
  | _, _, _, n, .own h r => .own h (Reps.free hP (by simpa [noFrz] using n) r)
  | _, _, _, _, .non => .non
  | _, _, _, _, .bl _ => .bl _
  | _, _, _, _, .int _ => .int _
  | _, _, _, _, .str _ => .str _
  | _, _, _, n, .frz h p r => by simp [noFrz] at n
  | _, _, _, _, .scr h => .scr h
  | _, _, _, n, .obj hc h i p r => .obj hc h i (fun z => by
      rcases hP _ z with z | z | ⟨w, z, l⟩
      · exact p z
      · rw [z] at h; cases h
      · rw [z] at h; cases h; rcases l with ⟨_, l⟩ | ⟨_, l⟩ <;> cases l) (Reps.free hP n r)
  | _, _, _, _, .exc hc h => .exc hc h
  | _, _, _, _, .cls hc => .cls hc
  | _, _, _, _, .ty _ => .ty _
  | _, _, _, _, .hid _ => .hid _
  | _, _, _, n, .at r => .at (Rep.free hP n r)
  | _, _, _, _, .dow h => .dow h
  | _, _, _, n, .dfz h p => by simp [noFrz] at n
theorem Reps.free (hP : ∀ a, P' a → P a ∨ H a = none ∨ ∃ o, H a = some o ∧ LD o) : ∀ {ds : List D} {vs : List V} {F : List Addr}, noFrzs ds = true → Reps K ca H P ds vs F → Reps K ca H P' ds vs F
  | _, _, _, _, .nil => .nil
  | _, _, _, n, .cons h r => by
    simp only [noFrzs, Bool.and_eq_true] at n
    exact .cons (Rep.free hP n.1 h) (Reps.free hP n.2 r)
end
/-- a list that stands nowhere within is changed -/
theorem sqt_upd {p a : Addr} {o w : HO} {xs : List V} (hp : H p = some w) (hw : LD w) (h : SqT K H a xs) : SqT K (upd H p o) a xs := by
  rcases h with (h | ⟨u, h⟩) | h
  · exact .inl (.inl (by rw [upd_ne (ne_of h hp (by intro z; rw [← z] at hw; rcases hw with ⟨_, q⟩ | ⟨_, q⟩ <;> cases q))]; exact h))
  · exact .inl (.inr ⟨u, by rw [upd_ne (ne_of h hp (by intro z; rw [← z] at hw; rcases hw with ⟨_, q⟩ | ⟨_, q⟩ <;> cases q))]; exact h⟩)
  · exact .inr h
theorem scl_upd {p a : Addr} {o w : HO} {xs : List V} (hp : H p = some w) (hw : LD w) (h : ScL K H a xs) : ScL K (upd H p o) a xs := by
  rcases h with ⟨u, h⟩ | h
  · exact .inl ⟨u, by rw [upd_ne (ne_of h hp (by intro z; rw [← z] at hw; rcases hw with ⟨_, q⟩ | ⟨_, q⟩ <;> cases q))]; exact h⟩
  · exact .inr h
mutual
theorem Rep.updG {p : Addr} {o w : HO} (hp : H p = some w) (hw : LD w) (pp : P p) : ∀ {d : D} {v : V} {F : List Addr}, p ∉ F → Rep K ca H P d v F → Rep K ca (L2.upd H p o) P d v F
  | _, _, _, n, .tup h r => .tup (sqt_upd hp hw h) (Reps.updG hp hw pp n r)
  | _, _, _, n, .own h r => .own (by rw [upd_ne (fun z => n (by rw [z]; exact List.mem_cons_self ..))]; exact h) (Reps.updG hp hw pp (fun m => n (List.mem_cons_of_mem _ m)) r)
  | _, _, _, _, .non => .non
  | _, _, _, _, .bl _ => .bl _
  | _, _, _, _, .int _ => .int _
  | _, _, _, _, .str _ => .str _
  | _, _, _, n, .frz h q r => .frz (by rw [upd_ne (fun z => q (by rw [z]; exact pp))]; exact h) q (Reps.updG hp hw pp n r)
  | _, _, _, _, .scr h => .scr (scl_upd hp hw h)
  | _, _, _, n, .obj hc h i q r => .obj hc (by rw [upd_ne (ne_of h hp (by intro z; rw [← z] at hw; rcases hw with ⟨_, q⟩ | ⟨_, q⟩ <;> cases q))]; exact h) i q (Reps.updG hp hw pp n r)
  | _, _, _, _, .exc hc h => .exc hc (by rw [upd_ne (ne_of h hp (by intro z; rw [← z] at hw; rcases hw with ⟨_, q⟩ | ⟨_, q⟩ <;> cases q))]; exact h)
  | _, _, _, _, .cls hc => .cls hc
  | _, _, _, _, .ty _ => .ty _
  | _, _, _, _, .hid _ => .hid _
  | _, _, _, n, .at r => .at (Rep.updG hp hw pp n r)
  | _, _, _, n, .dow h => .dow (by rw [upd_ne (fun z => n (by rw [z]; exact List.mem_cons_self ..))]; exact h)
  | _, _, _, n, .dfz h q => .dfz (by rw [upd_ne (fun z => q (by rw [z]; exact pp))]; exact h) q
theorem Reps.updG {p : Addr} {o w : HO} (hp : H p = some w) (hw : LD w) (pp : P p) : ∀ {ds : List D} {vs : List V} {F : List Addr}, p ∉ F → Reps K ca H P ds vs F → Reps K ca (L2.upd H p o) P ds vs F
  | _, _, _, _, .nil => .nil
  | _, _, _, n, .cons h r => .cons (Rep.updG hp hw pp (fun m => n (List.mem_append_left _ m)) h) (Reps.updG hp hw pp (fun m => n (List.mem_append_right _ m)) r)
end
theorem Rep.upd {p : Addr} {ws : List V} {o : HO} (hp : H p = some (.lst ws)) (pp : P p) {d : D} {v : V} {F : List Addr} (n : p ∉ F) (r : Rep K ca H P d v F) : Rep K ca (L2.upd H p o) P d v F := Rep.updG hp .l pp n r
theorem Reps.upd {p : Addr} {ws : List V} {o : HO} (hp : H p = some (.lst ws)) (pp : P p) {d : List D} {v : List V} {F : List Addr} (n : p ∉ F) (r : Reps K ca H P d v F) : Reps K ca (L2.upd H p o) P d v F := Reps.updG hp .l pp n r
theorem Reps.append {ds es : List D} {vs us : List V} {F F' : List Addr} (r : Reps K ca H P ds vs F) (q : Reps K ca H P es us F') : Reps K ca H P (ds ++ es) (vs ++ us) (F ++ F') := by
  induction ds generalizing vs F with
  | nil => cases r; exact q
  | cons d ds ih =>
    cases r with
    | cons h r => rw [List.append_assoc]; exact .cons h (ih r)
/-- things without own lists, each for itself -/
theorem Reps.nil_iff {ds : List D} {vs : List V} : Reps K ca H P ds vs [] ↔ ds.length = vs.length ∧ ∀ (i : Nat) (d : D) (v : V), ds[i]? = some d → vs[i]? = some v → Rep K ca H P d v [] := by
  induction ds generalizing vs with
  | nil =>
    constructor
    · intro r; cases r; simp
    · rintro ⟨h, _⟩
      cases vs with
      | nil => exact .nil
      | cons v vs => simp at h
  | cons d ds ih =>
    constructor
    · intro r
      generalize e : ([] : List Addr) = F at r
      cases r with
      | @cons _ v F1 _ vs F2 h r =>
        obtain ⟨e1, e2⟩ := List.append_eq_nil_iff.mp e.symm
        subst e1 e2
        obtain ⟨l, q⟩ := ih.mp r
        refine ⟨by simp [l], fun i d' v' a b => ?_⟩
        cases i with
        | zero => simp at a b; rw [← a, ← b]; exact h
        | succ i => exact q i d' v' (by simpa using a) (by simpa using b)
    · rintro ⟨l, q⟩
      cases vs with
      | nil => simp at l
      | cons v vs =>
        exact .cons (F := []) (F' := []) (q 0 d v rfl rfl) (ih.mpr ⟨by simpa using l, fun i d' v' a b => q (i + 1) d' v' (by simpa using a) (by simpa using b)⟩)
theorem Reps.at_ {ds : List D} {vs : List V} {i : Nat} {d : D} {v : V} (r : Reps K ca H P ds vs []) (a : ds[i]? = some d) (b : vs[i]? = some v) : Rep K ca H P d v [] := (Reps.nil_iff.mp r).2 i d v a b
theorem Reps.get {ds : List D} {vs : List V} {i : Nat} {d : D} (r : Reps K ca H P ds vs []) (a : ds[i]? = some d) : ∃ v, vs[i]? = some v ∧ Rep K ca H P d v [] := by
  have l := r.length
  have hi : i < vs.length := by rw [← l]; exact (List.getElem?_eq_some_iff.mp a).1
  exact ⟨vs[i], by simp [hi], r.at_ a (by simp [hi])⟩
theorem Reps.drop {ds : List D} {vs : List V} (r : Reps K ca H P ds vs []) (n : Nat) : Reps K ca H P (ds.drop n) (vs.drop n) [] := by
  obtain ⟨l, q⟩ := Reps.nil_iff.mp r
  exact Reps.nil_iff.mpr ⟨by simp [l], fun i d v a b => q (n + i) d v (by rw [List.getElem?_drop] at a; exact a) (by rw [List.getElem?_drop] at b; exact b)⟩
theorem Reps.take {ds : List D} {vs : List V} (r : Reps K ca H P ds vs []) (n : Nat) : Reps K ca H P (ds.take n) (vs.take n) [] := by
  obtain ⟨l, q⟩ := Reps.nil_iff.mp r
  refine Reps.nil_iff.mpr ⟨by simp [l], fun i d v a b => ?_⟩
  rw [List.getElem?_take] at a b
  split at a
  · rename_i hi
    rw [if_pos hi] at b
    exact q i d v a b
  · cases a
theorem Reps.reverse {ds : List D} {vs : List V} (r : Reps K ca H P ds vs []) : Reps K ca H P ds.reverse vs.reverse [] := by
  obtain ⟨l, q⟩ := Reps.nil_iff.mp r
  refine Reps.nil_iff.mpr ⟨by simp [l], fun i d v a b => ?_⟩
  have hi : i < ds.length := by simpa using (List.getElem?_eq_some_iff.mp a).1
  rw [List.getElem?_reverse hi] at a
  rw [List.getElem?_reverse (by omega), ← l] at b
  exact q _ d v a b
/-- ints -/
theorem Reps.ints (ns : List Int) : Reps K ca H P (ns.map .int) (ns.map V.int) [] :=
  Reps.nil_iff.mpr ⟨by simp, fun i d v a b => by
    rw [List.getElem?_map] at a b
    cases e : ns[i]? with
    | none => rw [e] at a; cases a
    | some n => rw [e] at a b; cases a; cases b; exact .int n⟩
/-- an instance that stands nowhere within is changed -/
theorem sqt_updI {p a C dx : Addr} {fs : List (Str × V)} {o : HO} {xs : List V} (hp : H p = some (.ins C dx fs)) (h : SqT K H a xs) : SqT K (L2.upd H p o) a xs := by
  rcases h with (h | ⟨u, h⟩) | h
  · exact .inl (.inl (by rw [upd_ne (ne_of h hp (by intro z; cases z))]; exact h))
  · exact .inl (.inr ⟨u, by rw [upd_ne (ne_of h hp (by intro z; cases z))]; exact h⟩)
  · exact .inr h
mutual
theorem Rep.updI {p C dx : Addr} {fs : List (Str × V)} {o : HO} (hp : H p = some (.ins C dx fs)) (pp : P p) : ∀ {d : D} {v : V} {F : List Addr}, Rep K ca H P d v F → Rep K ca (L2.upd H p o) P d v F
  | _, _, _, .tup h r => .tup (sqt_updI hp h) (Reps.updI hp pp r)
  | _, _, _, .own h r => .own (by rw [upd_ne (ne_of h hp (by intro z; cases z))]; exact h) (Reps.updI hp pp r)
  | _, _, _, .non => .non
  | _, _, _, .bl _ => .bl _
  | _, _, _, .int _ => .int _
  | _, _, _, .str _ => .str _
  | _, _, _, .frz h q r => .frz (by rw [upd_ne (ne_of h hp (by intro z; cases z))]; exact h) q (Reps.updI hp pp r)
  | _, _, _, .scr h => .scr (by
      rcases h with ⟨u, h⟩ | h
      · exact .inl ⟨u, by rw [upd_ne (ne_of h hp (by intro z; cases z))]; exact h⟩
      · exact .inr h)
  | _, _, _, .obj hc h i q r => .obj hc (by rw [upd_ne (fun z => q (by rw [z]; exact pp))]; exact h) i q (Reps.updI hp pp r)
  | _, _, _, .exc hc h => .exc hc (by rw [upd_ne (ne_of h hp (by intro z; cases z))]; exact h)
  | _, _, _, .cls hc => .cls hc
  | _, _, _, .ty _ => .ty _
  | _, _, _, .hid _ => .hid _
  | _, _, _, .at r => .at (Rep.updI hp pp r)
  | _, _, _, .dow h => .dow (by rw [upd_ne (ne_of h hp (by intro z; cases z))]; exact h)
  | _, _, _, .dfz h q => .dfz (by rw [upd_ne (ne_of h hp (by intro z; cases z))]; exact h) q
theorem Reps.updI {p C dx : Addr} {fs : List (Str × V)} {o : HO} (hp : H p = some (.ins C dx fs)) (pp : P p) : ∀ {ds : List D} {vs : List V} {F : List Addr}, Reps K ca H P ds vs F → Reps K ca (L2.upd H p o) P ds vs F
  | _, _, _, .nil => .nil
  | _, _, _, .cons h r => .cons (Rep.updI hp pp h) (Reps.updI hp pp r)
end
theorem mapNat_inj : ∀ {xs ys : List Char}, xs.map Char.toNat = ys.map Char.toNat → xs = ys
  | [], [], _ => rfl
  | [], _ :: _, h => by simp at h
  | _ :: _, [], h => by simp at h
  | x :: xs, y :: ys, h => by
    rw [List.map_cons, List.map_cons] at h
    obtain ⟨h1, h2⟩ := List.cons.inj h
    rw [Char.toNat_inj.mp h1, mapNat_inj h2]
theorem ofString_inj {s t : String} (h : Str.ofString s = Str.ofString t) : s = t := by
  rw [Str.ofString_eq_toList, Str.ofString_eq_toList] at h
  have h1 := congrArg (fun z : Str => z.cps.toList) h
  simp only [List.toList_toArray] at h1
  exact String.toList_inj.mp (mapNat_inj h1)
theorem lookup_fields {f : String} : ∀ {ns : List String} {ds : List D} {vs : List V} {d : D}, ns.length = ds.length → Reps K ca H P ds vs [] → (ns.zip ds).lookup f = some d → ∃ v, (fieldsOf ns vs).lookup (Str.ofString f) = some v ∧ Rep K ca H P d v []
  | [], _, _, _, _, _, h => by simp at h
  | n :: ns, [], _, _, l, _, _ => by simp at l
  | n :: ns, e :: ds, vs, d, l, r, h => by
    cases vs with
    | nil => have := r.length; simp at this
    | cons v vs =>
      obtain ⟨rl, rq⟩ := Reps.nil_iff.mp r
      have rt : Reps K ca H P ds vs [] := Reps.nil_iff.mpr ⟨by simpa using rl, fun i d v a b => rq (i + 1) d v (by simpa using a) (by simpa using b)⟩
      rw [List.zip_cons_cons, List.lookup_cons] at h
      unfold fieldsOf
      rw [List.map_cons, List.zip_cons_cons, List.lookup_cons]
      by_cases e : f = n
      · subst e
        simp only [beq_self_eq_true] at h ⊢
        cases h
        exact ⟨v, rfl, rq 0 _ _ rfl rfl⟩
      · have h1 : (f == n) = false := beq_eq_false_iff_ne.mpr e
        have h2 : (Str.ofString f == Str.ofString n) = false := beq_eq_false_iff_ne.mpr fun z => e (ofString_inj z)
        rw [h1] at h
        rw [h2]
        exact lookup_fields (by simpa using l) rt h
theorem lookup_none {m : Str} : ∀ {ns : List String} {vs : List V}, (∀ f ∈ ns, Str.ofString f ≠ m) → (fieldsOf ns vs).lookup m = none
  | [], _, _ => rfl
  | n :: ns, [], _ => rfl
  | n :: ns, v :: vs, h => by
    unfold fieldsOf
    rw [List.map_cons, List.zip_cons_cons, List.lookup_cons]
    have h2 : (m == Str.ofString n) = false := beq_eq_false_iff_ne.mpr fun z => h n (List.mem_cons_self ..) z.symm
    rw [h2]
    exact lookup_none fun f hf => h f (List.mem_cons_of_mem _ hf)
end
end Ev
namespace Ev
open PySem L2

/-! ## Results -/
inductive Res (α : Type) where
  | ok (a : α) | er (c : String) | st
@[simp] def Res.bind {α β : Type} : Res α → (α → Res β) → Res β
  | .ok a, f => f a
  | .er c, _ => .er c
  | .st, _ => .st

/-! ## Expressions -/
inductive Bop where | add | sub | mul | fdiv | mod | pow | shl | shr | and | xor
inductive Cop where | eq | ne | lt | le | gt | ge | is | nis | in_ | nin
/-- built-in functions of values -/
inductive Blt where | len | str | int | isinst | sorted | list | max | min | sum | all | abs | listrev | lenset | setsorted | maxd | dnew | dget | dict | sortp | sortd | join | split | part
/-- what a for, a comprehension walks -/
inductive ItK where | seq | chr | rng1 | rng2 | rng3 | zip | enum | rev
/-- a target: a name's slot, or some -/
inductive Tg where | nm (i : Nat) | tp (is : List Nat)

inductive E where
  | var (i : Nat) | int (i : Int) | str (s : Str) | bl (b : Bool) | non
  | cst (x : String)
  | bin (op : Bop) (a b : E) | neg (a : E)
  | cmp (op : Cop) (a b : E) | chain (o1 o2 : Cop) (a b c : E)
  | and (a b : E) | or (a b : E) | not (a : E)
  | tup (as : E) | lst (as : E)
  | idx (a b : E) | slc (a lo hi : E)
  | fld (a : E) (f : String)
  | call (f : String) (as : E) | meth (o : E) (m : String) (as : E) | new (c : String) (as : E)
  | blt (f : Blt) (as : E)
  | comp (t : Tg) (k : ItK) (as : E) (c : E) (e : E)
  | unt (i : Nat)
  | nop | nil | cons (a as : E)
  deriving Inhabited

def E.isNop : E → Bool
  | .nop => true
  | _ => false

/-! ## Operations on values -/
abbrev lineN : Nat := 16777216
def mulOk (i j : Int) : Bool := decide ((Builtin.Int.intBits i : Int) + (Builtin.Int.intBits j : Int) ≤ 134217728)
def binF : Bop → D → D → Res D
  | .add, .int i, .int j => .ok (.int (i + j))
  | .add, .str x, .str y => if x.length + y.length ≤ lineN then .ok (.str (x ++ y)) else .st
  | .add, .lst _ xs, .lst _ ys => if xs.length + ys.length ≤ lineN then .ok (.lst true (shares xs ++ shares ys)) else .st
  | .sub, .int i, .int j => .ok (.int (i - j))
  | .mul, .int i, .int j => if mulOk i j then .ok (.int (i * j)) else .st
  | .fdiv, .int i, .int j => if 0 < j ∧ j.natAbs.log2 < 9000 then .ok (.int (i / j)) else .st
  | .mod, .int i, .int j => if 0 < j then .ok (.int (i % j)) else .st
  | .pow, .int i, .int j => if 0 ≤ j ∧ j ≤ 1000000 ∧ i.natAbs < 2 ^ 64 then .ok (.int (i ^ j.toNat)) else .st
  | .shl, .int i, .int j => if 0 ≤ j ∧ (Builtin.Int.intBits i : Int) + j ≤ 134217728 then .ok (.int (i * 2 ^ j.toNat)) else .st
  | .shr, .int i, .int j => if 0 ≤ j then .ok (.int (i / 2 ^ j.toNat)) else .st
  | .and, .int i, .int j => .ok (.int (Builtin.bitAnd i j))
  | .xor, .int i, .int j => .ok (.int (Builtin.bitXor i j))
  | _, _, _ => .st
mutual
def toPy : D → Option PyData
  | .non => some .none
  | .bl b => some (.bool b)
  | .int i => some (.int i)
  | .str s => some (.str s)
  | .tup ds => (toPys ds).map .tuple
  | .lst _ ds => (toPys ds).map .list
  | _ => none
def toPys : List D → Option (List PyData)
  | [] => some []
  | d :: r => match toPy d, toPys r with
    | some p, some q => some (p :: q)
    | _, _ => none
end
/-- where each thing stands, if each is tagged -/
def tagsOf : List D → Option (List Addr)
  | [] => some []
  | .at a _ :: r => (tagsOf r).map (a :: ·)
  | _ :: _ => none
def isTup : D → Bool
  | .tup _ => true
  | _ => false
/-- lists of unlike lengths, and two that are empty, whatever they hold; two of the very same things; a tuple and itself -/
def eqL : D → D → Res Bool
  | .lst _ xs, .lst _ ys => if xs.length = ys.length then (if xs.length = 0 then .ok true else if (tagsOf xs).isSome && tagsOf xs == tagsOf ys then .ok true else .st) else .ok false
  | .at a d, .at b _ => if a = b ∧ isTup d = true then .ok true else .st
  | _, _ => .st
/-- d == e -/
def eqF (d e : D) : Res Bool :=
  match d, e with
  | .int i, .int j => .ok (i == j)
  | .str x, .str y => .ok (x == y)
  | .bl a, .bl b => .ok (a == b)
  | .non, .non => .ok true
  | .non, .int _ => .ok false | .int _, .non => .ok false
  | .non, .str _ => .ok false | .str _, .non => .ok false
  | .non, .bl _ => .ok false | .bl _, .non => .ok false
  | d, e => match toPy d, toPy e with
    | some p, some q => if SeqAt.shaped p && SeqAt.shaped q then .ok (PyData.eqv p q) else .st
    | _, _ => eqL d e
def isNon : D → Bool
  | .non => true
  | _ => false
def flatD : D → Bool
  | .non => true | .bl _ => true | .int _ => true | .str _ => true
  | _ => false
def eqD : D → D → Bool
  | .non, .non => true
  | .bl a, .bl b => a == b
  | .bl a, .int b => (if a then 1 else 0) == b
  | .int a, .bl b => a == (if b then 1 else 0)
  | .int a, .int b => a == b
  | .str a, .str b => a == b
  | _, _ => false
/-- x in xs: flat things, or (l: in a list) data of any depth -/
def inF (l : Bool) (x : D) (xs : List D) : Res Bool :=
  if flatD x && xs.all flatD then .ok (xs.any fun y => eqD y x)
  else if l then match toPy x, toPys xs with
    | some p, some qs => if SeqAt.shaped p && SeqAt.shaped (.list qs) then .ok (qs.any fun q => PyData.eqv q p) else .st
    | _, _ => .st
  else .st
def itemsD : D → Option (List D)
  | .lst _ ds => some ds
  | .tup ds => some ds
  | .scr ns => some (ns.map .int)
  | _ => none
def cmpF : Cop → D → D → Res Bool
  | .eq, d, e => eqF d e
  | .ne, d, e => (eqF d e).bind fun b => .ok (!b)
  | .lt, .int i, .int j => .ok (decide (i < j))
  | .le, .int i, .int j => .ok (decide (i ≤ j))
  | .gt, .int i, .int j => .ok (decide (j < i))
  | .ge, .int i, .int j => .ok (decide (j ≤ i))
  | .is, d, .non => .ok (isNon d)
  | .nis, d, .non => .ok (!isNon d)
  | .is, .bl a, .bl b => .ok (a == b)
  | .nis, .bl a, .bl b => .ok (!(a == b))
  | .in_, d, .lst _ xs => inF true d xs
  | .in_, d, .tup xs => inF false d xs
  | .nin, d, .lst _ xs => (inF true d xs).bind fun b => .ok (!b)
  | .nin, d, .tup xs => (inF false d xs).bind fun b => .ok (!b)
  | .in_, .str a, .str b => match a.cps.toList with | [c] => .ok (decide (c ∈ b.cps.toList)) | _ => .st
  | .nin, .str a, .str b => match a.cps.toList with | [c] => .ok (!decide (c ∈ b.cps.toList)) | _ => .st
  | _, _, _ => .st
def idxF : D → D → Res D
  | .lst _ xs, .int i => match atI xs i with | some d => .ok (share d) | none => .st
  | .tup xs, .int i => match atI xs i with | some d => .ok (share d) | none => .st
  | .scr ns, .int i => match atI ns i with | some n => .ok (.int n) | none => .st
  | .str z, .int i => if z.length ≤ lineN then match atI z.cps.toList i with | some c => .ok (.str ⟨#[c]⟩) | none => .st else .st
  | _, _ => .st
def cutD {α : Type} (xs : List α) (lo hi : Option Int) : List α := (xs.drop (HT.sIx xs.length 0 lo)).take (HT.sIx xs.length xs.length hi - HT.sIx xs.length 0 lo)
def toI : D → Res (Option Int)
  | .int i => .ok (some i)
  | _ => .st
def slcF (d : D) (l h : Option Int) : Res D :=
  match d with
  | .lst _ xs => .ok (.lst true (cutD (shares xs) l h))
  | .scr ns => .ok (.lst true ((cutD ns l h).map .int))
  | .str z => if z.length ≤ lineN then .ok (.str (L2.cutS z l h)) else .st
  | _ => .st

/-! ## The program -/
structure ClsI where
  fields : List String
  meths : List (String × String)
  init : String
/-- of the program: what a function answers, its classes, its constants -/
structure Gam where
  cf : String → List D → Res D
  ci : String → Option ClsI
  cst : String → Option D
  isT : String → String → Option Bool

/-- the name of a value's type, of a class -/
def tyKey (G : Gam) : D → Option String
  | .non => some "NoneType" | .bl _ => some "bool" | .int _ => some "int" | .str _ => some "str"
  | .tup _ => some "tuple" | .lst _ _ => some "list" | .scr _ => some "list"
  | .obj c _ _ => match G.ci c with | some _ => some c | none => none
  | .exc c => match G.ci c with | some _ => none | none => some c
  | _ => none
def clsKey : D → Option String
  | .cls n => some n
  | .ty n => some n
  | _ => none
/-- isinstance(d, c) -/
def isF (G : Gam) (d c : D) : Res Bool :=
  match tyKey G d, clsKey c with
  | some t, some n => match G.isT t n with | some b => .ok b | none => .st
  | _, _ => .st
def isAny (G : Gam) (d : D) : List D → Res Bool
  | [] => .ok false
  | c :: r => (isF G d c).bind fun b => if b then .ok true else isAny G d r
def intsOf : List D → Option (List Int)
  | [] => some []
  | .int i :: r => (intsOf r).map (i :: ·)
  | _ => none
def blsOf : List D → Option (List Bool)
  | [] => some []
  | .bl b :: r => (blsOf r).map (b :: ·)
  | _ => none
def insI (i : Int) : List Int → List Int
  | [] => [i]
  | j :: r => if i ≤ j then i :: j :: r else j :: insI i r
def sortI : List Int → List Int
  | [] => []
  | i :: r => insI i (sortI r)
def maxI : List Int → Option Int
  | [] => none
  | i :: r => match maxI r with | none => some i | some j => some (max i j)
def minI : List Int → Option Int
  | [] => none
  | i :: r => match minI r with | none => some i | some j => some (min i j)
def lenF : List D → Res D
  | [.lst _ xs] => .ok (.int xs.length)
  | [.tup xs] => .ok (.int xs.length)
  | [.scr xs] => .ok (.int xs.length)
  | [.str z] => if z.length ≤ lineN then .ok (.int z.length) else .st
  | _ => .st
def strF : List D → Res D
  | [.int i] => if i.natAbs.log2 < 1920 then .ok (.str (toString i)) else .st
  | _ => .st
def intF : List D → Res D
  | [.int i] => .ok (.int i)
  | [.bl b] => .ok (.int (if b then 1 else 0))
  | [.str z] => match PySem.intText? z with | some n => if z.length ≤ 640 then .ok (.int n) else .st | none => .st
  | _ => .st
/-- a class that an isinstance may name -/
def knownTy : D → Bool
  | .ty n => ["NoneType", "bool", "int", "str", "tuple", "list", "ValueError", "dict"].contains n
  | .cls _ => true
  | _ => false
def isinF (G : Gam) : List D → Res D
  | [d, .tup cs] => if cs.all knownTy && (tyKey G d).isSome then (isAny G d cs).bind fun b => .ok (.bl b) else .st
  | [d, c] => if knownTy c then (isF G d c).bind fun b => .ok (.bl b) else .st
  | _ => .st
def sortedF : List D → Res D
  | [.lst _ xs] => match intsOf xs with | some ns => .ok (.lst true ((sortI ns).map .int)) | none => .st
  | _ => .st
def listF : List D → Res D
  | [.lst _ xs] => .ok (.lst true (shares xs))
  | [.tup xs] => .ok (.lst true (shares xs))
  | _ => .st
def maxF : List D → Res D
  | [.int i, .int j] => .ok (.int (max i j))
  | [.lst _ xs] => match intsOf xs with | some ns => (match maxI ns with | some m => .ok (.int m) | none => .st) | none => .st
  | _ => .st
def minF : List D → Res D
  | [.int i, .int j] => .ok (.int (min i j))
  | [.lst _ xs] => match intsOf xs with | some ns => (match minI ns with | some m => .ok (.int m) | none => .st) | none => .st
  | _ => .st
def sumF : List D → Res D
  | [.lst _ xs] => match intsOf xs with | some ns => .ok (.int ns.sum) | none => .st
  | _ => .st
def allF : List D → Res D
  | [.lst _ xs] => match blsOf xs with | some bs => .ok (.bl (bs.all id)) | none => .st
  | _ => .st
def absF : List D → Res D
  | [.int i] => .ok (.int (if i < 0 then -i else i))
  | _ => .st
def listrevF : List D → Res D
  | [.lst _ xs] => .ok (.lst true (shares xs).reverse)
  | _ => .st
/-- of a dict of whole numbers -/
def valD (kvs : List (Int × Int)) (k : Int) : Option Int := (kvs.find? fun p => decide (p.1 = k)).map (·.2)
def putD (kvs : List (Int × Int)) (k v : Int) : List (Int × Int) := if (kvs.any fun p => decide (p.1 = k)) = true then kvs.map (fun p => if p.1 = k then (p.1, v) else p) else kvs ++ [(k, v)]
def mergeD (kvs more : List (Int × Int)) : List (Int × Int) := more.foldl (fun acc p => putD acc p.1 p.2) kvs
def dgetF : List D → Res D
  | [.dct _ kvs, .int k] => match valD kvs k with | some v => .ok (.int v) | none => .st
  | _ => .st
def pairD (p : Int × Int) : D := .tup [.int p.1, .int p.2]
def pairsOf : List D → Option (List (Int × Int))
  | [] => some []
  | .tup [.int a, .int b] :: r => (pairsOf r).map ((a, b) :: ·)
  | _ => none
def dictF : List D → Res D
  | [.lst _ ds] => match pairsOf ds with | some ps => .ok (.dct true (mergeD [] ps)) | none => .st
  | _ => .st
def leP (p q : Int × Int) : Bool := decide (p.1 < q.1 ∨ (p.1 = q.1 ∧ p.2 ≤ q.2))
def insP (p : Int × Int) : List (Int × Int) → List (Int × Int)
  | [] => [p]
  | q :: r => if leP p q then p :: q :: r else q :: insP p r
def sortP : List (Int × Int) → List (Int × Int)
  | [] => []
  | p :: r => insP p (sortP r)
def sortpF : List D → Res D
  | [.lst _ ds] => match pairsOf ds with | some ps => .ok (.lst true ((sortP ps).map pairD)) | none => .st
  | _ => .st
def sortdF : List D → Res D
  | [.dct _ kvs] => if kvs.length < 64 then .ok (.lst true ((sortI (kvs.map (·.1))).map .int)) else .st
  | _ => .st
def strsOf : List D → Option (List Str)
  | [] => some []
  | .str z :: r => (strsOf r).map (z :: ·)
  | _ => none
/-- of texts: put together, cut at a text -/
def joinF : List D → Res D
  | [.str a, .lst _ ds] => match strsOf ds with | some ys => if (ys.map (·.length)).sum + ys.length * a.length ≤ lineN then .ok (.str (Txt.join a ys)) else .st | none => .st
  | _ => .st
def splitF : List D → Res D
  | [.str a, .str b] => if (b.length == 0) = false ∧ a.length + 2 ≤ lineN then .ok (.lst true ((Txt.split a b).map .str)) else .st
  | _ => .st
def partF : List D → Res D
  | [.str a, .str b] => if (b.length == 0) = false ∧ a.length ≤ lineN then .ok (.tup [.str (Txt.partition a b).1, .str (Txt.partition a b).2.1, .str (Txt.partition a b).2.2]) else .st
  | _ => .st
def dnewF : List D → Res D
  | [] => .ok (.dct true [])
  | _ => .st
def bltF (G : Gam) : Blt → List D → Res D
  | .len => lenF | .str => strF | .int => intF | .isinst => isinF G | .sorted => sortedF | .list => listF
  | .max => maxF | .min => minF | .sum => sumF | .all => allF | .abs => absF | .listrev => listrevF
  | .dnew => dnewF | .dget => dgetF | .dict => dictF | .sortp => sortpF | .sortd => sortdF | .join => joinF | .split => splitF | .part => partF
  | _ => fun _ => .st

/-- an environment: what each slot holds -/
abbrev Env := List (Option D)
def setAll : List (Nat × D) → Env → Env
  | [], ρ => ρ
  | (i, d) :: r, ρ => setAll r (ρ.set i (some d))
def bindS (is : List Nat) (ds : List D) (ρ : Env) : Option Env := if is.length = ds.length then some (setAll (is.zip ds) ρ) else none
def bindT : Tg → D → Env → Option Env
  | .nm i, d, ρ => some (ρ.set i (some d))
  | .tp is, .tup ds, ρ => bindS is ds ρ
  | .tp is, .lst _ ds, ρ => bindS is ds ρ
  | _, _, _ => none
def rngD (lo : Int) (n : Nat) (c : Int) : List D := (List.range n).map fun k => D.int (lo + (k : Nat) * c)
def rngOk (i : Int) : Bool := decide (-(2 ^ 62) ≤ i) && decide (i < 2 ^ 62)
/-- the things that are walked -/
def seqF : List D → Res (List D)
  | [.lst _ xs] => .ok (shares xs)
  | [.tup xs] => .ok (shares xs)
  | [.scr ns] => .ok (ns.map .int)
  | _ => .st
def chrF : List D → Res (List D)
  | [.str z] => .ok (z.cps.toList.map fun c => .str ⟨#[c]⟩)
  | _ => .st
def rng1F : List D → Res (List D)
  | [.int j] => if rngOk j then .ok (rngD 0 j.toNat 1) else .st
  | _ => .st
def rng2F : List D → Res (List D)
  | [.int i, .int j] => if rngOk i && rngOk j then .ok (rngD i (j - i).toNat 1) else .st
  | _ => .st
def rng3Ok (i j c : Int) : Bool := decide (c ≠ 0) && decide (c.natAbs < 1073741824) && Builtin.Range.small i j c
def rng3F : List D → Res (List D)
  | [.int i, .int j, .int c] => if rng3Ok i j c then .ok (rngD i (Builtin.Range.rangeSize i j c).toNat c) else .st
  | _ => .st
def zipF : List D → Res (List D)
  | [.lst _ xs, .lst _ ys] => .ok (((shares xs).zip (shares ys)).map fun p => .tup [p.1, p.2])
  | _ => .st
def enumF : List D → Res (List D)
  | [.lst _ xs] => .ok ((shares xs).zipIdx.map fun p => .tup [.int (p.2 : Nat), p.1])
  | _ => .st
def revF : List D → Res (List D)
  | [.lst _ xs] => .ok (shares xs).reverse
  | _ => .st
def itemsF : ItK → List D → Res (List D)
  | .seq => seqF | .chr => chrF | .rng1 => rng1F | .rng2 => rng2F | .rng3 => rng3F | .zip => zipF | .enum => enumF | .rev => revF
def fldF (d : D) (f : String) : Res D :=
  match d with
  | .obj _ ns ds => match (ns.zip ds).lookup f with | some x => .ok x | none => .st
  | _ => .st
/-- which function a method is -/
def methF (G : Gam) (d : D) (m : String) : Option String :=
  match d with
  | .obj c _ _ => (G.ci c).bind fun i => i.meths.lookup m
  | _ => none
/-- over the items, in turn; what the test lets by -/
def mapF (f : D → Res (Option D)) : List D → Res (List D)
  | [] => .ok []
  | d :: r => match f d with
    | .ok (some y) => (mapF f r).bind fun ys => .ok (y :: ys)
    | .ok none => mapF f r
    | _ => .st
def chkLen (r : Res (List D)) : Res (List D) := r.bind fun ds => if ds.length ≤ lineN then .ok ds else .st

mutual
def ev (G : Gam) (ρ : Env) : E → Res D
  | .var i => match ρ[i]? with | some (some d) => .ok d | _ => .st
  | .unt i => match ρ[i]? with | some (some d) => .ok (untag d) | _ => .st
  | .int i => .ok (.int i)
  | .str s => .ok (.str s)
  | .bl b => .ok (.bl b)
  | .non => .ok .non
  | .nop => .ok .non
  | .cst x => match G.cst x with | some d => .ok d | none => .st
  | .bin op a b => (ev G ρ a).bind fun d => (ev G ρ b).bind fun e => binF op d e
  | .neg a => (ev G ρ a).bind fun d => match d with | .int i => .ok (.int (-i)) | _ => .st
  | .cmp op a b => (ev G ρ a).bind fun d => (ev G ρ b).bind fun e => (cmpF op d e).bind fun r => .ok (.bl r)
  | .chain o1 o2 a b c => (ev G ρ a).bind fun d => (ev G ρ b).bind fun e => (cmpF o1 d e).bind fun r =>
      if r then (ev G ρ c).bind fun f => (cmpF o2 e f).bind fun r2 => .ok (.bl r2) else .ok (.bl false)
  | .and a b => (ev G ρ a).bind fun d => match d with | .bl true => ev G ρ b | .bl false => .ok (.bl false) | _ => .st
  | .or a b => (ev G ρ a).bind fun d => match d with | .bl false => ev G ρ b | .bl true => .ok (.bl true) | _ => .st
  | .not a => (ev G ρ a).bind fun d => match d with | .bl b => .ok (.bl (!b)) | _ => .st
  | .tup as => (evs G ρ as).bind fun ds => if ds.length ≤ lineN then .ok (.tup ds) else .st
  | .lst as => (evs G ρ as).bind fun ds => if ds.length ≤ lineN then .ok (.lst true ds) else .st
  | .idx a b => (ev G ρ a).bind fun d => (ev G ρ b).bind fun e => idxF d e
  | .slc a lo hi => (ev G ρ a).bind fun d => (if lo.isNop then Res.ok none else (ev G ρ lo).bind toI).bind fun l => (if hi.isNop then Res.ok none else (ev G ρ hi).bind toI).bind fun h => slcF d l h
  | .fld a f => (ev G ρ a).bind fun d => fldF d f
  | .call f as => (evs G ρ as).bind fun ds => G.cf f (shares ds)
  | .meth o m as => (ev G ρ o).bind fun d => match methF G d m with
      | some f => (evs G ρ as).bind fun ds => G.cf f (d :: shares ds)
      | none => .st
  | .new c as => (evs G ρ as).bind fun ds => match G.ci c with
      | some i => G.cf i.init (.obj c [] [] :: shares ds)
      | none => .st
  | .blt f as => (evs G ρ as).bind fun ds => bltF G f ds
  | .comp t k as c e => (evs G ρ as).bind fun ds => (itemsF k ds).bind fun xs =>
      (chkLen (mapF (fun x => match bindT t x ρ with
        | none => .st
        | some ρ' => (ev G ρ' c).bind fun b => match b with
          | .bl true => (ev G ρ' e).bind fun y => .ok (some y)
          | .bl false => .ok none
          | _ => .st) xs)).bind fun ys => .ok (.lst true ys)
  | .nil => .st
  | .cons _ _ => .st
def evs (G : Gam) (ρ : Env) : E → Res (List D)
  | .nil => .ok []
  | .cons a as => (ev G ρ a).bind fun d => (evs G ρ as).bind fun ds => .ok (d :: ds)
  | _ => .st
end
end Ev
namespace Ev
open PySem L2

/-! ## What an expression's reading is -/
/-- what is wanted of an exception of a class, at the slots and the heap -/
abbrev WE := String → L2.St → Hp → Prop
structure BEnv (K : PySem.W.Frag) (ca : String → Option Addr) (ρ : Env) (σ : L2.St) (H : Hp) (P : Addr → Prop) : Prop where
  len : ρ.length = σ.length
  at_ : ∀ (i : Nat) (d : D), ρ[i]? = some (some d) → ∃ v, σ[i]? = some (some v) ∧ Rep K ca H P d v []
def Trk (P : Addr → Prop) (H : Hp) : Prop := ∀ a, P a → H a ≠ none
theorem Trk.ext {P : Addr → Prop} {H H' : Hp} (t : Trk P H) (e : Ex H H') : Trk P H' := fun a p n => by
  cases q : H a with
  | none => exact t a p q
  | some o => rw [e a o q] at n; cases n
theorem BEnv.ext {K : PySem.W.Frag} {ca : String → Option Addr} {ρ : Env} {σ : L2.St} {H H' : Hp} {P : Addr → Prop} (b : BEnv K ca ρ σ H P) (e : Ex H H') : BEnv K ca ρ σ H' P := ⟨b.len, fun i d h =>
  let ⟨v, h1, h2⟩ := b.at_ i d h; ⟨v, h1, h2.ext e⟩⟩
theorem BEnv.forb {K : PySem.W.Frag} {ca : String → Option Addr} {ρ : Env} {σ : L2.St} {H : Hp} {P P' : Addr → Prop} (b : BEnv K ca ρ σ H P) (hP : ∀ a, P' a → P a ∨ H a = none) : BEnv K ca ρ σ H P' := ⟨b.len, fun i d h =>
  let ⟨v, h1, h2⟩ := b.at_ i d h; ⟨v, h1, h2.forb hP⟩⟩
def Post (K : PySem.W.Frag) (ca : String → Option Addr) (W : WE) (σ : L2.St) (H : Hp) (P : Addr → Prop) : Res D → VK → Prop
  | .ok d, Q => ∀ v H' F, Ex H H' → F.Nodup → (∀ a ∈ F, H a = none) → Rep K ca H' (fun a => P a ∨ a ∈ F) d v F → Q v H'
  | .er c, _ => ∀ H', Ex H H' → W c σ H'
  | .st, _ => False
def PostA (K : PySem.W.Frag) (ca : String → Option Addr) (W : WE) (σ : L2.St) (H : Hp) (P : Addr → Prop) : Res (List D) → (List V → Hp → Prop) → Prop
  | .ok ds, Q => ∀ vs H' F, Ex H H' → F.Nodup → (∀ a ∈ F, H a = none) → Reps K ca H' (fun a => P a ∨ a ∈ F) ds vs F → Q vs H'
  | .er c, _ => ∀ H', Ex H H' → W c σ H'
  | .st, _ => False
def tE (K : PySem.W.Frag) (ca : String → Option Addr) (G : Gam) (W : WE) (e : E) : TE := fun σ H Q => ∃ ρ P, BEnv K ca ρ σ H P ∧ Trk P H ∧ Post K ca W σ H P (ev G ρ e) Q
def tA (K : PySem.W.Frag) (ca : String → Option Addr) (G : Gam) (W : WE) (e : E) : TA := fun σ H Q => ∃ ρ P, BEnv K ca ρ σ H P ∧ Trk P H ∧ PostA K ca W σ H P (evs G ρ e) Q
/-- a test: the answer a truth -/
def PostT (W : WE) (σ : L2.St) (H : Hp) : Res D → (Bool → Hp → Prop) → Prop
  | .ok (.bl b), Q => ∀ H', Ex H H' → Q b H'
  | .ok _, _ => False
  | .er c, _ => ∀ H', Ex H H' → W c σ H'
  | .st, _ => False
def tT (K : PySem.W.Frag) (ca : String → Option Addr) (G : Gam) (W : WE) (e : E) : TT := fun σ H Q => ∃ ρ P, BEnv K ca ρ σ H P ∧ Trk P H ∧ PostT W σ H (ev G ρ e) Q

theorem PE.imp {X : Cx} {e : Expr} {t t' : TE} (h : PE X e t) (i : ∀ σ H Q, t' σ H Q → t σ H Q) : PE X e t' := ⟨fun pins s σ H Q I q => h.run pins s σ H Q I (i σ H Q q)⟩
theorem PT.imp {X : Cx} {e : Expr} {t t' : TT} (h : PT X e t) (i : ∀ σ H Q, t' σ H Q → t σ H Q) : PT X e t' := ⟨fun pins s σ H Q I q => h.run pins s σ H Q I (i σ H Q q)⟩
theorem PA.imp {X : Cx} {e : List Expr} {t t' : TA} (h : PA X e t) (i : ∀ σ H Q, t' σ H Q → t σ H Q) : PA X e t' := ⟨fun pos pins s σ H Q I q => h.run pos pins s σ H Q I (i σ H Q q)⟩
theorem PS.imp {X : Cx} {e : Stmt} {t t' : TS} (h : PS X e t) (i : ∀ D σ H, t' D σ H → t D σ H) : PS X e t' := ⟨fun pins s σ H D I q => h.run pins s σ H D I (i D σ H q)⟩
theorem PSs.imp {X : Cx} {e : List Stmt} {t t' : TS} (h : PSs X e t) (i : ∀ D σ H, t' D σ H → t D σ H) : PSs X e t' := ⟨fun pins s σ H D I q => h.run pins s σ H D I (i D σ H q)⟩

section
variable {K : PySem.W.Frag} {ca : String → Option Addr} {G : Gam} {W : WE} {σ : L2.St} {H H' H2 : Hp} {P P' : Addr → Prop} {ρ : Env} {Q : VK}

theorem Post.mono {r : Res D} (h : Post K ca W σ H P r Q) (e : Ex H H') (hP : ∀ a, P a → P' a) : Post K ca W σ H' P' r Q := by
  cases r with
  | ok d => exact fun v H2 F e2 n f r => h v H2 F (e.trans e2) n (fun a m => e.back (f a m)) (r.forb fun a z => .inl (z.imp (hP a) id))
  | er c => exact fun H2 e2 => h H2 (e.trans e2)
  | st => exact h
theorem PostA.mono {r : Res (List D)} {Q : List V → Hp → Prop} (h : PostA K ca W σ H P r Q) (e : Ex H H') (hP : ∀ a, P a → P' a) : PostA K ca W σ H' P' r Q := by
  cases r with
  | ok d => exact fun v H2 F e2 n f r => h v H2 F (e.trans e2) n (fun a m => e.back (f a m)) (r.forb fun a z => .inl (z.imp (hP a) id))
  | er c => exact fun H2 e2 => h H2 (e.trans e2)
  | st => exact h
theorem PostT.mono {r : Res D} {Q : Bool → Hp → Prop} (h : PostT W σ H r Q) (e : Ex H H') : PostT W σ H' r Q := by
  cases r with
  | ok d =>
    cases d with
    | bl b => exact fun H2 e2 => h H2 (e.trans e2)
    | _ => exact h
  | er c => exact fun H2 e2 => h H2 (e.trans e2)
  | st => exact h

/-- what one knows of a value in hand: its own lists stand apart from P -/
structure Got (K : PySem.W.Frag) (ca : String → Option Addr) (H : Hp) (P P' : Addr → Prop) (d : D) (v : V) (F : List Addr) : Prop where
  rep : Rep K ca H P' d v F
  sub : ∀ a, P a → P' a
  off : ∀ a ∈ F, ¬ P a
theorem Got.shr {d : D} {v : V} {F : List Addr} (g : Got K ca H P P' d v F) : Rep K ca H P (share d) v [] := g.rep.shr g.sub g.off
structure GotA (K : PySem.W.Frag) (ca : String → Option Addr) (H : Hp) (P P' : Addr → Prop) (d : List D) (v : List V) (F : List Addr) : Prop where
  rep : Reps K ca H P' d v F
  sub : ∀ a, P a → P' a
  off : ∀ a ∈ F, ¬ P a
theorem GotA.shr {d : List D} {v : List V} {F : List Addr} (g : GotA K ca H P P' d v F) : Reps K ca H P (shares d) v [] := g.rep.shr g.sub g.off
theorem off_of {F : List Addr} (t : Trk P H) (f : ∀ a ∈ F, H a = none) : ∀ a ∈ F, ¬ P a := fun a m p => t a p (f a m)

/-- one operand -/
theorem t_one {a : E} {k : D → Res D} {R : V → Hp → Prop} (hB : BEnv K ca ρ σ H P) (hP : Trk P H) (h : Post K ca W σ H P ((ev G ρ a).bind k) Q)
    (hR : ∀ d v H1 P' F, Ex H H1 → Got K ca H1 P P' d v F → Post K ca W σ H1 P (k d) Q → R v H1) : tE K ca G W a σ H R := by
  refine ⟨ρ, P, hB, hP, ?_⟩
  cases e1 : ev G ρ a with
  | st => rw [e1] at h; exact h
  | er c => rw [e1] at h; exact h
  | ok d =>
    rw [e1] at h
    exact fun v H1 F x n f r => hR d v H1 _ F x ⟨r, fun _ p => .inl p, off_of hP f⟩ (h.mono x fun _ p => p)
/-- two operands, from the left -/
theorem t_two {a b : E} {k : D → D → Res D} {R : V → V → Hp → Prop} (hB : BEnv K ca ρ σ H P) (hP : Trk P H) (h : Post K ca W σ H P ((ev G ρ a).bind fun d => (ev G ρ b).bind fun e => k d e) Q)
    (hR : ∀ d e v u H2 P' F1 F2, Ex H H2 → Got K ca H2 P P' d v F1 → Got K ca H2 P P' e u F2 → Post K ca W σ H2 P (k d e) Q → R v u H2) :
    tE K ca G W a σ H fun x H1 => tE K ca G W b σ H1 fun y H2 => R x y H2 := by
  refine t_one hB hP h fun d v H1 P1 F1 x1 g1 h1 => ?_
  -- the first value's own lists are forbidden meanwhile
  have t1 : Trk (fun a => P a ∨ a ∈ F1) H1 := fun a z n => by
    rcases z with z | z
    · exact hP.ext x1 a z n
    · obtain ⟨vs, e, _⟩ := g1.rep.tracked a z
      rw [e] at n; cases n
  refine ⟨ρ, P, hB.ext x1, hP.ext x1, ?_⟩
  cases e2 : ev G ρ b with
  | st => rw [e2] at h1; exact h1
  | er c => rw [e2] at h1; exact h1
  | ok e =>
    rw [e2] at h1
    intro u H2 F2 x2 n2 f2 r2
    refine hR d e v u H2 P F1 F2 (x1.trans x2) ?_ ?_ (h1.mono x2 fun _ p => p)
    · exact ⟨(g1.rep.ext x2).forb fun a p => .inl (g1.sub a p), fun _ p => p, g1.off⟩
    · exact ⟨r2.forb fun a p => .inl (.inl p), fun _ p => p, off_of (hP.ext x1) f2⟩

/-! ## Answers -/
theorem Post.val {d : D} {v : V} (h : Post K ca W σ H P (.ok d) Q) (r : Rep K ca H P d v []) : Q v H :=
  h v H [] (Ex.refl H) List.nodup_nil (by simp) (r.forb fun a p => .inl (p.elim id fun z => by simp at z))
theorem Post.int {i : Int} (h : Post K ca W σ H P (.ok (.int i)) Q) : Q (.int i) H := h.val (.int i)
theorem Post.str {i : Str} (h : Post K ca W σ H P (.ok (.str i)) Q) : Q (.str i) H := h.val (.str i)
theorem Post.bl {i : Bool} (h : Post K ca W σ H P (.ok (.bl i)) Q) : Q (.bl i) H := h.val (.bl i)
theorem Post.non (h : Post K ca W σ H P (.ok .non) Q) : Q .non H := h.val .non
/-- a new list of things that others may hold -/
theorem Post.newL {ds : List D} {vs : List V} {p : Addr} (h : Post K ca W σ H P (.ok (.lst true ds)) Q) (r : Reps K ca H P ds vs []) (hp : H p = none) : Q (.ref p) (upd H p (.lst vs)) :=
  h _ _ [p] (Ex.new hp) (by simp) (by simpa using hp) (.own upd_same ((r.forb fun a z => z.imp id fun m => by simp at m; rw [m]; exact hp).ext (Ex.new hp)))
theorem Post.newT {ds : List D} {vs : List V} {p : Addr} (h : Post K ca W σ H P (.ok (.tup ds)) Q) (r : Reps K ca H P ds vs []) (hp : H p = none) : Q (.ref p) (upd H p (.tup vs)) :=
  h _ _ [] (Ex.new hp) (by simp) (by simp) (.tup (.inl (.inl upd_same)) ((r.forb fun a z => z.elim .inl fun m => by simp at m).ext (Ex.new hp)))
end

section
variable {X : Cx} {ca : String → Option Addr} {G : Gam} {W : WE}
/-- the expression e does what e' says -/
abbrev SE (X : Cx) (ca : String → Option Addr) (G : Gam) (W : WE) (e : Expr) (e' : E) : Prop := PE X e (tE X.K ca G W e')
abbrev SA (X : Cx) (ca : String → Option Addr) (G : Gam) (W : WE) (e : List Expr) (e' : E) : Prop := PA X e (tA X.K ca G W e')
abbrev STt (X : Cx) (ca : String → Option Addr) (G : Gam) (W : WE) (e : Expr) (e' : E) : Prop := PT X e (tT X.K ca G W e')
variable {a b c : Expr} {a' b' c' : E} {pos : Pos}

theorem se_var (i : Nat) {x : Str} (hN : X.N[i]? = some x := by rfl) (hv : Vis X.env.scope x := by first | exact Or.inl rfl | exact Or.inr (Or.inl rfl) | exact Or.inr (Or.inr rfl)) (hd : (x == ("__debug__" : Str)) = false := by decide)
    (hcd : (x == ("__classdict__" : Str)) = false := by decide) : SE X ca G W (.Name x pos) (.var i) := by
  refine PE.imp (pe_var hN hv hd hcd) fun σ H Q ⟨ρ, P, hB, hP, h⟩ => ?_
  rw [ev] at h
  cases e : ρ[i]? with
  | none => rw [e] at h; exact h.elim
  | some o =>
    cases o with
    | none => rw [e] at h; exact h.elim
    | some d =>
      rw [e] at h
      obtain ⟨v, h1, h2⟩ := hB.at_ i d e
      exact ⟨v, h1, h.val h2⟩
theorem se_int {i : Int} {j : Nat} : SE X ca G W (.Constant (.int i) j pos) (.int i) := PE.imp pe_int fun σ H Q ⟨ρ, P, hB, hP, h⟩ => h.int
theorem se_str {i : Str} {j : Nat} : SE X ca G W (.Constant (.str i) j pos) (.str i) := PE.imp pe_str fun σ H Q ⟨ρ, P, hB, hP, h⟩ => h.str
theorem se_bl {i : Bool} {j : Nat} : SE X ca G W (.Constant (.bool i) j pos) (.bl i) := PE.imp pe_bl fun σ H Q ⟨ρ, P, hB, hP, h⟩ => h.bl
theorem se_non {j : Nat} : SE X ca G W (.Constant .none j pos) .non := PE.imp pe_non fun σ H Q ⟨ρ, P, hB, hP, h⟩ => h.non

/-- an operator that does what f says -/
def DoesB (X : Cx) (ca : String → Option Addr) (r : R2) (f : D → D → Res D) : Prop := ∀ (W : WE) (σ : L2.St) (H : Hp) (P P' : Addr → Prop) (d e : D) (v u : V) (F1 F2 : List Addr) (Q : VK),
  Got X.K ca H P P' d v F1 → Got X.K ca H P P' e u F2 → Post X.K ca W σ H P (f d e) Q → r v u H Q
theorem se_op {op : Operator} {r : R2} {f : Bop} (ho : OpR X (binaryOp op) r) (hd : DoesB X ca r (binF f)) (ha : SE X ca G W a a') (hb : SE X ca G W b b') : SE X ca G W (.BinOp a op b pos) (.bin f a' b') := by
  refine PE.imp (pe_op ho ha hb) fun σ H Q ⟨ρ, P, hB, hP, h⟩ => ?_
  rw [ev] at h
  exact t_two hB hP h fun d e v u H2 P' F1 F2 x g1 g2 q => hd W σ H2 P P' d e v u F1 F2 Q g1 g2 q
theorem does_add : DoesB X ca (fun x y H Q => rI0 (fun i j => .int (i + j)) x y H Q ∨ (∃ i j, x = .str i ∧ y = .str j ∧ i.length + j.length ≤ sizeLine ∧ Q (.str (i ++ j)) H) ∨ rCat x y H Q) (binF .add) := by
  intro W σ H P P' d e v u F1 F2 Q g1 g2 h
  have g1' := g1
  have g2' := g2
  obtain ⟨r1, _, _⟩ := g1
  obtain ⟨r2, _, _⟩ := g2
  cases d <;> cases e <;> simp only [binF] at h <;> try exact h.elim
  · cases r1; cases r2
    exact .inl ⟨_, _, rfl, rfl, h.int⟩
  · cases r1; cases r2
    split at h
    · rename_i hl
      exact .inr (.inl ⟨_, _, rfl, rfl, by rw [sizeLine_eq]; exact hl, h.str⟩)
    · exact h.elim
  · split at h
    · rename_i hl
      have s1 := g1'.shr
      have s2 := g2'.shr
      simp only [share] at s1 s2
      cases s1 with
      | frz h1 p1 q1 =>
        cases s2 with
        | frz h2 p2 q2 =>
          refine .inr (.inr ⟨_, _, _, _, rfl, rfl, h1, h2, ?_, fun p hp => ?_⟩)
          · rw [sizeLine_eq, ← q1.length, ← q2.length, shares_map, shares_map, List.length_map, List.length_map]
            exact hl
          · refine h.newL ?_ hp
            exact q1.append q2
    · exact h.elim
theorem does_sub : DoesB X ca (rI0 fun i j => .int (i - j)) (binF .sub) := by
  intro W σ H P P' d e v u F1 F2 Q g1 g2 h
  obtain ⟨r1, _, _⟩ := g1
  obtain ⟨r2, _, _⟩ := g2
  cases d <;> cases e <;> simp only [binF] at h <;> try exact h.elim
  cases r1; cases r2
  exact ⟨_, _, rfl, rfl, h.int⟩
theorem does_mul : DoesB X ca (rI CMulX fun i j => .int (i * j)) (binF .mul) := by
  intro W σ H P P' d e v u F1 F2 Q g1 g2 h
  obtain ⟨r1, _, _⟩ := g1
  obtain ⟨r2, _, _⟩ := g2
  cases d <;> cases e <;> simp only [binF] at h <;> try exact h.elim
  cases r1; cases r2
  split at h
  · rename_i hl
    exact ⟨_, _, rfl, rfl, by unfold mulOk at hl; have q := of_decide_eq_true hl; exact q, h.int⟩
  · exact h.elim
theorem does_fdiv : DoesB X ca (rI CDivW fun i j => .int (i / j)) (binF .fdiv) := by
  intro W σ H P P' d e v u F1 F2 Q g1 g2 h
  obtain ⟨r1, _, _⟩ := g1
  obtain ⟨r2, _, _⟩ := g2
  cases d <;> cases e <;> simp only [binF] at h <;> try exact h.elim
  cases r1; cases r2
  split at h
  · rename_i hl
    exact ⟨_, _, rfl, rfl, hl, h.int⟩
  · exact h.elim
theorem does_mod : DoesB X ca (rI (fun _ j => 0 < j) fun i j => .int (i % j)) (binF .mod) := by
  intro W σ H P P' d e v u F1 F2 Q g1 g2 h
  obtain ⟨r1, _, _⟩ := g1
  obtain ⟨r2, _, _⟩ := g2
  cases d <;> cases e <;> simp only [binF] at h <;> try exact h.elim
  cases r1; cases r2
  split at h
  · rename_i hl
    exact ⟨_, _, rfl, rfl, hl, h.int⟩
  · exact h.elim
theorem does_pow : DoesB X ca (rI CPow fun i j => .int (i ^ j.toNat)) (binF .pow) := by
  intro W σ H P P' d e v u F1 F2 Q g1 g2 h
  obtain ⟨r1, _, _⟩ := g1
  obtain ⟨r2, _, _⟩ := g2
  cases d <;> cases e <;> simp only [binF] at h <;> try exact h.elim
  cases r1; cases r2
  split at h
  · rename_i hl
    exact ⟨_, _, rfl, rfl, hl, h.int⟩
  · exact h.elim
theorem does_shl : DoesB X ca (rI CShl fun i j => .int (i * 2 ^ j.toNat)) (binF .shl) := by
  intro W σ H P P' d e v u F1 F2 Q g1 g2 h
  obtain ⟨r1, _, _⟩ := g1
  obtain ⟨r2, _, _⟩ := g2
  cases d <;> cases e <;> simp only [binF] at h <;> try exact h.elim
  cases r1; cases r2
  split at h
  · rename_i hl
    exact ⟨_, _, rfl, rfl, ⟨hl.1, by have := hl.2; omega⟩, h.int⟩
  · exact h.elim
theorem does_shr : DoesB X ca (rI (fun _ j => 0 ≤ j) fun i j => .int (i / 2 ^ j.toNat)) (binF .shr) := by
  intro W σ H P P' d e v u F1 F2 Q g1 g2 h
  obtain ⟨r1, _, _⟩ := g1
  obtain ⟨r2, _, _⟩ := g2
  cases d <;> cases e <;> simp only [binF] at h <;> try exact h.elim
  cases r1; cases r2
  split at h
  · rename_i hl
    exact ⟨_, _, rfl, rfl, hl, h.int⟩
  · exact h.elim
theorem does_and : DoesB X ca (rI0 fun i j => .int (Builtin.bitAnd i j)) (binF .and) := by
  intro W σ H P P' d e v u F1 F2 Q g1 g2 h
  obtain ⟨r1, _, _⟩ := g1
  obtain ⟨r2, _, _⟩ := g2
  cases d <;> cases e <;> simp only [binF] at h <;> try exact h.elim
  cases r1; cases r2
  exact ⟨_, _, rfl, rfl, h.int⟩
theorem does_xor : DoesB X ca (rI0 fun i j => .int (Builtin.bitXor i j)) (binF .xor) := by
  intro W σ H P P' d e v u F1 F2 Q g1 g2 h
  obtain ⟨r1, _, _⟩ := g1
  obtain ⟨r2, _, _⟩ := g2
  cases d <;> cases e <;> simp only [binF] at h <;> try exact h.elim
  cases r1; cases r2
  exact ⟨_, _, rfl, rfl, h.int⟩
variable {p : Pos}
theorem se_add (ha : SE X ca G W a a') (hb : SE X ca G W b b') : SE X ca G W (.BinOp a .Add b pos) (.bin .add a' b') := se_op (op_add.or (op_add_str.or op_cat)) does_add ha hb
theorem se_sub (ha : SE X ca G W a a') (hb : SE X ca G W b b') : SE X ca G W (.BinOp a .Sub b pos) (.bin .sub a' b') := se_op op_sub does_sub ha hb
theorem se_mul (ha : SE X ca G W a a') (hb : SE X ca G W b b') : SE X ca G W (.BinOp a .Mult b pos) (.bin .mul a' b') := se_op op_mulX does_mul ha hb
theorem se_fdiv (ha : SE X ca G W a a') (hb : SE X ca G W b b') : SE X ca G W (.BinOp a .FloorDiv b pos) (.bin .fdiv a' b') := se_op op_fdivW does_fdiv ha hb
theorem se_mod (ha : SE X ca G W a a') (hb : SE X ca G W b b') : SE X ca G W (.BinOp a .Mod b pos) (.bin .mod a' b') := se_op op_mod does_mod ha hb
theorem se_pow (ha : SE X ca G W a a') (hb : SE X ca G W b b') : SE X ca G W (.BinOp a .Pow b pos) (.bin .pow a' b') := se_op op_pow does_pow ha hb
theorem se_shl (ha : SE X ca G W a a') (hb : SE X ca G W b b') : SE X ca G W (.BinOp a .LShift b pos) (.bin .shl a' b') := se_op op_shlW does_shl ha hb
theorem se_shr (ha : SE X ca G W a a') (hb : SE X ca G W b b') : SE X ca G W (.BinOp a .RShift b pos) (.bin .shr a' b') := se_op op_shr does_shr ha hb
theorem se_band (ha : SE X ca G W a a') (hb : SE X ca G W b b') : SE X ca G W (.BinOp a .BitAnd b pos) (.bin .and a' b') := se_op op_and does_and ha hb
theorem se_bxor (ha : SE X ca G W a a') (hb : SE X ca G W b b') : SE X ca G W (.BinOp a .BitXor b pos) (.bin .xor a' b') := se_op op_xor does_xor ha hb
theorem se_neg (ha : SE X ca G W a a') : SE X ca G W (.UnaryOp .USub a pos) (.neg a') := by
  refine PE.imp (pe_un un_neg ha) fun σ H Q ⟨ρ, P, hB, hP, h⟩ => ?_
  rw [ev] at h
  refine t_one hB hP h fun d v H1 P' F x g q => ?_
  obtain ⟨r, _, _⟩ := g
  cases d <;> try exact q.elim
  cases r
  exact ⟨_, rfl, q.int⟩

/-! ## Comparisons -/
mutual
theorem rep_dp {K : PySem.W.Frag} {H : Hp} {P : Addr → Prop} : ∀ {d : D} {v : V} {F : List Addr} {p : PyData}, Rep K ca H P d v F → toPy d = some p → Dp K H v p
  | _, _, _, _, .non, e => by cases e; exact .non
  | _, _, _, _, .bl b, e => by cases e; exact .bl b
  | _, _, _, _, .int b, e => by cases e; exact .int b
  | _, _, _, _, .str b, e => by cases e; exact .str b
  | _, _, _, _, .tup h r, e => by
    obtain ⟨q, e1, e2⟩ := Option.map_eq_some_iff.mp e
    subst e2
    exact .tup h (reps_dp r e1)
  | _, _, _, _, .own h r, e => by
    obtain ⟨q, e1, e2⟩ := Option.map_eq_some_iff.mp e
    subst e2
    exact .lst (.inl (.inl h)) (reps_dp r e1)
  | _, _, _, _, .frz h _ r, e => by
    obtain ⟨q, e1, e2⟩ := Option.map_eq_some_iff.mp e
    subst e2
    exact .lst (.inl (.inl h)) (reps_dp r e1)
  | _, _, _, _, .scr _, e => by cases e
  | _, _, _, _, .obj _ _ _ _ _, e => by cases e
  | _, _, _, _, .exc _ _, e => by cases e
  | _, _, _, _, .cls _, e => by cases e
  | _, _, _, _, .ty _, e => by cases e
theorem reps_dp {K : PySem.W.Frag} {H : Hp} {P : Addr → Prop} : ∀ {ds : List D} {vs : List V} {F : List Addr} {ps : List PyData}, Reps K ca H P ds vs F → toPys ds = some ps → DpAll K H vs ps
  | _, _, _, _, .nil, e => by cases e; exact .nil
  | _, _, _, _, @Reps.cons _ _ _ _ d _ _ ds _ _ h r, e => by
    rw [toPys] at e
    cases e1 : toPy d with
    | none => rw [e1] at e; cases e
    | some p =>
      cases e2 : toPys ds with
      | none => rw [e1, e2] at e; cases e
      | some q =>
        rw [e1, e2] at e
        cases e
        exact .cons (rep_dp h e1) (reps_dp r e2)
end
/-- a comparison that says what f says -/
def DoesC (X : Cx) (ca : String → Option Addr) (r : R2) (f : D → D → Res Bool) : Prop := ∀ (W : WE) (σ : L2.St) (H : Hp) (P P' : Addr → Prop) (d e : D) (v u : V) (F1 F2 : List Addr) (Q : VK),
  Got X.K ca H P P' d v F1 → Got X.K ca H P P' e u F2 → Post X.K ca W σ H P ((f d e).bind fun b => .ok (.bl b)) Q → r v u H Q
theorem tT_tE {K : PySem.W.Frag} {e : E} {σ : L2.St} {H : Hp} {Q : Bool → Hp → Prop} (h : tT K ca G W e σ H Q) : tE K ca G W e σ H fun x H' => ∃ k, x = .bl k ∧ Q k H' := by
  obtain ⟨ρ, P, hB, hP, h⟩ := h
  refine ⟨ρ, P, hB, hP, ?_⟩
  cases e1 : ev G ρ e with
  | st => rw [e1] at h; exact h
  | er c => rw [e1] at h; exact h
  | ok d =>
    rw [e1] at h
    cases d <;> try exact h.elim
    intro v H' F x _ _ r
    cases r
    exact ⟨_, rfl, h H' x⟩
theorem se_cmp {op : CmpOp} {r : R2} {f : Cop} (ho : OpR X (compareOp op) r) (hd : DoesC X ca r (cmpF f)) (ha : SE X ca G W a a') (hb : SE X ca G W b b') (hm : behindInMarks op b = false) : SE X ca G W (.Compare a [op] [b] pos) (.cmp f a' b') := by
  refine PE.imp (pe_cmpR ho ha hb hm) fun σ H Q ⟨ρ, P, hB, hP, h⟩ => ?_
  rw [ev] at h
  exact t_two hB hP h fun d e v u H2 P' F1 F2 x g1 g2 q => hd W σ H2 P P' d e v u F1 F2 Q g1 g2 q
theorem st_cmp {op : CmpOp} {r : R2} {f : Cop} (ho : OpR X (compareOp op) r) (hd : DoesC X ca r (cmpF f)) (ha : SE X ca G W a a') (hb : SE X ca G W b b') (hm : behindInMarks op b = false) : STt X ca G W (.Compare a [op] [b] pos) (.cmp f a' b') := by
  refine PT.imp (pt_cmpR ho ha hb hm) fun σ H Q h => ?_
  obtain ⟨ρ, P, hB, hP, h⟩ := tT_tE h
  rw [ev] at h
  exact t_two hB hP h fun d e v u H2 P' F1 F2 x g1 g2 q => hd W σ H2 P P' d e v u F1 F2 _ g1 g2 q
/-- two lists of unlike lengths, two empty ones, two of the very same things; a tuple and itself -/
def rLens (K : PySem.W.Frag) (f : Bool → Bool) : R2 := fun x y H Q => (∃ a b xs ys, x = .ref a ∧ y = .ref b ∧ SqL K H a xs ∧ SqL K H b ys ∧ ((xs.length ≠ ys.length ∧ Q (.bl (f false)) H) ∨ (xs = [] ∧ ys = [] ∧ Q (.bl (f true)) H) ∨ (xs = ys ∧ (∀ z ∈ xs, ∃ c, z = .ref c) ∧ Q (.bl (f true)) H))) ∨
  ∃ a xs, x = .ref a ∧ y = .ref a ∧ SqT K H a xs ∧ Q (.bl (f true)) H
theorem vals_refs : ∀ {xs : List V} {us ws : List Value}, (∀ z ∈ xs, ∃ c, z = .ref c) → Vals xs us → Vals xs ws → us = ws
  | [], us, ws, _, h1, h2 => by cases h1; cases h2; rfl
  | x :: xs, us, ws, h, h1, h2 => by
    cases h1 with
    | cons a r =>
      cases h2 with
      | cons b q =>
        obtain ⟨c, rfl⟩ := h x (List.mem_cons_self ..)
        rw [show _ = Value.ref c from a, show _ = Value.ref c from b, vals_refs (fun z m => h z (List.mem_cons_of_mem _ m)) r q]
theorem all_true (n : Nat) : (List.range n).all (fun _ => true) = true := by simp
theorem op_eqLens (hu : X.A.units + 64 < cLine) : OpR X (compareOp .Eq) (rLens X.K id) := by
  intro pins s σ H x y v u Q I rx ry h
  rcases h with h | h
  · obtain ⟨a, b, xs, ys, rfl, rfl, ha, hb, h⟩ := h
    cases (show v = Value.ref a from rx)
    cases (show u = Value.ref b from ry)
    obtain ⟨us, r1, p1, _⟩ := I.list ha
    obtain ⟨ws, r2, p2, _⟩ := I.list hb
    rcases h with ⟨hn, q⟩ | ⟨hx, hy, q⟩ | ⟨hxy, rf, q⟩
    · refine SeqAt.RcAt.lists_lengths p1.isList p2.isList ?_ (by omega) X.prog X.w X.xe _ ⟨.bl false, H, I, rfl, q⟩
      rw [List.size_toArray, List.size_toArray, ← r1.length, ← r2.length]
      simpa using hn
    · subst hx; subst hy
      have e1 : us = [] := List.length_eq_zero_iff.mp r1.length.symm
      have e2 : ws = [] := List.length_eq_zero_iff.mp r2.length.symm
      subst e1; subst e2
      have := SeqAt.RcAt.lists (e := fun _ => true) p1.isList p2.isList rfl (show X.A.units < cLine by omega) (fun j j1 _ => absurd j1 (Nat.not_lt_zero j))
      exact this X.prog X.w X.xe _ ⟨.bl true, H, I, rfl, q⟩
    · subst hxy
      have e := vals_refs rf r1 r2
      subst e
      have := SeqAt.RcAt.lists (e := fun _ => true) p1.isList p2.isList rfl (show X.A.units < cLine by omega) (fun j j1 _ => SeqAt.EqAt.same _)
      rw [all_true] at this
      exact this X.prog X.w X.xe _ ⟨.bl true, H, I, rfl, q⟩
  · obtain ⟨a, xs, rfl, rfl, ha, q⟩ := h
    cases (show v = Value.ref a from rx)
    cases (show u = Value.ref a from ry)
    obtain ⟨us, r1, p1, _⟩ := I.tuple ha
    have := SeqAt.RcAt.tuples (e := fun _ => true) p1 p1 (show X.A.units < cLine by omega) (fun j j1 _ => SeqAt.EqAt.same _)
    rw [all_true, beq_self_eq_true] at this
    exact this X.prog X.w X.xe _ ⟨.bl true, H, I, rfl, q⟩
theorem op_neLens (hu : X.A.units + 64 < cLine) : OpR X (compareOp .NotEq) (rLens X.K not) := by
  intro pins s σ H x y v u Q I rx ry h
  rcases h with h | h
  · obtain ⟨a, b, xs, ys, rfl, rfl, ha, hb, h⟩ := h
    cases (show v = Value.ref a from rx)
    cases (show u = Value.ref b from ry)
    obtain ⟨us, r1, p1, _⟩ := I.list ha
    obtain ⟨ws, r2, p2, _⟩ := I.list hb
    rcases h with ⟨hn, q⟩ | ⟨hx, hy, q⟩ | ⟨hxy, rf, q⟩
    · refine SeqAt.RcNeAt.lists_lengths p1.isList p2.isList ?_ (by omega) X.prog X.w X.xe _ ⟨.bl true, H, I, rfl, q⟩
      rw [List.size_toArray, List.size_toArray, ← r1.length, ← r2.length]
      simpa using hn
    · subst hx; subst hy
      have e1 : us = [] := List.length_eq_zero_iff.mp r1.length.symm
      have e2 : ws = [] := List.length_eq_zero_iff.mp r2.length.symm
      subst e1; subst e2
      have := SeqAt.RcNeAt.lists (e := fun _ => true) p1.isList p2.isList rfl (show X.A.units < cLine by omega) (fun j j1 _ => absurd j1 (Nat.not_lt_zero j))
      exact this X.prog X.w X.xe _ ⟨.bl false, H, I, rfl, q⟩
    · subst hxy
      have e := vals_refs rf r1 r2
      subst e
      have := SeqAt.RcNeAt.lists (e := fun _ => true) p1.isList p2.isList rfl (show X.A.units < cLine by omega) (fun j j1 _ => SeqAt.EqAt.same _)
      rw [all_true] at this
      exact this X.prog X.w X.xe _ ⟨.bl false, H, I, rfl, q⟩
  · obtain ⟨a, xs, rfl, rfl, ha, q⟩ := h
    cases (show v = Value.ref a from rx)
    cases (show u = Value.ref a from ry)
    obtain ⟨us, r1, p1, _⟩ := I.tuple ha
    have := SeqAt.RcNeAt.tuples (e := fun _ => true) p1 p1 (show X.A.units < cLine by omega) (fun j j1 _ => SeqAt.EqAt.same _)
    rw [all_true, beq_self_eq_true] at this
    exact this X.prog X.w X.xe _ ⟨.bl false, H, I, rfl, q⟩
theorem tags_refs {K : PySem.W.Frag} {H : Hp} {P : Addr → Prop} : ∀ {ds : List D} {vs : List V} {F : List Addr} {as : List Addr}, Reps K ca H P ds vs F → tagsOf ds = some as → vs = as.map .ref
  | _, _, _, _, .nil, e => by cases e; rfl
  | _, _, _, _, .cons (d := d) h r, e => by
    cases d <;> first
      | (cases e; done)
      | (rename_i a d
         rw [tagsOf] at e
         obtain ⟨bs, e1, e2⟩ := Option.map_eq_some_iff.mp e
         subst e2
         cases h with
         | «at» h =>
           rw [tags_refs r e1]
           rfl)
theorem lens_of {d e : D} {v u : V} {F1 F2 : List Addr} {H : Hp} {P P' : Addr → Prop} {σ : L2.St} {Q : VK} {f : Bool → Bool} (r1 : Rep X.K ca H P' d v F1) (r2 : Rep X.K ca H P' e u F2) (h : Post X.K ca W σ H P ((eqL d e).bind fun b => .ok (.bl (f b))) Q) : rLens X.K f v u H Q := by
  unfold eqL at h
  split at h
  · have key : ∀ {o : Bool} {ds : List D} {v : V} {F : List Addr}, Rep X.K ca H P' (.lst o ds) v F → ∃ a vs F', v = .ref a ∧ SqL X.K H a vs ∧ Reps X.K ca H P' ds vs F' := by
      intro o ds v F r
      cases r with
      | own h q => exact ⟨_, _, _, rfl, .inl (.inl h), q⟩
      | frz h _ q => exact ⟨_, _, _, rfl, .inl (.inl h), q⟩
    obtain ⟨a, vs, _, e1, s1, q1⟩ := key r1
    obtain ⟨b, us, _, e2, s2, q2⟩ := key r2
    have l1 := q1.length
    have l2 := q2.length
    refine .inl ⟨a, b, vs, us, e1, e2, s1, s2, ?_⟩
    split at h
    · rename_i hl
      split at h
      · rename_i h0
        exact .inr (.inl ⟨List.length_eq_zero_iff.mp (by omega), List.length_eq_zero_iff.mp (by omega), h.bl⟩)
      · split at h
        · rename_i ht
          rw [Bool.and_eq_true] at ht
          obtain ⟨as, ea⟩ := Option.isSome_iff_exists.mp ht.1
          have eb := (eq_of_beq ht.2).symm.trans ea
          have v1 := tags_refs q1 ea
          have v2 := tags_refs q2 eb
          refine .inr (.inr ⟨v1.trans v2.symm, fun z m => ?_, h.bl⟩)
          rw [v1] at m
          obtain ⟨c, _, ec⟩ := List.mem_map.mp m
          exact ⟨c, ec.symm⟩
        · exact h.elim
    · exact .inl ⟨by omega, h.bl⟩
  · rename_i a d b d'
    split at h
    · rename_i hc
      obtain ⟨rfl, ht⟩ := hc
      cases r1 with
      | «at» r1 =>
        cases r2 with
        | «at» r2 =>
          cases d <;> first
            | (cases ht; done)
            | (cases r1 with
               | tup hs q => exact .inr ⟨_, _, rfl, rfl, hs, h.bl⟩)
    · exact h.elim
  · exact h.elim
theorem does_eq : DoesC X ca (fun x y H Q => rEq x y H Q ∨ (rEqD X.K x y H Q ∨ rLens X.K id x y H Q)) (cmpF .eq) := by
  intro W σ H P P' d e v u F1 F2 Q g1 g2 h
  have r1 := g1.rep
  have r2 := g2.rep
  have deep : ∀ {p q : PyData}, toPy d = some p → toPy e = some q → SeqAt.shaped p = true → SeqAt.shaped q = true → Q (.bl (PyData.eqv p q)) H → rEq v u H Q ∨ (rEqD X.K v u H Q ∨ rLens X.K id v u H Q) := fun e1 e2 s1 s2 q =>
    .inr (.inl ⟨_, _, rep_dp r1 e1, rep_dp r2 e2, s1, s2, q⟩)
  simp only [cmpF] at h
  unfold eqF at h
  split at h
  · cases r1; cases r2; exact .inl ⟨rfl, by rw [dec_int]; exact h.bl⟩
  · cases r1; cases r2; exact .inl ⟨rfl, by rw [dec_str]; exact h.bl⟩
  · cases r1; cases r2; exact .inl ⟨rfl, by rw [dec_bl]; exact h.bl⟩
  · cases r1; cases r2; exact .inl ⟨rfl, by simpa using h.bl⟩
  · cases r1; cases r2; exact .inl ⟨rfl, by simpa using h.bl⟩
  · cases r1; cases r2; exact .inl ⟨rfl, by simpa using h.bl⟩
  · cases r1; cases r2; exact .inl ⟨rfl, by simpa using h.bl⟩
  · cases r1; cases r2; exact .inl ⟨rfl, by simpa using h.bl⟩
  · cases r1; cases r2; exact .inl ⟨rfl, by simpa using h.bl⟩
  · cases r1; cases r2; exact .inl ⟨rfl, by simpa using h.bl⟩
  · split at h
    · rename_i p q e1 e2
      split at h
      · rename_i hs
        rw [Bool.and_eq_true] at hs
        exact deep e1 e2 hs.1 hs.2 h.bl
      · exact h.elim
    · exact .inr (.inr (lens_of (f := id) r1 (r2) h))
theorem does_ne : DoesC X ca (fun x y H Q => rNe x y H Q ∨ (rNeD X.K x y H Q ∨ rLens X.K not x y H Q)) (cmpF .ne) := by
  intro W σ H P P' d e v u F1 F2 Q g1 g2 h
  have r1 := g1.rep
  have r2 := g2.rep
  have deep : ∀ {p q : PyData}, toPy d = some p → toPy e = some q → SeqAt.shaped p = true → SeqAt.shaped q = true → Q (.bl (!PyData.eqv p q)) H → rNe v u H Q ∨ (rNeD X.K v u H Q ∨ rLens X.K not v u H Q) := fun e1 e2 s1 s2 q =>
    .inr (.inl ⟨_, _, rep_dp r1 e1, rep_dp r2 e2, s1, s2, q⟩)
  simp only [cmpF] at h
  unfold eqF at h
  split at h
  · cases r1; cases r2; exact .inl ⟨rfl, by rw [dec_int]; exact h.bl⟩
  · cases r1; cases r2; exact .inl ⟨rfl, by rw [dec_str]; exact h.bl⟩
  · cases r1; cases r2; exact .inl ⟨rfl, by rw [dec_bl]; exact h.bl⟩
  · cases r1; cases r2; exact .inl ⟨rfl, by simpa using h.bl⟩
  · cases r1; cases r2; exact .inl ⟨rfl, by simpa using h.bl⟩
  · cases r1; cases r2; exact .inl ⟨rfl, by simpa using h.bl⟩
  · cases r1; cases r2; exact .inl ⟨rfl, by simpa using h.bl⟩
  · cases r1; cases r2; exact .inl ⟨rfl, by simpa using h.bl⟩
  · cases r1; cases r2; exact .inl ⟨rfl, by simpa using h.bl⟩
  · cases r1; cases r2; exact .inl ⟨rfl, by simpa using h.bl⟩
  · split at h
    · rename_i p q e1 e2
      split at h
      · rename_i hs
        rw [Bool.and_eq_true] at hs
        exact deep e1 e2 hs.1 hs.2 h.bl
      · exact h.elim
    · have h' : Post X.K ca W σ H P ((eqL d e).bind fun b => .ok (.bl (!b))) Q := by
        revert h
        cases eqL d e <;> exact id
      exact .inr (.inr (lens_of (f := not) r1 (r2) h'))
theorem does_lt : DoesC X ca (rI0 fun i j => .bl (decide (i < j))) (cmpF .lt) := by
  intro W σ H P P' d e v u F1 F2 Q g1 g2 h
  obtain ⟨r1, _, _⟩ := g1
  obtain ⟨r2, _, _⟩ := g2
  cases d <;> cases e <;> simp only [cmpF] at h <;> try exact h.elim
  cases r1; cases r2
  exact ⟨_, _, rfl, rfl, h.bl⟩
theorem does_le : DoesC X ca (rI0 fun i j => .bl (decide (i ≤ j))) (cmpF .le) := by
  intro W σ H P P' d e v u F1 F2 Q g1 g2 h
  obtain ⟨r1, _, _⟩ := g1
  obtain ⟨r2, _, _⟩ := g2
  cases d <;> cases e <;> simp only [cmpF] at h <;> try exact h.elim
  cases r1; cases r2
  exact ⟨_, _, rfl, rfl, h.bl⟩
theorem does_gt : DoesC X ca (rI0 fun i j => .bl (decide (j < i))) (cmpF .gt) := by
  intro W σ H P P' d e v u F1 F2 Q g1 g2 h
  obtain ⟨r1, _, _⟩ := g1
  obtain ⟨r2, _, _⟩ := g2
  cases d <;> cases e <;> simp only [cmpF] at h <;> try exact h.elim
  cases r1; cases r2
  exact ⟨_, _, rfl, rfl, h.bl⟩
theorem does_ge : DoesC X ca (rI0 fun i j => .bl (decide (j ≤ i))) (cmpF .ge) := by
  intro W σ H P P' d e v u F1 F2 Q g1 g2 h
  obtain ⟨r1, _, _⟩ := g1
  obtain ⟨r2, _, _⟩ := g2
  cases d <;> cases e <;> simp only [cmpF] at h <;> try exact h.elim
  cases r1; cases r2
  exact ⟨_, _, rfl, rfl, h.bl⟩
theorem isNon_rep {K : PySem.W.Frag} {H : Hp} {P : Addr → Prop} {d : D} {v : V} {F : List Addr} (r : Rep K ca H P d v F) : decide (v = .non) = isNon d := by
  cases r <;> rfl
theorem does_is : DoesC X ca (fun x y H Q => (y = .non ∧ Q (.bl (decide (x = .non))) H) ∨ rIsB x y H Q) (cmpF .is) := by
  intro W σ H P P' d e v u F1 F2 Q g1 g2 h
  obtain ⟨r1, _, _⟩ := g1
  obtain ⟨r2, _, _⟩ := g2
  unfold cmpF at h
  split at h <;> try (exact h.elim)
  all_goals first
    | (rename_i e; cases e)
    | skip
  · cases r2
    exact .inl ⟨rfl, by rw [isNon_rep r1]; exact h.bl⟩
  · cases r1; cases r2
    refine .inr ⟨_, _, rfl, rfl, ?_⟩
    rw [← Bool.beq_eq_decide_eq]
    exact h.bl
theorem does_nis : DoesC X ca (fun x y H Q => (y = .non ∧ Q (.bl (!decide (x = .non))) H) ∨ rNotB x y H Q) (cmpF .nis) := by
  intro W σ H P P' d e v u F1 F2 Q g1 g2 h
  obtain ⟨r1, _, _⟩ := g1
  obtain ⟨r2, _, _⟩ := g2
  unfold cmpF at h
  split at h <;> try (exact h.elim)
  all_goals first
    | (rename_i e; cases e)
    | skip
  · cases r2
    exact .inl ⟨rfl, by rw [isNon_rep r1]; exact h.bl⟩
  · cases r1; cases r2
    refine .inr ⟨_, _, rfl, rfl, ?_⟩
    rw [← Bool.beq_eq_decide_eq]
    exact h.bl
end
end Ev
namespace Ev
open PySem L2
section
variable {X : Cx} {ca : String → Option Addr} {G : Gam} {W : WE}
variable {a b c : Expr} {a' b' c' : E} {pos : Pos}

/-! ## in, not in -/
def flatOf : D → V
  | .non => .non | .bl b => .bl b | .int i => .int i | .str s => .str s
  | _ => .non
theorem flat_rep {K : PySem.W.Frag} {H : Hp} {P : Addr → Prop} {d : D} {v : V} {F : List Addr} (r : Rep K ca H P d v F) (h : flatD d = true) : v = flatOf d ∧ flatV v = true := by
  cases r <;> first
    | exact ⟨rfl, rfl⟩
    | cases h
theorem flat_reps {K : PySem.W.Frag} {H : Hp} {P : Addr → Prop} : ∀ {ds : List D} {vs : List V} {F : List Addr}, Reps K ca H P ds vs F → ds.all flatD = true → vs = ds.map flatOf ∧ vs.all flatV = true
  | _, _, _, .nil, _ => ⟨rfl, rfl⟩
  | _, _, _, .cons h r, e => by
    rw [List.all_cons, Bool.and_eq_true] at e
    obtain ⟨e1, e2⟩ := flat_rep h e.1
    obtain ⟨e3, e4⟩ := flat_reps r e.2
    exact ⟨by rw [e1, e3]; rfl, by rw [List.all_cons, e2, e4]; rfl⟩
theorem flat_eq {d e : D} (h : flatD d = true) (h2 : flatD e = true) : eqV (flatOf d) (flatOf e) = eqD d e := by
  cases d <;> cases e <;> first | rfl | (simp [flatD] at h; done) | (simp [flatD] at h2; done)
theorem flat_in {x : D} {xs : List D} (h : flatD x = true) (h2 : xs.all flatD = true) : inV (flatOf x) (xs.map flatOf) = xs.any fun y => eqD y x := by
  unfold inV
  induction xs with
  | nil => rfl
  | cons y r ih =>
    rw [List.all_cons, Bool.and_eq_true] at h2
    rw [List.map_cons, List.any_cons, List.any_cons, ih h2.2, flat_eq h2.1 h]
theorem does_inG {nb : Bool} {g : Bool → Bool} {f : Cop} (hg : ∀ c, g c = if nb then !c else c)
    (hl : ∀ d o xs, cmpF f d (.lst o xs) = (inF true d xs).bind fun b => .ok (g b)) (ht : ∀ d xs, cmpF f d (.tup xs) = (inF false d xs).bind fun b => .ok (g b))
    (hs : ∀ x y : Str, cmpF f (.str x) (.str y) = match x.cps.toList with | [c] => .ok (g (decide (c ∈ y.cps.toList))) | _ => .st)
    (ho : ∀ d e, (∀ o xs, e ≠ .lst o xs) → (∀ xs, e ≠ .tup xs) → (∀ x y, d = .str x → e = .str y → False) → cmpF f d e = .st) :
    DoesC X ca (fun x y H Q => (rIn X.K nb x y H Q) ∨ (∃ d ds, Dp X.K H x d ∧ Dp X.K H y (.list ds) ∧ SeqAt.shaped d = true ∧ SeqAt.shaped (.list ds) = true ∧ Q (.bl (g (ds.any fun z => PyData.eqv z d))) H) ∨
      (∃ (c : Nat) (z : Str), x = .str ⟨#[c]⟩ ∧ y = .str z ∧ Q (.bl (g (decide (c ∈ z.cps.toList)))) H)) (cmpF f) := by
  intro W σ H P P' d e v u F1 F2 Q g1 g2 h
  have r1 := g1.rep
  have r2 := g2.rep
  have flat : ∀ {l : Bool} {p : Addr} {xs : List D} {vs : List V} {F : List Addr}, (SqL X.K H p vs ∨ SqT X.K H p vs) → Reps X.K ca H P' xs vs F →
      Post X.K ca W σ H P (((inF l d xs).bind fun b => .ok (g b)).bind fun b => .ok (.bl b)) Q → u = .ref p → (l = true → ∀ ps, toPys xs = some ps → Dp X.K H u (.list ps)) →
      rIn X.K nb v u H Q ∨ (∃ d ds, Dp X.K H v d ∧ Dp X.K H u (.list ds) ∧ SeqAt.shaped d = true ∧ SeqAt.shaped (.list ds) = true ∧ Q (.bl (g (ds.any fun z => PyData.eqv z d))) H) := by
    intro l p xs vs F hq r h eu hd
    unfold inF at h
    split at h
    · rename_i hf
      rw [Bool.and_eq_true] at hf
      obtain ⟨e1, e2⟩ := flat_rep r1 hf.1
      obtain ⟨e3, e4⟩ := flat_reps r hf.2
      refine .inl ⟨p, vs, eu, hq, e2, e4, ?_⟩
      rw [e1, e3, flat_in hf.1 hf.2, ← hg]
      exact h.bl
    · split at h
      · rename_i hl
        split at h
        · rename_i p' qs ep eq
          split at h
          · rename_i hs
            rw [Bool.and_eq_true] at hs
            exact .inr ⟨p', qs, rep_dp r1 ep, hd hl qs eq, hs.1, hs.2, h.bl⟩
          · exact h.elim
        · exact h.elim
      · exact h.elim
  cases r2 with
  | own hh r =>
    rw [hl] at h
    exact (flat (.inl (.inl (.inl hh))) r h rfl fun _ ps e => .lst (.inl (.inl hh)) (reps_dp r e)).elim .inl fun z => .inr (.inl z)
  | frz hh p r =>
    rw [hl] at h
    exact (flat (.inl (.inl (.inl hh))) r h rfl fun _ ps e => .lst (.inl (.inl hh)) (reps_dp r e)).elim .inl fun z => .inr (.inl z)
  | tup hh r =>
    rw [ht] at h
    exact (flat (.inr hh) r h rfl fun z => by cases z).elim .inl fun z => .inr (.inl z)
  | str y =>
    cases r1 with
    | str x =>
      rw [hs] at h
      split at h
      · rename_i c e
        refine .inr (.inr ⟨c, y, ?_, rfl, h.bl⟩)
        obtain ⟨l⟩ := x
        have e' : l.toList = [c] := e
        rw [show l = #[c] from Array.toList_inj.mp e']
      · exact h.elim
    | _ => rw [ho _ _ (by intros; simp) (by intros; simp) (by intro x y e; cases e)] at h; exact h.elim
  | _ => rw [ho _ _ (by intros; simp) (by intros; simp) (by intro x y e1 e2; cases e2)] at h; exact h.elim
theorem does_in : DoesC X ca (fun x y H Q => (rIn X.K false x y H Q) ∨ rInD X.K x y H Q ∨ (∃ (c : Nat) (z : Str), x = .str ⟨#[c]⟩ ∧ y = .str z ∧ Q (.bl (decide (c ∈ z.cps.toList))) H)) (cmpF .in_) := by
  refine does_inG (nb := false) (g := fun b => b) (fun c => by simp) (fun d o xs => ?_) (fun d xs => ?_) (fun x y => ?_) (fun d e h1 h2 h3 => ?_)
  · simp only [cmpF]; cases inF true d xs <;> rfl
  · simp only [cmpF]; cases inF false d xs <;> rfl
  · rfl
  · unfold cmpF
    split <;> first
      | rfl
      | exact absurd rfl (h1 _ _)
      | exact absurd rfl (h2 _)
      | exact (h3 _ _ rfl rfl).elim
      | (rename_i z; cases z)
theorem does_nin : DoesC X ca (fun x y H Q => (rIn X.K true x y H Q) ∨ rNotInD X.K x y H Q ∨ (∃ (c : Nat) (z : Str), x = .str ⟨#[c]⟩ ∧ y = .str z ∧ Q (.bl (!decide (c ∈ z.cps.toList))) H)) (cmpF .nin) := by
  refine does_inG (nb := true) (g := fun b => !b) (fun c => by simp) (fun d o xs => ?_) (fun d xs => ?_) (fun x y => ?_) (fun d e h1 h2 h3 => ?_)
  · simp only [cmpF]
  · simp only [cmpF]
  · rfl
  · unfold cmpF
    split <;> first
      | rfl
      | exact absurd rfl (h1 _ _)
      | exact absurd rfl (h2 _)
      | exact (h3 _ _ rfl rfl).elim
      | (rename_i z; cases z)
theorem se_eq (ha : SE X ca G W a a') (hb : SE X ca G W b b') (hu : X.A.units + 64 < cLine) : SE X ca G W (.Compare a [.Eq] [b] pos) (.cmp .eq a' b') := se_cmp (op_eq.or ((op_eqD hu).or (op_eqLens hu))) does_eq ha hb (nomark _)
theorem se_ne (ha : SE X ca G W a a') (hb : SE X ca G W b b') (hu : X.A.units + 64 < cLine) : SE X ca G W (.Compare a [.NotEq] [b] pos) (.cmp .ne a' b') := se_cmp (op_ne.or ((op_neD hu).or (op_neLens hu))) does_ne ha hb (nomark _)
theorem se_lt (ha : SE X ca G W a a') (hb : SE X ca G W b b') : SE X ca G W (.Compare a [.Lt] [b] pos) (.cmp .lt a' b') := se_cmp op_lt does_lt ha hb (nomark _)
theorem se_le (ha : SE X ca G W a a') (hb : SE X ca G W b b') : SE X ca G W (.Compare a [.LtE] [b] pos) (.cmp .le a' b') := se_cmp op_le does_le ha hb (nomark _)
theorem se_gt (ha : SE X ca G W a a') (hb : SE X ca G W b b') : SE X ca G W (.Compare a [.Gt] [b] pos) (.cmp .gt a' b') := se_cmp op_gt does_gt ha hb (nomark _)
theorem se_ge (ha : SE X ca G W a a') (hb : SE X ca G W b b') : SE X ca G W (.Compare a [.GtE] [b] pos) (.cmp .ge a' b') := se_cmp op_ge does_ge ha hb (nomark _)
theorem se_is (ha : SE X ca G W a a') (hb : SE X ca G W b b') : SE X ca G W (.Compare a [.Is] [b] pos) (.cmp .is a' b') := se_cmp (op_isN.or op_isBl) does_is ha hb (nomark _)
theorem se_nis (ha : SE X ca G W a a') (hb : SE X ca G W b b') : SE X ca G W (.Compare a [.IsNot] [b] pos) (.cmp .nis a' b') := se_cmp (op_notN.or op_notBl) does_nis ha hb (nomark _)
theorem se_in (ha : SE X ca G W a a') (hb : SE X ca G W b b') (hu : X.A.units + 65 < cLine) (hm : behindInMarks .In b = false := by rfl) : SE X ca G W (.Compare a [.In] [b] pos) (.cmp .in_ a' b') := se_cmp (op_in_seq.or ((op_inD hu).or op_in_sign)) does_in ha hb hm
theorem se_nin (ha : SE X ca G W a a') (hb : SE X ca G W b b') (hu : X.A.units + 65 < cLine) (hm : behindInMarks .NotIn b = false := by rfl) : SE X ca G W (.Compare a [.NotIn] [b] pos) (.cmp .nin a' b') := se_cmp (op_notIn_seq.or ((op_notInD hu).or op_notIn_sign)) does_nin ha hb hm
theorem st_eq (ha : SE X ca G W a a') (hb : SE X ca G W b b') (hu : X.A.units + 64 < cLine) : STt X ca G W (.Compare a [.Eq] [b] pos) (.cmp .eq a' b') := st_cmp (op_eq.or ((op_eqD hu).or (op_eqLens hu))) does_eq ha hb (nomark _)
theorem st_ne (ha : SE X ca G W a a') (hb : SE X ca G W b b') (hu : X.A.units + 64 < cLine) : STt X ca G W (.Compare a [.NotEq] [b] pos) (.cmp .ne a' b') := st_cmp (op_ne.or ((op_neD hu).or (op_neLens hu))) does_ne ha hb (nomark _)
theorem st_lt (ha : SE X ca G W a a') (hb : SE X ca G W b b') : STt X ca G W (.Compare a [.Lt] [b] pos) (.cmp .lt a' b') := st_cmp op_lt does_lt ha hb (nomark _)
theorem st_le (ha : SE X ca G W a a') (hb : SE X ca G W b b') : STt X ca G W (.Compare a [.LtE] [b] pos) (.cmp .le a' b') := st_cmp op_le does_le ha hb (nomark _)
theorem st_gt (ha : SE X ca G W a a') (hb : SE X ca G W b b') : STt X ca G W (.Compare a [.Gt] [b] pos) (.cmp .gt a' b') := st_cmp op_gt does_gt ha hb (nomark _)
theorem st_ge (ha : SE X ca G W a a') (hb : SE X ca G W b b') : STt X ca G W (.Compare a [.GtE] [b] pos) (.cmp .ge a' b') := st_cmp op_ge does_ge ha hb (nomark _)
theorem st_is (ha : SE X ca G W a a') (hb : SE X ca G W b b') : STt X ca G W (.Compare a [.Is] [b] pos) (.cmp .is a' b') := st_cmp (op_isN.or op_isBl) does_is ha hb (nomark _)
theorem st_nis (ha : SE X ca G W a a') (hb : SE X ca G W b b') : STt X ca G W (.Compare a [.IsNot] [b] pos) (.cmp .nis a' b') := st_cmp (op_notN.or op_notBl) does_nis ha hb (nomark _)
theorem st_in (ha : SE X ca G W a a') (hb : SE X ca G W b b') (hu : X.A.units + 65 < cLine) (hm : behindInMarks .In b = false := by rfl) : STt X ca G W (.Compare a [.In] [b] pos) (.cmp .in_ a' b') := st_cmp (op_in_seq.or ((op_inD hu).or op_in_sign)) does_in ha hb hm
theorem st_nin (ha : SE X ca G W a a') (hb : SE X ca G W b b') (hu : X.A.units + 65 < cLine) (hm : behindInMarks .NotIn b = false := by rfl) : STt X ca G W (.Compare a [.NotIn] [b] pos) (.cmp .nin a' b') := st_cmp (op_notIn_seq.or ((op_notInD hu).or op_notIn_sign)) does_nin ha hb hm

/-! ## Tests, and, or, not -/
theorem st_val (h : SE X ca G W a a') (he : ∀ whole, isTrue a X.env whole = (do let v ← whole; standAt a.pos; holding [v] (truthy v)) := by intro _; rfl) : STt X ca G W a a' :=
  PT.imp (pt_val h he) fun σ H Q q => tT_tE q
abbrev SW (X : Cx) (ca : String → Option Addr) (G : Gam) (W : WE) (e : Expr) (e' : E) : Prop := PW X e (tT X.K ca G W e')
theorem sw_and1 (h : STt X ca G W a a') : SW X ca G W (.BoolOp .And [a] pos) a' := pw_and1 h
theorem sw_or1 (h : STt X ca G W a a') : SW X ca G W (.BoolOp .Or [a] pos) a' := pw_or1 h
theorem PW.imp {e : Expr} {t t' : TT} (h : PW X e t) (i : ∀ σ H Q, t' σ H Q → t σ H Q) : PW X e t' := ⟨fun wh pins s σ H Q I q => h.run wh pins s σ H Q I (i σ H Q q)⟩
/-- a truth, then what hangs on it -/
theorem t_truth {K : PySem.W.Frag} {σ : L2.St} {H : Hp} {P : Addr → Prop} {ρ : Env} {a : E} {k : D → Res D} {R : Bool → Hp → Prop} (hB : BEnv K ca ρ σ H P) (hP : Trk P H)
    {S : Res D → Hp → Prop} (hst : ∀ H', ¬ S .st H') (her : ∀ c, S (.er c) H → ∀ H', Ex H H' → W c σ H') (h : S ((ev G ρ a).bind k) H) (hk : ∀ d, (∀ b, d ≠ .bl b) → k d = .st) (hm : ∀ r H', S r H → Ex H H' → S r H')
    (hR : ∀ b H1, Ex H H1 → S (k (.bl b)) H1 → R b H1) : tT K ca G W a σ H R := by
  refine ⟨ρ, P, hB, hP, ?_⟩
  cases e1 : ev G ρ a with
  | st => rw [e1] at h; exact (hst _ h).elim
  | er c => rw [e1] at h; exact her c h
  | ok d =>
    rw [e1] at h
    cases d with
    | bl b => exact fun H' x => hR b H' x (hm _ _ h x)
    | _ => exact (hst _ (by have h' : S (k _) H := h; rw [hk _ (by simp)] at h'; exact h')).elim
theorem sw_and {rest : List Expr} (ha : STt X ca G W a a') (hb : SW X ca G W (.BoolOp .And (b :: rest) pos) b') : SW X ca G W (.BoolOp .And (a :: b :: rest) pos) (.and a' b') := by
  refine PW.imp (pw_and ha hb) fun σ H Q ⟨ρ, P, hB, hP, h⟩ => ?_
  rw [ev] at h
  refine t_truth (S := fun r H' => PostT W σ H' r Q) hB hP (fun _ z => z) (fun c z => z) h (fun d hd => by cases d <;> first | rfl | exact absurd rfl (hd _)) (fun r H' z x => z.mono x) fun r H1 x q => ?_
  cases r with
  | false => exact q H1 (Ex.refl H1)
  | true =>
    refine ⟨ρ, P, hB.ext x, hP.ext x, ?_⟩
    cases e2 : ev G ρ b' with
    | st => simp only [e2] at q; exact q
    | er c => simp only [e2] at q; exact q
    | ok e => simp only [e2] at q; cases e <;> exact q
theorem sw_or {rest : List Expr} (ha : STt X ca G W a a') (hb : SW X ca G W (.BoolOp .Or (b :: rest) pos) b') : SW X ca G W (.BoolOp .Or (a :: b :: rest) pos) (.or a' b') := by
  refine PW.imp (pw_or ha hb) fun σ H Q ⟨ρ, P, hB, hP, h⟩ => ?_
  rw [ev] at h
  refine t_truth (S := fun r H' => PostT W σ H' r Q) hB hP (fun _ z => z) (fun c z => z) h (fun d hd => by cases d <;> first | rfl | exact absurd rfl (hd _)) (fun r H' z x => z.mono x) fun r H1 x q => ?_
  cases r with
  | true => exact q H1 (Ex.refl H1)
  | false =>
    refine ⟨ρ, P, hB.ext x, hP.ext x, ?_⟩
    cases e2 : ev G ρ b' with
    | st => simp only [e2] at q; exact q
    | er c => simp only [e2] at q; exact q
    | ok e => simp only [e2] at q; cases e <;> exact q
theorem st_w (h : SW X ca G W a a') : STt X ca G W a a' := h.pt
theorem st_not (ha : STt X ca G W a a') : STt X ca G W (.UnaryOp .Not a pos) (.not a') := by
  refine PT.imp (pt_not ha) fun σ H Q ⟨ρ, P, hB, hP, h⟩ => ?_
  rw [ev] at h
  exact t_truth (S := fun r H' => PostT W σ H' r Q) hB hP (fun _ z => z) (fun c z => z) h (fun d hd => by cases d <;> first | rfl | exact absurd rfl (hd _)) (fun r H' z x => z.mono x) fun r H1 x q => q H1 (Ex.refl H1)
theorem se_one {op : BoolOp} (h : SE X ca G W a a') : SE X ca G W (.BoolOp op [a] pos) a' := pe_one h
theorem se_and {rest : List Expr} (ha : SE X ca G W a a') (hb : SE X ca G W (.BoolOp .And (b :: rest) pos) b') : SE X ca G W (.BoolOp .And (a :: b :: rest) pos) (.and a' b') := by
  refine PE.imp (pe_and ha hb) fun σ H Q ⟨ρ, P, hB, hP, h⟩ => ?_
  rw [ev] at h
  refine t_one hB hP h fun d v H1 P' F x g q => ?_
  obtain ⟨r, _, _⟩ := g
  cases d <;> try exact q.elim
  rename_i k
  cases r
  refine ⟨k, rfl, ?_⟩
  cases k with
  | false => exact q.bl
  | true =>
    refine ⟨ρ, P, hB.ext x, hP.ext x, ?_⟩
    cases e2 : ev G ρ b' with
    | st => simp only [e2] at q; exact q
    | er c => simp only [e2] at q; exact q
    | ok e => simp only [e2] at q; cases e <;> first | exact q | exact q.elim
theorem se_or {rest : List Expr} (ha : SE X ca G W a a') (hb : SE X ca G W (.BoolOp .Or (b :: rest) pos) b') : SE X ca G W (.BoolOp .Or (a :: b :: rest) pos) (.or a' b') := by
  refine PE.imp (pe_or ha hb) fun σ H Q ⟨ρ, P, hB, hP, h⟩ => ?_
  rw [ev] at h
  refine t_one hB hP h fun d v H1 P' F x g q => ?_
  obtain ⟨r, _, _⟩ := g
  cases d <;> try exact q.elim
  rename_i k
  cases r
  refine ⟨k, rfl, ?_⟩
  cases k with
  | true => exact q.bl
  | false =>
    refine ⟨ρ, P, hB.ext x, hP.ext x, ?_⟩
    cases e2 : ev G ρ b' with
    | st => simp only [e2] at q; exact q
    | er c => simp only [e2] at q; exact q
    | ok e => simp only [e2] at q; cases e <;> first | exact q | exact q.elim
theorem se_not (ha : SE X ca G W a a') : SE X ca G W (.UnaryOp .Not a pos) (.not a') := by
  refine PE.imp (pe_not ha) fun σ H Q ⟨ρ, P, hB, hP, h⟩ => ?_
  rw [ev] at h
  refine t_one hB hP h fun d v H1 P' F x g q => ?_
  obtain ⟨r, _, _⟩ := g
  cases d <;> try exact q.elim
  rename_i k
  cases r
  exact ⟨k, rfl, q.bl⟩
end
end Ev
namespace Ev
open PySem L2
section
variable {X : Cx} {ca : String → Option Addr} {G : Gam} {W : WE}
variable {a b c : Expr} {a' b' c' : E} {pos : Pos}

/-! ## a < b < c -/
theorem Got.ext {K : PySem.W.Frag} {H H' : Hp} {P P' : Addr → Prop} {d : D} {v : V} {F : List Addr} (g : Got K ca H P P' d v F) (e : Ex H H') : Got K ca H' P P' d v F := ⟨g.rep.ext e, g.sub, g.off⟩
theorem chain_core {r r' : R2} {f1 f2 : Cop} {σ : L2.St} {H : Hp} {Q : VK} (hd : DoesC X ca r (cmpF f1)) (hd' : DoesC X ca r' (cmpF f2)) (h : tE X.K ca G W (.chain f1 f2 a' b' c') σ H Q) :
    tChain r r' (tE X.K ca G W a') (tE X.K ca G W b') (tE X.K ca G W c') σ H Q := by
  obtain ⟨ρ, P, hB, hP, h⟩ := h
  rw [ev] at h
  refine t_two hB hP h fun d e v u H2 P' F1 F2 x g1 g2 q => ?_
  refine hd W σ H2 P P' d e v u F1 F2 _ g1 g2 ?_
  cases e1 : cmpF f1 d e with
  | st => rw [e1] at q; exact q
  | er c => rw [e1] at q; exact q
  | ok k =>
    rw [e1] at q
    show Post X.K ca W σ H2 P (.ok (.bl k)) _
    intro w H3 F x3 _ _ rk
    cases rk
    refine ⟨k, rfl, ?_⟩
    have q' : Post X.K ca W σ H2 P (if k = true then (ev G ρ c').bind fun f => (cmpF f2 e f).bind fun r2 => .ok (.bl r2) else .ok (.bl false)) Q := q
    cases k with
    | false =>
      rw [if_neg Bool.false_ne_true] at q' ⊢
      exact (q'.mono x3 fun _ p => p).bl
    | true =>
      rw [if_pos rfl] at q' ⊢
      refine t_one (hB.ext (x.trans x3)) (hP.ext (x.trans x3)) (q'.mono x3 fun _ p => p) fun f w4 H4 P4 F4 x4 g4 q4 => ?_
      exact hd' W σ H4 P _ e f u w4 F2 F4 Q ⟨(g2.rep.ext (x3.trans x4)).forb fun a z => .inl (g2.sub a z), fun _ p => p, g2.off⟩ ⟨g4.rep.forb fun a z => .inl (g4.sub a z), fun _ p => p, g4.off⟩ q4
theorem does_rng {o : CmpOp} {f : Cop} {g : Int → Int → Bool} (h : (o = .Lt ∧ f = .lt) ∨ (o = .LtE ∧ f = .le)) : True := trivial
theorem se_chain {o1 o2 : CmpOp} {r r' : R2} {f1 f2 : Cop} (h1 : OpR X (compareOp o1) r) (h2 : OpR X (compareOp o2) r') (d1 : DoesC X ca r (cmpF f1)) (d2 : DoesC X ca r' (cmpF f2)) (ha : SE X ca G W a a') (hb : SE X ca G W b b') (hc : SE X ca G W c c')
    (hm : lastMarks [o1, o2] [b, c] = false := by with_unfolding_all rfl) : SE X ca G W (.Compare a [o1, o2] [b, c] pos) (.chain f1 f2 a' b' c') := PE.imp (pe_chain h1 h2 ha hb hc hm) fun σ H Q h => chain_core d1 d2 h
theorem st_chain {o1 o2 : CmpOp} {r r' : R2} {f1 f2 : Cop} (h1 : OpR X (compareOp o1) r) (h2 : OpR X (compareOp o2) r') (d1 : DoesC X ca r (cmpF f1)) (d2 : DoesC X ca r' (cmpF f2)) (ha : SE X ca G W a a') (hb : SE X ca G W b b') (hc : SE X ca G W c c')
    (hm : lastMarks [o1, o2] [b, c] = false := by with_unfolding_all rfl) : STt X ca G W (.Compare a [o1, o2] [b, c] pos) (.chain f1 f2 a' b' c') := PT.imp (pt_chain h1 h2 ha hb hc hm) fun σ H Q h => chain_core d1 d2 (tT_tE h)

/-! ## Argument lists, displays -/
theorem sa_nil : SA X ca G W [] .nil := PA.imp pa_nil fun σ H Q ⟨ρ, P, hB, hP, h⟩ => h [] H [] (Ex.refl H) List.nodup_nil (by simp) .nil
theorem nodup_app {F1 F2 : List Addr} (n1 : F1.Nodup) (n2 : F2.Nodup) (h : ∀ a ∈ F1, a ∉ F2) : (F1 ++ F2).Nodup := List.nodup_append.mpr ⟨n1, n2, fun a m b m' e => h a m (e ▸ m')⟩
theorem sa_cons {es : List Expr} {as' : E} (ha : SE X ca G W a a') (hr : SA X ca G W es as') (hs : starEach (a :: es) X.env = (false, eval a X.env) :: starEach es X.env := by rfl) : SA X ca G W (a :: es) (.cons a' as') := by
  refine PA.imp (pa_cons ha hr hs) fun σ H Q ⟨ρ, P, hB, hP, h⟩ => ?_
  rw [evs] at h
  show tE X.K ca G W a' σ H _
  refine ⟨ρ, P, hB, hP, ?_⟩
  cases e1 : ev G ρ a' with
  | st => rw [e1] at h; exact h
  | er c => rw [e1] at h; exact h
  | ok d =>
    rw [e1] at h
    intro v H1 F1 x1 n1 f1 r1
    have t1 : Trk (fun a => P a ∨ a ∈ F1) H1 := fun a z n => by
      rcases z with z | z
      · exact hP.ext x1 a z n
      · obtain ⟨vs, e, _⟩ := r1.tracked a z
        rw [e] at n; cases n
    refine ⟨ρ, fun a => P a ∨ a ∈ F1, (hB.forb fun a z => z.elim .inl fun m => .inr (f1 a m)).ext x1, t1, ?_⟩
    have h' : PostA X.K ca W σ H P ((evs G ρ as').bind fun ds => .ok (d :: ds)) Q := h
    cases e2 : evs G ρ as' with
    | st => rw [e2] at h'; exact h'
    | er c => rw [e2] at h'; exact fun H2 x2 => h' H2 (x1.trans x2)
    | ok ds =>
      rw [e2] at h'
      intro vs H2 F2 x2 n2 f2 r2
      refine h' (v :: vs) H2 (F1 ++ F2) (x1.trans x2) (nodup_app n1 n2 fun a m m' => ?_) (fun a m => (List.mem_append.mp m).elim (f1 a) fun m => x1.back (f2 a m)) (.cons ?_ ?_)
      · obtain ⟨ws, e, _⟩ := r1.tracked a m
        rw [f2 a m'] at e; cases e
      · exact (r1.forb fun a z => by
          rcases z with z | z
          · exact .inl (.inl z)
          · exact (List.mem_append.mp z).elim (fun m => .inl (.inr m)) fun m => .inr (f2 a m)).ext x2
      · exact r2.forb fun a z => by
          rcases z with z | z
          · exact .inl (.inl (.inl z))
          · exact (List.mem_append.mp z).elim (fun m => .inl (.inl (.inr m))) fun m => .inl (.inr m)
/-- from the values of an argument list on -/
theorem t_args {as' : E} {K : PySem.W.Frag} {σ : L2.St} {H : Hp} {P : Addr → Prop} {ρ : Env} {Q : VK} {k : List D → Res D} {R : List V → Hp → Prop} (hB : BEnv K ca ρ σ H P) (hP : Trk P H) (h : Post K ca W σ H P ((evs G ρ as').bind k) Q)
    (hR : ∀ ds vs H1 F, Ex H H1 → F.Nodup → (∀ a ∈ F, H a = none) → Reps K ca H1 (fun a => P a ∨ a ∈ F) ds vs F → Post K ca W σ H P (k ds) Q → R vs H1) : tA K ca G W as' σ H R := by
  refine ⟨ρ, P, hB, hP, ?_⟩
  cases e1 : evs G ρ as' with
  | st => rw [e1] at h; exact h
  | er c => rw [e1] at h; exact h
  | ok ds =>
    rw [e1] at h
    exact fun vs H1 F x n f r => hR ds vs H1 F x n f r h
theorem se_tup {es : List Expr} {as' : E} {k : Nat} (ha : SA X ca G W es as') : SE X ca G W (.Tuple es k pos) (.tup as') := by
  refine PE.imp (pe_tup ha) fun σ H Q ⟨ρ, P, hB, hP, h⟩ => ?_
  rw [ev] at h
  refine t_args hB hP h fun ds vs H1 F x n f r q => ?_
  split at q
  · rename_i hl
    refine ⟨by rw [← r.length, sizeLine_eq]; exact hl, fun p hp => ?_⟩
    exact q _ _ F (x.trans (Ex.new hp)) n f (.tup (.inl (.inl upd_same)) (r.ext (Ex.new hp)))
  · exact q.elim
theorem se_lst {es : List Expr} {as' : E} (ha : SA X ca G W es as') : SE X ca G W (.List es pos) (.lst as') := by
  refine PE.imp (pe_lst ha) fun σ H Q ⟨ρ, P, hB, hP, h⟩ => ?_
  rw [ev] at h
  refine t_args hB hP h fun ds vs H1 F x n f r q => ?_
  split at q
  · rename_i hl
    refine ⟨by rw [← r.length, sizeLine_eq]; exact hl, fun p hp => ?_⟩
    refine q _ _ (p :: F) (x.trans (Ex.new hp)) (List.nodup_cons.mpr ⟨fun m => ?_, n⟩) (fun a m => ?_) (.own upd_same ((r.forb fun a z => ?_).ext (Ex.new hp)))
    · obtain ⟨ws, e, _⟩ := r.tracked p m
      rw [hp] at e; cases e
    · rcases List.mem_cons.mp m with e | m
      · rw [e]; exact x.back hp
      · exact f a m
    · rcases z with z | z
      · exact .inl (.inl z)
      · rcases List.mem_cons.mp z with e | m
        · rw [e]; exact .inr hp
        · exact .inl (.inr m)
  · exact q.elim

/-! ## Items, slices, fields -/
theorem reps_atI {K : PySem.W.Frag} {H : Hp} {P : Addr → Prop} {ds : List D} {vs : List V} {i : Int} {d : D} (r : Reps K ca H P (shares ds) vs []) (h : atI ds i = some d) : ∃ v, atI vs i = some v ∧ Rep K ca H P (share d) v [] := by
  have l : ds.length = vs.length := by rw [← r.length, shares_map, List.length_map]
  unfold atI at h ⊢
  rw [l] at h
  cases e : ixN vs.length i with
  | none => rw [e] at h; cases h
  | some j =>
    rw [e] at h
    simp only [Option.bind_some] at h ⊢
    exact r.get (by rw [shares_map, List.getElem?_map, h]; rfl)
theorem se_idx (ha : SE X ca G W a a') (hb : SE X ca G W b b') (hs : PlainIx b := by exact fun _ _ => rfl) : SE X ca G W (.Subscript a b pos) (.idx a' b') := by
  refine PE.imp (pe_ix ix_seq ha hb hs) fun σ H Q ⟨ρ, P, hB, hP, h⟩ => ?_
  rw [ev] at h
  refine t_two hB hP h fun d e v u H2 P' F1 F2 x g1 g2 q => ?_
  have s1 := g1.shr
  cases d <;> cases e <;> simp only [idxF] at q <;> try exact q.elim
  · -- a text
    cases g1.rep; cases g2.rep
    split at q
    · rename_i hl
      split at q
      · rename_i c hc
        exact .inr (.inr ⟨_, _, c, rfl, rfl, by rw [sizeLine_eq]; exact hl, hc, q.str⟩)
      · exact q.elim
    · exact q.elim
  · -- a tuple
    cases g2.rep
    split at q
    · rename_i d0 h0
      simp only [share] at s1
      cases s1 with
      | tup hh r =>
        obtain ⟨w, h1, h2⟩ := reps_atI r h0
        exact .inr (.inl ⟨_, _, _, w, rfl, rfl, hh, h1, q.val h2⟩)
    · exact q.elim
  · -- a list
    cases g2.rep
    split at q
    · rename_i d0 h0
      simp only [share] at s1
      cases s1 with
      | frz hh p r =>
        obtain ⟨w, h1, h2⟩ := reps_atI r h0
        exact .inl ⟨_, _, _, w, rfl, rfl, .inl (.inl hh), h1, q.val h2⟩
    · exact q.elim
  · -- the script
    cases g2.rep
    split at q
    · rename_i n h0
      cases g1.rep with
      | scr hh =>
        refine .inl ⟨_, _, _, .int n, rfl, rfl, hh.sql, ?_, q.int⟩
        unfold atI at h0 ⊢
        rw [List.length_map]
        cases e : ixN _ _ with
        | none => rw [e] at h0; cases h0
        | some j =>
          rw [e] at h0
          simp only [Option.bind_some] at h0 ⊢
          rw [List.getElem?_map, h0]; rfl
    · exact q.elim
def evO (G : Gam) (ρ : Env) (lo : E) : Res (Option Int) := if lo.isNop then .ok none else (ev G ρ lo).bind toI
def PostO (W : WE) (σ : L2.St) (H : Hp) : Res (Option Int) → (Option Int → Hp → Prop) → Prop
  | .ok o, Q => ∀ H', Ex H H' → Q o H'
  | .er c, _ => ∀ H', Ex H H' → W c σ H'
  | .st, _ => False
def tO (K : PySem.W.Frag) (ca : String → Option Addr) (G : Gam) (W : WE) (e : E) : TO := fun σ H Q => ∃ ρ P, BEnv K ca ρ σ H P ∧ Trk P H ∧ PostO W σ H (evO G ρ e) Q
abbrev SO (X : Cx) (ca : String → Option Addr) (G : Gam) (W : WE) (e : Option Expr) (e' : E) : Prop := PO X e (tO X.K ca G W e')
theorem PO.imp {e : Option Expr} {t t' : TO} (h : PO X e t) (i : ∀ σ H Q, t' σ H Q → t σ H Q) : PO X e t' := ⟨fun pins s σ H Q I q => h.run pins s σ H Q I (i σ H Q q)⟩
theorem so_none : SO X ca G W none .nop := PO.imp po_none fun σ H Q ⟨ρ, P, hB, hP, h⟩ => h H (Ex.refl H)
theorem so_some (ha : SE X ca G W a a') (hn : a'.isNop = false := by rfl) : SO X ca G W (some a) a' := by
  refine PO.imp (po_some ha) fun σ H Q ⟨ρ, P, hB, hP, h⟩ => ?_
  unfold evO at h
  rw [hn, if_neg Bool.false_ne_true] at h
  refine ⟨ρ, P, hB, hP, ?_⟩
  cases e1 : ev G ρ a' with
  | st => rw [e1] at h; exact h
  | er c => rw [e1] at h; exact h
  | ok d =>
    rw [e1] at h
    intro v H1 F x _ _ r
    cases d <;> try exact h.elim
    cases r
    exact ⟨_, rfl, h H1 x⟩
theorem t_opt {lo : E} {K : PySem.W.Frag} {σ : L2.St} {H : Hp} {P : Addr → Prop} {ρ : Env} {Q : VK} {k : Option Int → Res D} {R : Option Int → Hp → Prop} (hB : BEnv K ca ρ σ H P) (hP : Trk P H) (h : Post K ca W σ H P ((evO G ρ lo).bind k) Q)
    (hR : ∀ o H1, Ex H H1 → Post K ca W σ H1 P (k o) Q → R o H1) : tO K ca G W lo σ H R := by
  refine ⟨ρ, P, hB, hP, ?_⟩
  cases e1 : evO G ρ lo with
  | st => rw [e1] at h; exact h
  | er c => rw [e1] at h; exact h
  | ok o =>
    rw [e1] at h
    exact fun H1 x => hR o H1 x (h.mono x fun _ p => p)
theorem cutD_map {α β : Type} (f : α → β) (xs : List α) (lo hi : Option Int) : cutD (xs.map f) lo hi = (cutD xs lo hi).map f := by
  unfold cutD; simp only [List.length_map, List.map_take, List.map_drop]
theorem se_slc {lo hi : Option Expr} {lo' hi' : E} {p2 : Pos} (ha : SE X ca G W a a') (hl : SO X ca G W lo lo') (hh : SO X ca G W hi hi') : SE X ca G W (.Subscript a (.Slice lo hi none p2) pos) (.slc a' lo' hi') := by
  refine PE.imp (pe_slice (sl_list.or sl_str) ha hl hh) fun σ H Q ⟨ρ, P, hB, hP, h⟩ => ?_
  have h' : Post X.K ca W σ H P ((ev G ρ a').bind fun d => (evO G ρ lo').bind fun l => (evO G ρ hi').bind fun h => slcF d l h) Q := by
    rw [ev] at h; exact h
  refine t_one hB hP h' fun d v H1 P' F x g q => ?_
  refine t_opt (hB.ext x) (hP.ext x) q fun l H2 x2 q2 => ?_
  refine t_opt (hB.ext (x.trans x2)) (hP.ext (x.trans x2)) q2 fun u H3 x3 q3 => ?_
  cases d <;> simp only [slcF] at q3 <;> try exact q3.elim
  · cases (g.ext (x2.trans x3)).rep
    split at q3
    · rename_i hl
      exact .inr ⟨_, rfl, by rw [sizeLine_eq]; exact hl, q3.str⟩
    · exact q3.elim
  · have s1 := (g.ext (x2.trans x3)).shr
    simp only [share] at s1
    cases s1 with
    | frz hh p r =>
      refine .inl ⟨_, _, rfl, .inl (.inl hh), fun p hp => q3.newL ?_ hp⟩
      unfold cutD cutV
      rw [r.length]
      exact (r.drop _).take _
  · cases (g.ext (x2.trans x3)).rep with
    | scr hh =>
      refine .inl ⟨_, _, rfl, hh.sql, fun p hp => q3.newL ?_ hp⟩
      have e := cutD_map V.int
      rw [show ∀ xs lo hi, cutV xs lo hi = cutD xs lo hi from fun _ _ _ => rfl, cutD_map]
      exact Reps.ints _
theorem se_fld {f : String} {fs : Str} (he : fs = Str.ofString f := by rfl) (ha : SE X ca G W a a') (hb : attributeBase a fs X.env (eval a X.env) = eval a X.env := by rfl) : SE X ca G W (.Attribute a fs pos) (.fld a' f) := by
  subst he
  refine PE.imp (pe_fld ha hb) fun σ H Q ⟨ρ, P, hB, hP, h⟩ => ?_
  rw [ev] at h
  refine t_one hB hP h fun d v H1 P' F x g q => ?_
  cases d with
  | obj c ns ds =>
    simp only [fldF] at q
    cases h0 : (ns.zip ds).lookup f with
    | none => rw [h0] at q; exact q.elim
    | some d0 =>
      rw [h0] at q
      have s1 := g.shr
      simp only [share] at s1
      cases s1 with
      | @obj _ C dx _ _ _ vs hc hh i p r =>
        obtain ⟨w, h1, h2⟩ := lookup_fields i.len r h0
        have hf : f ∈ ns := by
          obtain ⟨l1, l2, e, _⟩ := List.lookup_eq_some_iff.mp h0
          have m : (f, d0) ∈ ns.zip ds := by rw [e]; simp
          exact (List.of_mem_zip m).1
        exact ⟨_, C, dx, _, w, rfl, hh, i.cl, i.no f hf, h1, Post.val (d := d0) q h2⟩
  | _ => exact q.elim
/-- a global name's value -/
theorem se_cst {x : Str} {k : String} {v : V} {u : Value} (hg : Gl X x := by rfl) (hm : X.mg x = some u) (r : RelV v u) (hr : ∀ d, G.cst k = some d → ∀ H P, Rep X.K ca H P d v []) (hd : (x == ("__debug__" : Str)) = false := by decide) : SE X ca G W (.Name x pos) (.cst k) := by
  refine PE.imp (pe_glob hg hm r hd) fun σ H Q ⟨ρ, P, hB, hP, h⟩ => ?_
  rw [ev] at h
  cases e : G.cst k with
  | none => rw [e] at h; exact h.elim
  | some d => rw [e] at h; exact h.val (hr d e H P)
theorem se_ty {x : Str} {n : String} (hg : Gl X x := by rfl) (hm : X.mg x = none) (hv : bootBuiltins x = some (.type n)) (hr : ∀ d, G.cst n = some d → d = .ty n) (hn : x ≠ "__name__" := by decide) (hd : (x == ("__debug__" : Str)) = false := by decide) : SE X ca G W (.Name x pos) (.cst n) := by
  refine PE.imp (pe_bltn hg hm hv (v := .ty n) rfl hn hd) fun σ H Q ⟨ρ, P, hB, hP, h⟩ => ?_
  rw [ev] at h
  cases e : G.cst n with
  | none => rw [e] at h; exact h.elim
  | some d => rw [e] at h; rw [hr d e] at h; exact h.val (.ty n)
end
end Ev
namespace Ev
open PySem L2

/-! ## What a function of the program promises -/
/-- an exception of a class of the program, wished for by W -/
def wx (ca : String → Option Addr) (W : WE) : WX := fun cls d σ H => ∃ c C, ca c = some C ∧ cls = .ref C ∧ d = none ∧ W c σ H
def PostX (K : PySem.W.Frag) (ca : String → Option Addr) (H : Hp) (P : Addr → Prop) : Res D → VK → XK → Prop
  | .ok d, Q, _ => ∀ v H' F, Ex H H' → F.Nodup → (∀ a ∈ F, H a = none) → Rep K ca H' (fun a => P a ∨ a ∈ F) d v F → Q v H'
  | .er c, _, E => ∃ C, ca c = some C ∧ ∀ H', Ex H H' → E (.ref C) none H'
  | .st, _, _ => False
/-- a function: of arguments that it only reads -/
def spF (K : PySem.W.Frag) (ca : String → Option Addr) (cf : List D → Res D) (np : Nat) : Sp := fun vs H Q E =>
  vs.length = np ∧ ∃ ds P, Reps K ca H P ds vs [] ∧ Trk P H ∧ PostX K ca H P (cf ds) Q E
/-- all but the instance at x stays -/
def ExB (x : Addr) (H H' : Hp) : Prop := ∀ a o, a ≠ x → H a = some o → H' a = some o
/-- an __init__: the instance's fields so far, the arguments -/
def spN (K : PySem.W.Frag) (ca : String → Option Addr) (cf : List D → Res D) (np : Nat) : Sp := fun vs H Q E =>
  vs.length = np ∧ ∃ (x C dx : Addr) (rest : List V) (c : String) (ns : List String) (xs : List D) (ws : List V) (ds : List D) (P : Addr → Prop),
    vs = .ref x :: rest ∧ ca c = some C ∧ H x = some (.ins C dx (fieldsOf ns ws)) ∧ ObjI K C ns xs ∧ Reps K ca H P xs ws [] ∧ Reps K ca H P ds rest [] ∧ P x ∧ Trk P H ∧
    match cf (.obj c ns xs :: ds) with
    | .ok d => ∃ ns' xs', d = .obj c ns' xs' ∧ ∀ H' ws', ExB x H H' → H' x = some (.ins C dx (fieldsOf ns' ws')) → ObjI K C ns' xs' → Reps K ca H' P xs' ws' [] → Q .non H'
    | .er e => ∃ C', ca e = some C' ∧ ∀ H' fs', ExB x H H' → H' x = some (.ins C dx fs') → E (.ref C') none H'
    | .st => False

section
variable (P : Program) (w : World) (K : PySem.W.Frag) (mg : Str → Option Value) (base : Heap) (ca : String → Option Addr)
/-- the function at the name x, k calls deep -/
structure FnB (cf : List D → Res D) (x : Str) (k : Nat) : Prop where
  ex : ∃ f fd ps, FnOk P w K mg base (L2.CX P w) k f fd ps (spF K ca cf ps.length) ∧ mg x = some (.ref f) ∧ PySem.W.keepIn K (.ref f) = true ∧ Binds K fd ps [] ∧ ∀ ds, cf ds ≠ .st → ds.length = ps.length
/-- the methods of the classes -/
structure MtB (G : Gam) (k : Nat) : Prop where
  ex : ∀ c i m fk, G.ci c = some i → i.meths.lookup m = some fk → ∃ C f fd ps, ca c = some C ∧ Meth K C (Str.ofString m) f ∧
    FnOk P w K mg base (L2.CX P w) k f fd ps (spF K ca (G.cf fk) ps.length) ∧ Binds K fd ps [] ∧ ∀ ds, G.cf fk ds ≠ .st → ds.length = ps.length
/-- the class at the name x, made -/
structure MkB (G : Gam) (c : String) (x : Str) (k : Nat) : Prop where
  ex : ∃ i C f fd ps, G.ci c = some i ∧ ca c = some C ∧ Mk K C f ∧ Cls K C ∧ mg x = some (.ref C) ∧ FnOk P w K mg base (L2.CX P w) k f fd ps (spN K ca (G.cf i.init) ps.length) ∧ Binds K fd ps [] ∧ ∀ ds, G.cf i.init ds ≠ .st → ds.length = ps.length
end

section
variable {X : Cx} {ca : String → Option Addr} {G : Gam} {W : WE}
variable {a b c : Expr} {a' b' c' : E} {pos p apos : Pos} {k : Nat}

theorem Post.toX {K : PySem.W.Frag} {σ : L2.St} {H : Hp} {P : Addr → Prop} {r : Res D} {Q : VK} (h : Post K ca W σ H P r Q) (hc : ∀ c, r = .er c → ∃ C, ca c = some C) : PostX K ca H P r Q fun cls d H' => wx ca W cls d σ H' := by
  cases r with
  | ok d => exact h
  | st => exact h
  | er c =>
    obtain ⟨C, e⟩ := hc c rfl
    exact ⟨C, e, fun H' x => ⟨c, C, e, rfl, rfl, h H' x⟩⟩
/-- every exception is of a class that stands -/
structure ErOk (ca : String → Option Addr) (G : Gam) : Prop where
  er : ∀ f ds c, G.cf f ds = .er c → ∃ C, ca c = some C

theorem se_call {fk : String} {x : Str} {e : Expr} {es : List Expr} {as' : E} (F : FnB X.prog X.w X.K X.mg X.base ca (G.cf fk) x k) (hr : Room k X.A) (eo : ErOk ca G) (tk : Takes X (wx ca W)) (ha : SA X ca G W (e :: es) as')
    (hg : Gl X x := by rfl) (hd : (x == ("__debug__" : Str)) = false := by decide) (he : starEach (e :: es) X.env = (false, eval e X.env) :: starEach es X.env := by rfl) (hpl : (backTo pos (starEach es X.env)).any (·.1) = false := by rfl) :
    SE X ca G W (.Call (.Name x p) (e :: es) [] pos) (.call fk as') := by
  obtain ⟨f, fd, ps, F, hm, hk, hb, ar⟩ := F.ex
  refine PE.imp (pe_callSD (dvs := []) (E := fun σ cls d H => wx ca W cls d σ H) F hr hg hm hk hb .nil (fun σ => passAt tk σ) ha hd he hpl) fun σ H Q ⟨ρ, P, hB, hP, h⟩ => ?_
  rw [ev] at h
  refine t_args hB hP h fun ds vs H1 F x n f r q => ?_
  show spF _ _ _ _ (vs ++ []) H1 Q _
  rw [List.append_nil]
  have rs := r.shr (P' := P) (fun a z => .inl z) (off_of hP f)
  refine ⟨?_, shares ds, P, rs, hP.ext x, (q.mono x fun _ z => z).toX fun c e => eo.er _ _ c e⟩
  rw [← rs.length]
  exact ar _ fun e => by rw [e] at q; exact q
/-- f(), with its default None -/
theorem se_call0 {fk : String} {x : Str} {ds : E} (F : FnB X.prog X.w X.K X.mg X.base ca (G.cf fk) x k) (hr : Room k X.A) (eo : ErOk ca G) (tk : Takes X (wx ca W))
    (hds : ∃ dd : List D, ∀ ρ, evs G ρ ds = .ok dd ∧ ∃ dvs us, (∀ H P, Reps X.K ca H P (shares dd) dvs []) ∧ Vals dvs us ∧ ∀ f fd ps, FnOk X.prog X.w X.K X.mg X.base (L2.CX X.prog X.w) k f fd ps (spF X.K ca (G.cf fk) ps.length) → X.mg x = some (.ref f) → Binds X.K fd ps us)
    (hg : Gl X x := by rfl) (hd : (x == ("__debug__" : Str)) = false := by decide) :
    SE X ca G W (.Call (.Name x p) [] [] pos) (.call fk ds) := by
  obtain ⟨f, fd, ps, F, hm, hk, hb, ar⟩ := F.ex
  refine ⟨fun pins s σ H Q I ⟨ρ, P, hB, hP, h⟩ => ?_⟩
  obtain ⟨dd, q⟩ := hds
  obtain ⟨e1, dvs, us, e2, e3, e4⟩ := q ρ
  rw [ev, e1] at h
  have h' : Post X.K ca W σ H P (G.cf fk (shares dd)) Q := h
  refine wpAny_Call_Name_kw (ld_glob I hg hm ?_ hd)
  refine PySem.W.callWith_K0 I.kIn hk (run_fnSD (us := []) (vs := []) (E := fun σ cls d H => wx ca W cls d σ H) F hr (e4 f fd ps F hm) e3 (passAt tk σ) I .nil ?_)
  show spF _ _ _ _ ([] ++ dvs) H Q _
  rw [List.nil_append]
  refine ⟨?_, shares dd, P, e2 H P, hP, h'.toX fun c e => eo.er _ _ c e⟩
  rw [← (e2 H P).length]
  exact ar _ fun e => by rw [e] at h'; exact h'

/-! ## Methods -/
theorem meth_ready {K : PySem.W.Frag} {H : Hp} {P : Addr → Prop} {c m : String} {C f a dx : Addr} {ns : List String} {xs : List D} {vs : List V} (i : ObjI K C ns xs) (hm : Meth K C (Str.ofString m) f) : (fieldsOf ns vs).lookup (Str.ofString m) = none :=
  lookup_none fun g hg e => by
    have h1 := i.no g hg
    unfold NoAttr at h1
    rw [e, hm.at_] at h1
    cases h1
theorem se_meth {m : String} {ms : Str} {e : Expr} {es : List Expr} {as' : E} {pl : Sem Bool} (M : MtB X.prog X.w X.K X.mg X.base ca G k) (hr : Room k X.A) (eo : ErOk ca G) (tk : Takes X (wx ca W)) (ho : SE X ca G W a a') (ha : SA X ca G W (e :: es) as')
    (hms : ms = Str.ofString m := by rfl) (hst : starEach (e :: es) X.env = (false, eval e X.env) :: starEach es X.env := by rfl) (hpl : (backTo pos (starEach es X.env)).any (·.1) = false := by rfl)
    (ht : eval (.Call (.Attribute a ms apos) (e :: es) [] pos) X.env = (do
      let ov ← eval a X.env
      standAt apos.atName
      let (f, first) ← holding [ov] (getMethod ov ms pl)
      callWith pos f first (backTo pos (starEach (e :: es) X.env)) (backToKw pos (keywordEach [] X.env))) := by rfl) :
    SE X ca G W (.Call (.Attribute a ms apos) (e :: es) [] pos) (.meth a' m as') := by
  subst hms
  refine ⟨fun pins s σ H Q I ⟨ρ, P, hB, hP, h⟩ => ?_⟩
  rw [ev] at h
  refine methcall_of ho I (t_one hB hP h fun d v H1 P' F x g q => ?_) ht
  cases d with
  | obj c ns xs =>
    simp only [methF] at q
    cases e0 : G.ci c with
    | none => rw [e0] at q; exact q.elim
    | some i =>
      rw [e0, Option.bind_some] at q
      cases e1 : i.meths.lookup m with
      | none => rw [e1] at q; exact q.elim
      | some fk =>
        rw [e1] at q
        obtain ⟨C, f, fd, ps, hc, hm, F, hb, ar⟩ := M.ex c i m fk e0 e1
        have s1 := g.shr
        simp only [share] at s1
        cases s1 with
        | @obj ad C' dx _ _ _ vs hc' hh oi pp r =>
          rw [hc] at hc'; cases hc'
          refine ⟨ad, C, dx, _, f, rfl, hh, oi.cl, hm, meth_ready (K := X.K) (H := H1) (P := P) (c := c) (a := ad) (dx := dx) oi hm, fun s1 I1 => ?_⟩
          refine PySem.W.callWith_K (first := [.ref ad]) (h₀ := X.base) I.ok.mod.kin hm.kp ?_ hst hpl
          have q' : Post X.K ca W σ H1 P ((evs G ρ as').bind fun ds => G.cf fk (.obj c ns xs :: shares ds)) Q := q
          refine thn (ha.run pos pins s1 σ H1 _ I1 (t_args (R := fun vs2 H2 => spF X.K ca (G.cf fk) ps.length (.ref ad :: vs2) H2 Q fun cls d H' => wx ca W cls d σ H') (hB.ext x) (hP.ext x) q' fun ds vs2 H2 F2 x2 n2 f2 r2 q2 => ?_)) fun us s2 ⟨vs2, H2, I2, rv, q2⟩ => ⟨I2.kIn, ?_⟩
          · have rs := r2.shr (P' := P) (fun a z => .inl z) (off_of (hP.ext x) f2)
            have ro : Rep X.K ca H2 P (.obj c ns xs) (.ref ad) [] := (Rep.obj hc hh oi pp r).ext x2
            have rr : Reps X.K ca H2 P (.obj c ns xs :: shares ds) (.ref ad :: vs2) [] := .cons (F := []) (F' := []) ro rs
            refine ⟨?_, _, P, rr, hP.ext (x.trans x2), (q2.mono x2 fun _ z => z).toX fun c e => eo.er _ _ c e⟩
            rw [← rr.length]
            exact ar _ fun e => by rw [e] at q2; exact q2
          · exact run_fnSD (us := .ref ad :: us) (vs := .ref ad :: vs2) (dvs := []) (ds := []) (E := fun σ cls d H => wx ca W cls d σ H) F hr hb .nil (passAt tk σ) I2 (.cons rfl rv) (by rw [List.append_nil]; exact q2)
  | _ => exact q.elim
theorem se_meth0 {m : String} {ms : Str} {pl : Sem Bool} (M : MtB X.prog X.w X.K X.mg X.base ca G k) (hr : Room k X.A) (eo : ErOk ca G) (tk : Takes X (wx ca W)) (ho : SE X ca G W a a')
    (hms : ms = Str.ofString m := by rfl)
    (ht : eval (.Call (.Attribute a ms apos) [] [] pos) X.env = (do
      let ov ← eval a X.env
      standAt apos.atName
      let (f, first) ← holding [ov] (getMethod ov ms pl)
      callWith pos f first (backTo pos (starEach [] X.env)) (backToKw pos (keywordEach [] X.env))) := by rfl) :
    SE X ca G W (.Call (.Attribute a ms apos) [] [] pos) (.meth a' m .nil) := by
  subst hms
  refine ⟨fun pins s σ H Q I ⟨ρ, P, hB, hP, h⟩ => ?_⟩
  rw [ev] at h
  refine methcall_of ho I (t_one hB hP h fun d v H1 P' F x g q => ?_) ht
  cases d with
  | obj c ns xs =>
    simp only [methF] at q
    cases e0 : G.ci c with
    | none => rw [e0] at q; exact q.elim
    | some i =>
      rw [e0, Option.bind_some] at q
      cases e1 : i.meths.lookup m with
      | none => rw [e1] at q; exact q.elim
      | some fk =>
        rw [e1] at q
        obtain ⟨C, f, fd, ps, hc, hm, F, hb, ar⟩ := M.ex c i m fk e0 e1
        have s1 := g.shr
        simp only [share] at s1
        cases s1 with
        | @obj ad C' dx _ _ _ vs hc' hh oi pp r =>
          rw [hc] at hc'; cases hc'
          refine ⟨ad, C, dx, _, f, rfl, hh, oi.cl, hm, meth_ready (K := X.K) (H := H1) (P := P) (c := c) (a := ad) (dx := dx) oi hm, fun s1 I1 => ?_⟩
          have q' : Post X.K ca W σ H1 P (G.cf fk [.obj c ns xs]) Q := q
          have rr : Reps X.K ca H1 P [.obj c ns xs] [.ref ad] [] := .cons (F := []) (F' := []) (Rep.obj hc hh oi pp r) .nil
          refine PySem.W.callWith_K0 (first := [.ref ad]) I1.kIn hm.kp (run_fnSD (us := [.ref ad]) (vs := [.ref ad]) (dvs := []) (ds := []) (E := fun σ cls d H => wx ca W cls d σ H) F hr hb .nil (passAt tk σ) I1 (.cons rfl .nil) ?_)
          refine ⟨?_, _, P, rr, hP.ext x, q'.toX fun c e => eo.er _ _ c e⟩
          have l := ar [.obj c ns xs] fun e => by rw [e] at q'; exact q'
          rw [← l]; rfl
  | _ => exact q.elim

/-! ## New instances -/
theorem run_new {C f : Addr} {fd : FuncData} {ps : List Str} {sp : Sp} {pins : List (Addr × Obj)} {σ : L2.St} {H : Hp} {s : Shared} {Q : VK} {us : List Value} {vs : List V} (M : Mk X.K C f) (F : FnOk X.prog X.w X.K X.mg X.base (L2.CX X.prog X.w) k f fd ps sp)
    (hr : Room (k + 1) X.A) (hb : Binds X.K fd ps []) (tk : Takes X (wx ca W)) (I : Inv X pins σ H s) (r : Vals vs us)
    (h : ∀ x dx, H x = none → H dx = none → dx ≠ x → sp (.ref x :: vs) (upd (upd H dx (.own x)) x (.ins C dx [])) (fun v H2 => v = .non ∧ Q (.ref x) H2) fun cls d H' => wx ca W cls d σ H') :
    wpAny (model X.prog X.w) X.A (call (.ref C) us) (EP X pins σ Q) X.xe s := by
  obtain ⟨n, en⟩ : ∃ n, n = s.heap.objs.size := ⟨_, rfl⟩
  have want := h (n + 1) n (I.hok.fresh (by omega)) (I.hok.fresh (by omega)) (Nat.ne_of_lt (Nat.lt_succ_self n))
  have I2 := Inv.made (C := C) I
  rw [← en] at I2
  have rr : Vals (.ref (n + 1) :: vs) (.ref (n + 1) :: us) := .cons rfl r
  have bd := hb _ (.ref (n + 1) :: us) I2.kIn (by rw [List.append_nil, ← rr.length]; exact F.len _ _ _ _ want)
  rw [List.append_nil] at bd
  have go := F.run _ X.stack _ _ ⟨.ref (n + 1) :: us, []⟩ _ _ _ _ (hr.make C us []) (I2.env0.make C us []) bd rr want
  refine wpAny_call (make_map (f := f) I.kIn M.makes M.init (beq_iff_eq.mp M.fn) ?_)
  rw [← en]
  refine codeAny_mono go fun res s' hq => ?_
  cases res with
  | error e => exact passAt tk σ pins _ _ e s' I2 hq
  | ok fl =>
    cases fl with
    | ret u =>
      obtain ⟨v, H', I3, rv, ev, q3⟩ := I2.after hq
      cases ev
      exact ⟨rv, ⟨.ref (n + 1), H', I3, rfl, q3⟩⟩
    | _ => exact hq.elim
theorem new_core {K : PySem.W.Frag} {C : Addr} {c : String} {i : ClsI} {np : Nat} {σ : L2.St} {H : Hp} {P : Addr → Prop} {Q : VK} {ds : List D} {vs : List V} (hc : ca c = some C) (hcl : Cls K C) (eo : ErOk ca G) (hP : Trk P H) (r : Reps K ca H P ds vs [])
    (ar : ∀ ds, G.cf i.init ds ≠ .st → ds.length = np) (h : Post K ca W σ H P (G.cf i.init (.obj c [] [] :: ds)) Q)
    (hs : ∀ ds d, G.cf i.init (.obj c [] [] :: ds) = .ok d → ∃ ns xs, d = .obj c ns xs) (x dx : Addr) (hx : H x = none) (hdx : H dx = none) (nx : dx ≠ x) :
    spN K ca (G.cf i.init) np (.ref x :: vs) (upd (upd H dx (.own x)) x (.ins C dx [])) (fun v H2 => v = .non ∧ Q (.ref x) H2) fun cls d H' => wx ca W cls d σ H' := by
  have e2 : Ex H (upd (upd H dx (.own x)) x (.ins C dx [])) := (Ex.new hdx).trans (Ex.new (by rw [upd_ne (Ne.symm nx)]; exact hx))
  have nst : G.cf i.init (.obj c [] [] :: ds) ≠ .st := fun e => by rw [e] at h; exact h
  refine ⟨?_, x, C, dx, vs, c, [], [], [], ds, fun a => P a ∨ a = x, rfl, hc, upd_same, ⟨hcl, by simp, rfl, by decide, List.nodup_nil⟩, .nil, ?_, .inr rfl, ?_, ?_⟩
  · rw [← ar _ nst, List.length_cons, List.length_cons, r.length]
  · exact (r.forb fun a z => z.imp id fun z => by rw [z]; exact hx).ext e2
  · intro a z n
    rcases z with z | z
    · exact (hP.ext e2) a z n
    · rw [z, upd_same] at n; cases n
  · cases e : G.cf i.init (.obj c [] [] :: ds) with
    | st => exact (nst e).elim
    | er e' =>
      rw [e] at h
      obtain ⟨C', hC'⟩ := eo.er _ _ _ e
      refine ⟨C', hC', fun H' fs' xb hx' => ⟨e', C', hC', rfl, rfl, h H' fun a o ha => ?_⟩⟩
      exact xb a o (fun z => by rw [z, hx] at ha; cases ha) (e2 a o ha)
    | ok d =>
      rw [e] at h
      obtain ⟨ns, xs, ed⟩ := hs ds d e
      subst ed
      refine ⟨ns, xs, rfl, fun H' ws' xb hx' oi rs => ⟨rfl, ?_⟩⟩
      refine h (.ref x) H' [] (fun a o ha => ?_) (by simp) (by simp) (.obj hc hx' oi (fun z => ?_) (rs.forb fun a z => z.elim (fun z => .inl (.inl z)) fun z => by simp at z))
      · exact xb a o (fun z => by rw [z, hx] at ha; cases ha) (e2 a o ha)
      · rcases z with z | z
        · exact hP x z hx
        · simp at z
theorem se_new {cn : String} {x : Str} {e : Expr} {es : List Expr} {as' : E} (M : MkB X.prog X.w X.K X.mg X.base ca G cn x k) (hs : ∀ i, G.ci cn = some i → ∀ ds d, G.cf i.init (.obj cn [] [] :: ds) = .ok d → ∃ ns xs, d = .obj cn ns xs)
    (hr : Room (k + 1) X.A) (eo : ErOk ca G) (tk : Takes X (wx ca W)) (ha : SA X ca G W (e :: es) as')
    (hg : Gl X x := by rfl) (hd : (x == ("__debug__" : Str)) = false := by decide) (he : starEach (e :: es) X.env = (false, eval e X.env) :: starEach es X.env := by rfl) (hpl : (backTo pos (starEach es X.env)).any (·.1) = false := by rfl) :
    SE X ca G W (.Call (.Name x p) (e :: es) [] pos) (.new cn as') := by
  obtain ⟨i, C, f, fd, ps, hi, hc, M, hcl, hm, F, hb, ar⟩ := M.ex
  refine ⟨fun pins s σ H Q I ⟨ρ, P, hB, hP, h⟩ => ?_⟩
  rw [ev, hi] at h
  refine wpAny_Call_Name_kw (ld_glob I hg hm ?_ hd)
  refine PySem.W.callWith_K (h₀ := X.base) I.ok.mod.kin M.kp ?_ he hpl
  refine thn (ha.run pos pins s σ H _ I (t_args (R := fun vs H1 => ∀ x dx, H1 x = none → H1 dx = none → dx ≠ x → spN X.K ca (G.cf i.init) ps.length (.ref x :: vs) (upd (upd H1 dx (.own x)) x (.ins C dx [])) (fun v H2 => v = .non ∧ Q (.ref x) H2) fun cls d H' => wx ca W cls d σ H') hB hP h fun ds vs H1 F1 x1 n1 f1 r1 q1 => ?_))
    fun us s1 ⟨vs, H1, I1, rv, q⟩ => ⟨I1.kIn, run_new M F hr hb tk I1 rv q⟩
  have rs := r1.shr (P' := P) (fun a z => .inl z) (off_of hP f1)
  exact fun x dx hx hdx nx => new_core hc hcl eo (hP.ext x1) rs ar (q1.mono x1 fun _ z => z) (hs i hi) x dx hx hdx nx
end
end Ev
namespace Ev
open PySem L2

/-! ## Plain facts of sorting, of the greatest and the least -/
theorem insI_perm (i : Int) : ∀ l, (insI i l).Perm (i :: l)
  | [] => .refl _
  | j :: r => by
    unfold insI
    split
    · exact .refl _
    · exact ((insI_perm i r).cons j).trans (.swap i j r)
theorem sortI_perm : ∀ l, (sortI l).Perm l
  | [] => .refl _
  | i :: r => (insI_perm i _).trans ((sortI_perm r).cons i)
theorem insI_sorted {i : Int} : ∀ {l : List Int}, l.Pairwise (· ≤ ·) → (insI i l).Pairwise (· ≤ ·)
  | [], _ => by simp [insI]
  | j :: r, h => by
    rw [List.pairwise_cons] at h
    unfold insI
    split
    · rename_i hij
      refine List.pairwise_cons.mpr ⟨fun k m => ?_, List.pairwise_cons.mpr h⟩
      rcases List.mem_cons.mp m with e | m
      · omega
      · have := h.1 k m; omega
    · rename_i hij
      refine List.pairwise_cons.mpr ⟨fun k m => ?_, insI_sorted h.2⟩
      rcases List.mem_cons.mp ((insI_perm i r).mem_iff.mp m) with e | m
      · omega
      · exact h.1 k m
theorem sortI_sorted : ∀ l, (sortI l).Pairwise (· ≤ ·)
  | [] => .nil
  | i :: r => insI_sorted (sortI_sorted r)
theorem sorted_eq : ∀ {a b : List Int}, a.Perm b → a.Pairwise (· ≤ ·) → b.Pairwise (· ≤ ·) → a = b
  | [], b, p, _, _ => (List.nil_perm.mp p).symm
  | x :: a, [], p, _, _ => absurd p.length_eq (by simp)
  | x :: a, y :: b, p, ha, hb => by
    rw [List.pairwise_cons] at ha hb
    have e : x = y := by
      have h1 : x ≤ y := by
        rcases List.mem_cons.mp (p.mem_iff.mpr (List.mem_cons_self ..)) with e | m
        · omega
        · exact ha.1 y m
      have h2 : y ≤ x := by
        rcases List.mem_cons.mp (p.mem_iff.mp (List.mem_cons_self ..)) with e | m
        · omega
        · exact hb.1 x m
      omega
    subst e
    rw [sorted_eq p.cons_inv ha.2 hb.2]
theorem maxI_spec : ∀ {l : List Int} {m : Int}, maxI l = some m → m ∈ l ∧ ∀ y ∈ l, y ≤ m
  | [], m, h => by cases h
  | i :: r, m, h => by
    unfold maxI at h
    cases e : maxI r with
    | none =>
      rw [e] at h
      cases h
      cases r with
      | nil => simp
      | cons j r => unfold maxI at e; split at e <;> cases e
    | some j =>
      rw [e] at h
      cases h
      obtain ⟨h1, h2⟩ := maxI_spec e
      refine ⟨?_, fun y m => ?_⟩
      · rcases Int.le_total i j with h | h
        · rw [Int.max_eq_right h]; exact List.mem_cons_of_mem _ h1
        · rw [Int.max_eq_left h]; exact List.mem_cons_self ..
      · rcases List.mem_cons.mp m with e | m
        · omega
        · have := h2 y m; omega
theorem minI_spec : ∀ {l : List Int} {m : Int}, minI l = some m → m ∈ l ∧ ∀ y ∈ l, m ≤ y
  | [], m, h => by cases h
  | i :: r, m, h => by
    unfold minI at h
    cases e : minI r with
    | none =>
      rw [e] at h
      cases h
      cases r with
      | nil => simp
      | cons j r => unfold minI at e; split at e <;> cases e
    | some j =>
      rw [e] at h
      cases h
      obtain ⟨h1, h2⟩ := minI_spec e
      refine ⟨?_, fun y m => ?_⟩
      · rcases Int.le_total i j with h | h
        · rw [Int.min_eq_left h]; exact List.mem_cons_self ..
        · rw [Int.min_eq_right h]; exact List.mem_cons_of_mem _ h1
      · rcases List.mem_cons.mp m with e | m
        · omega
        · have := h2 y m; omega

section
variable {K : PySem.W.Frag} {ca : String → Option Addr} {H : Hp} {P : Addr → Prop}
theorem reps_ints : ∀ {ds : List D} {vs : List V} {F : List Addr} {ns : List Int}, Reps K ca H P ds vs F → intsOf ds = some ns → vs = ns.map V.int
  | _, _, _, _, .nil, e => by cases e; rfl
  | _, _, _, _, .cons h r, e => by
    cases h <;> try (simp [intsOf] at e; done)
    rename_i i
    simp only [intsOf] at e
    obtain ⟨q, e1, e2⟩ := Option.map_eq_some_iff.mp e
    subst e2
    rw [reps_ints r e1]; rfl
theorem reps_bls : ∀ {ds : List D} {vs : List V} {F : List Addr} {ns : List Bool}, Reps K ca H P ds vs F → blsOf ds = some ns → vs = ns.map V.bl
  | _, _, _, _, .nil, e => by cases e; rfl
  | _, _, _, _, .cons h r, e => by
    cases h <;> try (simp [blsOf] at e; done)
    rename_i i
    simp only [blsOf] at e
    obtain ⟨q, e1, e2⟩ := Option.map_eq_some_iff.mp e
    subst e2
    rw [reps_bls r e1]; rfl
/-- a list's values, as they stand -/
theorem rep_lst {o : Bool} {ds : List D} {v : V} {F : List Addr} (r : Rep K ca H P (.lst o ds) v F) : ∃ a vs F', v = .ref a ∧ H a = some (.lst vs) ∧ Reps K ca H P ds vs F' := by
  cases r with
  | own h r => exact ⟨_, _, _, rfl, h, r⟩
  | frz h p r => exact ⟨_, _, _, rfl, h, r⟩
theorem reps1 {d : D} {vs : List V} {F : List Addr} (r : Reps K ca H P [d] vs F) : ∃ v, vs = [v] ∧ Rep K ca H P d v F := by
  cases r with
  | @cons _ v F1 _ vs2 F2 h r => cases r; rw [List.append_nil]; exact ⟨_, rfl, h⟩
theorem reps2 {d e : D} {vs : List V} {F : List Addr} (r : Reps K ca H P [d, e] vs F) : ∃ v u F1 F2, vs = [v, u] ∧ F = F1 ++ F2 ∧ Rep K ca H P d v F1 ∧ Rep K ca H P e u F2 := by
  cases r with
  | cons h r =>
    obtain ⟨u, rfl, h2⟩ := reps1 r
    exact ⟨_, _, _, _, rfl, rfl, h, h2⟩
end

section
variable {X : Cx} {ca : String → Option Addr} {G : Gam} {W : WE}
variable {a b c : Expr} {a' b' c' : E} {pos p apos : Pos} {k : Nat}
theorem max_if (i j : Int) : (if j > i then j else i) = max i j := by split <;> omega
theorem min_if (i j : Int) : (if j < i then j else i) = min i j := by split <;> omega
/-- a built-in call that does what f says -/
def DoesA (X : Cx) (ca : String → Option Addr) (r : List V → Hp → VK → Prop) (f : List D → Res D) : Prop := ∀ (W : WE) (σ : L2.St) (H : Hp) (P : Addr → Prop) (ds : List D) (vs : List V) (F : List Addr) (Q : VK),
  GotA X.K ca H P (fun a => P a ∨ a ∈ F) ds vs F → Trk P H → Post X.K ca W σ H P (f ds) Q → r vs H Q
theorem se_bltB {id : String} {x : Str} {e : Expr} {es : List Expr} {as' : E} {r : List V → Hp → VK → Prop} {f : Blt} (hc : CallR X (.builtin id) r) (hd : DoesA X ca r (bltF G f)) (hm : X.mg x = none) (hv : bootBuiltins x = some (.builtin id)) (ha : SA X ca G W (e :: es) as')
    (hg : Gl X x := by rfl) (hn : x ≠ "__name__" := by decide) (hdb : (x == ("__debug__" : Str)) = false := by decide) (he : starEach (e :: es) X.env = (false, eval e X.env) :: starEach es X.env := by rfl) (hpl : (backTo pos (starEach es X.env)).any (·.1) = false := by rfl) :
    SE X ca G W (.Call (.Name x p) (e :: es) [] pos) (.blt f as') := by
  refine PE.imp (pe_callB hc hg hm hv ha hn hdb he hpl) fun σ H Q ⟨ρ, P, hB, hP, h⟩ => ?_
  rw [ev] at h
  exact t_args hB hP h fun ds vs H1 F x n fr rr q => hd W σ H1 P ds vs F Q ⟨rr, fun a z => .inl z, off_of hP fr⟩ (hP.ext x) (q.mono x fun _ z => z)
theorem se_bltT {T : String} {x : Str} {e : Expr} {es : List Expr} {as' : E} {r : List V → Hp → VK → Prop} {f : Blt} (hc : CallR X (.type T) r) (hd : DoesA X ca r (bltF G f)) (hm : X.mg x = none) (hv : bootBuiltins x = some (.type T)) (ha : SA X ca G W (e :: es) as')
    (hg : Gl X x := by rfl) (hn : x ≠ "__name__" := by decide) (hdb : (x == ("__debug__" : Str)) = false := by decide) (he : starEach (e :: es) X.env = (false, eval e X.env) :: starEach es X.env := by rfl) (hpl : (backTo pos (starEach es X.env)).any (·.1) = false := by rfl) :
    SE X ca G W (.Call (.Name x p) (e :: es) [] pos) (.blt f as') := by
  refine PE.imp (pe_callTy hc hg hm hv ha hn hdb he hpl) fun σ H Q ⟨ρ, P, hB, hP, h⟩ => ?_
  rw [ev] at h
  exact t_args hB hP h fun ds vs H1 F x n fr rr q => hd W σ H1 P ds vs F Q ⟨rr, fun a z => .inl z, off_of hP fr⟩ (hP.ext x) (q.mono x fun _ z => z)

theorem does_len : DoesA X ca (fun xs H Q => ∃ x n, xs = [x] ∧ LenV X.K x H n ∧ Q (.int n) H) (bltF G .len) := by
  intro W σ H P ds vs F Q g hP h
  have r := g.rep
  simp only [bltF] at h
  unfold lenF at h
  split at h
  · obtain ⟨v, rfl, r1⟩ := reps1 r
    obtain ⟨a, ws, F', rfl, ha, rr⟩ := rep_lst r1
    exact ⟨_, _, rfl, .inl ⟨_, .inl (.inl ha), rfl⟩, by rw [← rr.length]; exact h.int⟩
  · obtain ⟨v, rfl, r1⟩ := reps1 r
    cases r1 with
    | tup ha rr => exact ⟨_, _, rfl, .inr ⟨_, ha, rfl⟩, by rw [← rr.length]; exact h.int⟩
  · obtain ⟨v, rfl, r1⟩ := reps1 r
    cases r1 with
    | scr ha => exact ⟨_, _, rfl, .inl ⟨_, ha.sql, rfl⟩, by rw [List.length_map]; exact h.int⟩
  · obtain ⟨v, rfl, r1⟩ := reps1 r
    cases r1
    split at h
    · rename_i z hl
      exact ⟨.str z, z.length, rfl, ⟨by rw [sizeLine_eq]; exact hl, rfl⟩, h.int⟩
    · exact h.elim
  · exact h.elim
theorem does_str : DoesA X ca (fun xs H Q => ∃ i, xs = [.int i] ∧ i.natAbs.log2 < 1920 ∧ Q (.str (toString i)) H) (bltF G .str) := by
  intro W σ H P ds vs F Q g hP h
  have r := g.rep
  simp only [bltF] at h
  unfold strF at h
  split at h
  · obtain ⟨v, rfl, r1⟩ := reps1 r
    cases r1
    split at h
    · rename_i hl
      exact ⟨_, rfl, hl, h.str⟩
    · exact h.elim
  · exact h.elim
theorem does_int : DoesA X ca (fun xs H Q => ((∃ i, xs = [.int i] ∧ Q (.int i) H) ∨ ∃ k, xs = [.bl k] ∧ Q (.int (if k then 1 else 0)) H) ∨ ∃ a n, xs = [.str a] ∧ PySem.intText? a = some n ∧ a.length ≤ 640 ∧ Q (.int n) H) (bltF G .int) := by
  intro W σ H P ds vs F Q g hP h
  have r := g.rep
  simp only [bltF] at h
  unfold intF at h
  split at h
  · obtain ⟨v, rfl, r1⟩ := reps1 r
    cases r1
    exact .inl (.inl ⟨_, rfl, h.int⟩)
  · obtain ⟨v, rfl, r1⟩ := reps1 r
    cases r1
    exact .inl (.inr ⟨_, rfl, h.int⟩)
  · obtain ⟨v, rfl, r1⟩ := reps1 r
    cases r1
    split at h
    · rename_i n hn
      split at h
      · rename_i hl
        exact .inr ⟨_, n, rfl, hn, hl, h.int⟩
      · exact h.elim
    · exact h.elim
  · exact h.elim
theorem does_sorted : DoesA X ca (rSortedI X.K) (bltF G .sorted) := by
  intro W σ H P ds vs F Q g hP h
  have r := g.rep
  simp only [bltF] at h
  unfold sortedF at h
  split at h
  · obtain ⟨v, rfl, r1⟩ := reps1 r
    obtain ⟨a, ws, F', rfl, ha, rr⟩ := rep_lst r1
    split at h
    · rename_i ns hn
      rw [reps_ints rr hn] at ha
      refine ⟨_, ns, rfl, .inl (.inl ha), fun ns' p pm ps hp => ?_⟩
      have e : ns' = sortI ns := sorted_eq (pm.trans (sortI_perm ns).symm) ps (sortI_sorted ns)
      subst e
      exact h.newL (Reps.ints _) hp
    · exact h.elim
  · exact h.elim
theorem does_list : DoesA X ca (fun xs H Q => ∃ p ys, xs = [.ref p] ∧ (SqL X.K H p ys ∨ SqT X.K H p ys) ∧ ∀ l, H l = none → Q (.ref l) (upd H l (.lst ys))) (bltF G .list) := by
  intro W σ H P ds vs F Q g hP h
  have s1 := g.shr
  have r := g.rep
  simp only [bltF] at h
  unfold listF at h
  split at h
  · obtain ⟨v, rfl, r1⟩ := reps1 r
    simp only [shares, share] at s1
    obtain ⟨v', e, s2⟩ := reps1 s1
    cases e
    cases s2 with
    | frz ha p rr => exact ⟨_, _, rfl, .inl (.inl (.inl ha)), fun l hl => h.newL rr hl⟩
  · obtain ⟨v, rfl, r1⟩ := reps1 r
    simp only [shares, share] at s1
    obtain ⟨v', e, s2⟩ := reps1 s1
    cases e
    cases s2 with
    | tup ha rr => exact ⟨_, _, rfl, .inr ha, fun l hl => h.newL rr hl⟩
  · exact h.elim
theorem does_max : DoesA X ca (fun xs H Q => (∃ i j, xs = [.int i, .int j] ∧ Q (.int (if j > i then j else i)) H) ∨ rMax X.K xs H Q) (bltF G .max) := by
  intro W σ H P ds vs F Q g hP h
  have r := g.rep
  simp only [bltF] at h
  unfold maxF at h
  split at h
  · obtain ⟨v, u, F1, F2, rfl, _, r1, r2⟩ := reps2 r
    cases r1; cases r2
    refine .inl ⟨_, _, rfl, ?_⟩
    rw [max_if]
    exact h.int
  · obtain ⟨v, rfl, r1⟩ := reps1 r
    obtain ⟨a, ws, F', rfl, ha, rr⟩ := rep_lst r1
    split at h
    · rename_i ns hn
      split at h
      · rename_i m hm
        rw [reps_ints rr hn] at ha
        obtain ⟨h1, h2⟩ := maxI_spec hm
        refine .inr ⟨_, ns, rfl, .inl (.inl ha), List.length_pos_of_mem h1, fun m' m1 m2 => ?_⟩
        have e : m' = m := Int.le_antisymm (h2 m' m1) (m2 m h1)
        rw [e]
        exact h.int
      · exact h.elim
    · exact h.elim
  · exact h.elim
theorem does_min : DoesA X ca (fun xs H Q => (∃ i j, xs = [.int i, .int j] ∧ Q (.int (if j < i then j else i)) H) ∨ rMin X.K xs H Q) (bltF G .min) := by
  intro W σ H P ds vs F Q g hP h
  have r := g.rep
  simp only [bltF] at h
  unfold minF at h
  split at h
  · obtain ⟨v, u, F1, F2, rfl, _, r1, r2⟩ := reps2 r
    cases r1; cases r2
    refine .inl ⟨_, _, rfl, ?_⟩
    rw [min_if]
    exact h.int
  · obtain ⟨v, rfl, r1⟩ := reps1 r
    obtain ⟨a, ws, F', rfl, ha, rr⟩ := rep_lst r1
    split at h
    · rename_i ns hn
      split at h
      · rename_i m hm
        rw [reps_ints rr hn] at ha
        obtain ⟨h1, h2⟩ := minI_spec hm
        refine .inr ⟨_, ns, rfl, .inl (.inl ha), List.length_pos_of_mem h1, fun m' m1 m2 => ?_⟩
        have e : m' = m := Int.le_antisymm (m2 m h1) (h2 m' m1)
        rw [e]
        exact h.int
      · exact h.elim
    · exact h.elim
  · exact h.elim
theorem does_sum : DoesA X ca (rSum X.K) (bltF G .sum) := by
  intro W σ H P ds vs F Q g hP h
  have r := g.rep
  simp only [bltF] at h
  unfold sumF at h
  split at h
  · obtain ⟨v, rfl, r1⟩ := reps1 r
    obtain ⟨a, ws, F', rfl, ha, rr⟩ := rep_lst r1
    split at h
    · rename_i ns hn
      rw [reps_ints rr hn] at ha
      exact ⟨_, ns, rfl, .inl (.inl ha), h.int⟩
    · exact h.elim
  · exact h.elim
theorem does_all : DoesA X ca (rAll X.K) (bltF G .all) := by
  intro W σ H P ds vs F Q g hP h
  have r := g.rep
  simp only [bltF] at h
  unfold allF at h
  split at h
  · obtain ⟨v, rfl, r1⟩ := reps1 r
    obtain ⟨a, ws, F', rfl, ha, rr⟩ := rep_lst r1
    split at h
    · rename_i ns hn
      rw [reps_bls rr hn] at ha
      exact ⟨_, ns, rfl, .inl (.inl ha), h.bl⟩
    · exact h.elim
  · exact h.elim
theorem does_abs : DoesA X ca (fun xs H Q => ∃ i, xs = [.int i] ∧ Q (.int (if i < 0 then -i else i)) H) (bltF G .abs) := by
  intro W σ H P ds vs F Q g hP h
  have r := g.rep
  simp only [bltF] at h
  unfold absF at h
  split at h
  · obtain ⟨v, rfl, r1⟩ := reps1 r
    cases r1
    exact ⟨_, rfl, h.int⟩
  · exact h.elim

/-! ## isinstance -/
/-- what a plain class says to isinstance -/
structure InsC (K : PySem.W.Frag) (C : Addr) : Prop where
  ha : PySem.W.findIn K (.ref C) "__class__" = some (some (.builtin "object.__class__"))
  hn : PySem.W.specialIn K (.builtin "object.__class__") "__get__" = some (some (.builtin "getset_descriptor.__get__"))
  ht : PySem.W.takesIn K (.builtin "object.__class__") = some true
  hm : PySem.W.mroIn K C (.type "object") = some true
/-- a type's value -/
def tv (ca : String → Option Addr) (t : String) : Value := match ca t with | some C => .ref C | none => .type t
structure IsL (K : PySem.W.Frag) (ca : String → Option Addr) (G : Gam) : Prop where
  kit : ∀ t n b, G.isT t n = some b → PySem.W.kitOne K (tv ca t) (tv ca n) = some b
  ins : ∀ c C i, G.ci c = some i → ca c = some C → InsC K C
  exc : ∀ c C, G.ci c = none → ca c = some C → ExcC K C
  bt : ∀ n, n ∈ ["NoneType", "bool", "int", "str", "tuple", "list"] → ca n = none
theorem ty_of {pins : List (Addr × Obj)} {σ : L2.St} {H : Hp} {s : Shared} {P : Addr → Prop} {d : D} {x : V} {F : List Addr} {u : Value} {t : String} (L : IsL X.K ca G) (I : Inv X pins σ H s) (r : Rep X.K ca H P d x F) (rx : RelV x u) (ht : tyKey G d = some t) :
    ∃ P' : Heap → Prop, PySem.W.KitX X.K u (tv ca t) P' ∧ P' s.heap ∧ u ≠ .builtin "__main__.__loader__#opaque" := by
  have bt : ∀ {n}, n ∈ ["NoneType", "bool", "int", "str", "tuple", "list"] → tv ca n = .type n := fun {n} m => by unfold tv; rw [L.bt n m]
  cases r with
  | non => cases ht; rw [bt (by simp)]; exact kit_of I rx (.base .non)
  | bl b => cases ht; rw [bt (by simp)]; exact kit_of I rx (.base (.bl b))
  | int i => cases ht; rw [bt (by simp)]; exact kit_of I rx (.base (.int i))
  | str i => cases ht; rw [bt (by simp)]; exact kit_of I rx (.base (.str i))
  | tup h r =>
    cases ht
    rw [bt (by simp)]
    rcases h with (h | ⟨o, h⟩) | ⟨o, its, n, h, hc, _⟩
    · exact kit_of I rx (.base (.tup h))
    · exact kit_of I rx (.fTuple h)
    · exact kit_of I rx (.kTuple h hc)
  | hid a => cases ht
  | «at» r => cases ht
  | dow h => cases ht
  | dfz h p => cases ht
  | own h r => cases ht; rw [bt (by simp)]; exact kit_of I rx (.base (.lst h))
  | frz h p r => cases ht; rw [bt (by simp)]; exact kit_of I rx (.base (.lst h))
  | scr h =>
    cases ht
    rw [bt (by simp)]
    rcases h with ⟨o, h⟩ | h
    · exact kit_of I rx (.base (.frz h))
    · rcases h with (h | ⟨o, h⟩) | ⟨o, its, n, h, hc, _⟩
      · cases h
      · cases h
      · exact kit_of I rx (.kList h hc)
  | @obj a C dx c ns ds vs hc h i p r =>
    simp only [tyKey] at ht
    cases hci : G.ci c with
    | none => rw [hci] at ht; cases ht
    | some ci =>
      rw [hci] at ht
      have et : t = c := (Option.some.inj ht).symm
      subst et
      have z := L.ins t C ci hci hc
      have e : tv ca t = .ref C := by unfold tv; rw [hc]
      rw [e]
      exact kit_of I rx (.base (.ins h i.cl z.ha z.hn z.ht z.hm))
  | @exc a C c hc h =>
    simp only [tyKey] at ht
    cases hci : G.ci c with
    | some ci => rw [hci] at ht; cases ht
    | none =>
      rw [hci] at ht
      have et : t = c := (Option.some.inj ht).symm
      subst et
      have z := L.exc t C hci hc
      have e : tv ca t = .ref C := by unfold tv; rw [hc]
      rw [e]
      obtain ⟨⟨oe, vs, h1, h2, h3⟩, _⟩ := I.hok a _ h
      cases rx
      refine ⟨_, PySem.W.handS_kitx_exc (ox := oe) z.hg z.hk z.hs z.hd z.ha z.hn z.ht z.hm, ?_, fun z => nomatch z⟩
      obtain ⟨oc, od, oda, osl⟩ := oe
      obtain ⟨q1, q2⟩ := h2
      dsimp only at q1 q2 h3
      subst q1 q2 h3
      exact ⟨h1, rfl, rfl, trivial⟩
  | cls hc => cases ht
  | ty n => cases ht
theorem cls_of {K : PySem.W.Frag} {H : Hp} {P : Addr → Prop} {d : D} {x : V} {F : List Addr} {u : Value} {n : String} (hty : ∀ n, d = .ty n → ca n = none) (r : Rep K ca H P d x F) (rx : RelV x u) (hn : clsKey d = some n) : u = tv ca n := by
  cases r <;> try (cases hn; done)
  · rename_i C c hc
    cases hn
    cases rx
    unfold tv
    rw [hc]
  · rename_i m
    cases hn
    cases rx
    unfold tv
    rw [hty _ rfl]
/-- isinstance of two values -/
def rIs (K : PySem.W.Frag) (ca : String → Option Addr) (G : Gam) : List V → Hp → VK → Prop := fun xs H Q => ∃ d P F x c t u b, xs = [x, c] ∧ Rep K ca H P d x F ∧ tyKey G d = some t ∧
  ((∃ n, (∀ w, RelV c w → w = tv ca n) ∧ u = tv ca n ∧ PySem.W.kitOne K (tv ca t) u = some b) ∨
   (∃ tp cs us, c = .ref tp ∧ (SqT K H tp cs) ∧ (∀ ws, Vals cs ws → ws = us) ∧ PySem.W.kitAny K (tv ca t) us = some b)) ∧ Q (.bl b) H
theorem call_is (L : IsL X.K ca G) : CallR X (.builtin "isinstance") (rIs X.K ca G) := by
  intro pins s σ H xs us Q I r h
  obtain ⟨d, P, F, x, c, t, u, b, rfl, rd, ht, hc, q⟩ := h
  obtain ⟨u1, u2, rfl, r1, r2⟩ := vals2 r
  obtain ⟨P', Z, p, hx⟩ := ty_of L I rd r1 ht
  rcases hc with ⟨n, hw, rfl, e⟩ | ⟨tp, cs, ws, rfl, hT, hv, e⟩
  · have e2 := hw _ r2
    subst e2
    exact PySem.W.kia_one Z I.kIn p e hx fun tk => ⟨.bl b, H, I.tok tk, rfl, q⟩
  · cases (show u2 = Value.ref tp from r2)
    obtain ⟨its, rv, ⟨o, h1, h2, n, h3⟩, _⟩ := I.tuple hT
    have e3 := hv _ rv
    subst e3
    obtain ⟨oc, od, dt, sl⟩ := o
    simp only at h2 h3
    subst h2 h3
    exact PySem.W.kia_tup Z I.kIn p h1 e hx fun tk => ⟨.bl b, H, I.tok tk, rfl, q⟩
theorem isF_kit {K : PySem.W.Frag} {d c : D} {t n : String} {b : Bool} (L : IsL K ca G) (h : isF G d c = .ok b) (ht : tyKey G d = some t) (hn : clsKey c = some n) : PySem.W.kitOne K (tv ca t) (tv ca n) = some b := by
  unfold isF at h
  rw [ht, hn] at h
  simp only at h
  split at h
  · rename_i b' e
    cases h
    exact L.kit _ _ _ e
  · cases h
theorem isF_ner {d c : D} {e : String} : isF G d c ≠ .er e := by
  unfold isF
  split
  · split <;> (intro z; cases z)
  · intro z; cases z
theorem isAny_ner {d : D} {e : String} : ∀ cs : List D, isAny G d cs ≠ .er e
  | [], z => by cases z
  | c :: r, z => by
    rw [isAny] at z
    cases q : isF G d c with
    | st => rw [q] at z; cases z
    | er c' => exact isF_ner q
    | ok b =>
      rw [q] at z
      cases b
      · exact isAny_ner r (by simpa using z)
      · simp at z
theorem isF_keys {d c : D} {b : Bool} (h : isF G d c = .ok b) : ∃ t n, tyKey G d = some t ∧ clsKey c = some n := by
  unfold isF at h
  split at h
  · exact ⟨_, _, by assumption, by assumption⟩
  · cases h
/-- the classes written in a tuple -/
def clsVal (ca : String → Option Addr) (c : D) : Value := match clsKey c with | some n => tv ca n | none => .none
theorem isAny_kit {K : PySem.W.Frag} {d : D} {t : String} (L : IsL K ca G) (ht : tyKey G d = some t) : ∀ {cs : List D} {b : Bool}, isAny G d cs = .ok b → PySem.W.kitAny K (tv ca t) (cs.map (clsVal ca)) = some b
  | [], b, h => by cases h; rfl
  | c :: r, b, h => by
    rw [isAny] at h
    cases e : isF G d c with
    | st => rw [e] at h; cases h
    | er c => rw [e] at h; cases h
    | ok b1 =>
      rw [e] at h
      obtain ⟨t', n, e1, e2⟩ := isF_keys e
      have k := isF_kit L e ht e2
      rw [List.map_cons]
      unfold PySem.W.kitAny
      have ev : clsVal ca c = tv ca n := by unfold clsVal; rw [e2]
      rw [ev, k]
      cases b1 with
      | true => simp only [Res.bind, if_true] at h; cases h; rfl
      | false => exact isAny_kit L ht (by simpa using h)
/-- tuples of classes: which are types stands in their text -/
def tysOk (ca : String → Option Addr) (d : D) : Prop := ∀ n, d = .ty n → ca n = none
theorem cls_all {K : PySem.W.Frag} {H : Hp} {P : Addr → Prop} : ∀ {cs : List D} {xs : List V} {F : List Addr}, Reps K ca H P cs xs F → (∀ c ∈ cs, tysOk ca c ∧ (clsKey c).isSome) → ∀ ws, Vals xs ws → ws = cs.map (clsVal ca)
  | _, _, _, .nil, _, _, .nil => rfl
  | _, _, _, @Reps.cons _ _ _ _ c v _ cs _ _ h r, q, _, .cons rv rr => by
    rw [List.map_cons, ← cls_all r (fun c m => q c (List.mem_cons_of_mem _ m)) _ rr]
    congr 1
    obtain ⟨q1, q2⟩ := q c (List.mem_cons_self ..)
    obtain ⟨n, en⟩ := Option.isSome_iff_exists.mp q2
    unfold clsVal
    rw [en]
    exact cls_of q1 h rv en
end
/-- which types a program names: none of them is a class of its own -/
structure TyOk (ca : String → Option Addr) : Prop where
  ty : ∀ n, n ∈ ["NoneType", "bool", "int", "str", "tuple", "list", "ValueError", "dict"] → ca n = none
theorem known_ok {ca : String → Option Addr} (T : TyOk ca) {c : D} (h : knownTy c = true) : tysOk ca c ∧ (clsKey c).isSome := by
  cases c <;> first
    | (simp [knownTy] at h; done)
    | skip
  · refine ⟨fun n e => ?_, rfl⟩
    cases e
  · refine ⟨fun n e => ?_, rfl⟩
    cases e
    exact T.ty _ (by simpa [knownTy] using h)
section
variable {X : Cx} {ca : String → Option Addr} {G : Gam}
theorem does_isinst (L : IsL X.K ca G) (T : TyOk ca) : DoesA X ca (rIs X.K ca G) (bltF G .isinst) := by
  intro W σ H P ds vs F Q g hP h
  have r := g.rep
  simp only [bltF] at h
  unfold isinF at h
  split at h
  · rename_i d cs
    obtain ⟨v, u, F1, F2, rfl, _, r1, r2⟩ := reps2 r
    by_cases hc : (cs.all knownTy && (tyKey G d).isSome) = true
    · rw [if_pos hc] at h
      rw [Bool.and_eq_true] at hc
      obtain ⟨t, ht⟩ := Option.isSome_iff_exists.mp hc.2
      cases e : isAny G d cs with
      | st => rw [e] at h; exact h.elim
      | er c => exact (isAny_ner cs e).elim
      | ok b =>
        rw [e] at h
        cases r2 with
        | tup hT rr =>
          exact ⟨_, _, _, _, _, t, .none, b, rfl, r1, ht, .inr ⟨_, _, _, rfl, hT, cls_all rr fun c m => known_ok T (List.all_eq_true.mp hc.1 c m), isAny_kit L ht e⟩, h.bl⟩
    · rw [if_neg hc] at h; exact h.elim
  · rename_i d c hnt
    obtain ⟨v, u, F1, F2, rfl, _, r1, r2⟩ := reps2 r
    by_cases hc : knownTy c = true
    · rw [if_pos hc] at h
      obtain ⟨k1, k2⟩ := known_ok T hc
      cases e : isF G d c with
      | st => rw [e] at h; exact h.elim
      | er c' => exact (isF_ner e).elim
      | ok b =>
        rw [e] at h
        obtain ⟨t, n, ht, hn⟩ := isF_keys e
        exact ⟨_, _, _, _, _, t, _, b, rfl, r1, ht, .inl ⟨n, fun w rw' => cls_of k1 r2 rw' hn, rfl, isF_kit L e ht hn⟩, h.bl⟩
    · rw [if_neg hc] at h; exact h.elim
  · exact h.elim
end
end Ev
namespace Ev
open PySem L2

/-! ## What stays while lists at P may change -/
def mutO : HO → Bool
  | .lst _ => true
  | .ins _ _ _ => true
  | .dK _ => true
  | _ => false
/-- all stays but lists and instances at P -/
def ExO (P : Addr → Prop) (H H' : Hp) : Prop := ∀ a o, H a = some o → (¬ P a ∨ mutO o = false) → H' a = some o
theorem ExO.refl (P : Addr → Prop) (H : Hp) : ExO P H H := fun _ _ h _ => h
theorem ExO.trans {P : Addr → Prop} {H H1 H2 : Hp} (a : ExO P H H1) (b : ExO P H1 H2) : ExO P H H2 := fun x o h q => b x o (a x o h q) q
theorem Ex.exo {P : Addr → Prop} {H H' : Hp} (e : Ex H H') : ExO P H H' := fun a o h _ => e a o h
theorem ExO.mono {P P' : Addr → Prop} {H H' : Hp} (e : ExO P H H') (h : ∀ a, P a → P' a) : ExO P' H H' := fun a o q z => e a o q (z.imp (fun n p => n (h a p)) id)
theorem ExO.sqt {P : Addr → Prop} {K : PySem.W.Frag} {H H' : Hp} {a : Addr} {xs : List V} (e : ExO P H H') (h : SqT K H a xs) : SqT K H' a xs := by
  rcases h with (h | ⟨o, h⟩) | h
  · exact .inl (.inl (e _ _ h (.inr rfl)))
  · exact .inl (.inr ⟨o, e _ _ h (.inr rfl)⟩)
  · exact .inr h
theorem ExO.scl {P : Addr → Prop} {K : PySem.W.Frag} {H H' : Hp} {a : Addr} {xs : List V} (e : ExO P H H') (h : ScL K H a xs) : ScL K H' a xs := by
  rcases h with ⟨o, h⟩ | h
  · exact .inl ⟨o, e _ _ h (.inr rfl)⟩
  · exact .inr h
section
variable {K : PySem.W.Frag} {ca : String → Option Addr} {H H' : Hp} {P P' P3 : Addr → Prop}
mutual
/-- what holds no list of its own outlives changes at P -/
theorem Rep.exo (e : ExO P H H') (hP : ∀ a, P3 a → P a ∨ H a = none) : ∀ {d : D} {v : V} {F : List Addr}, F = [] → Rep K ca H P d v F → Rep K ca H' P3 d v F
  | _, _, _, n, .tup h r => .tup (e.sqt h) (Reps.exo e hP n r)
  | _, _, _, n, .own h r => by cases n
  | _, _, _, _, .non => .non
  | _, _, _, _, .bl _ => .bl _
  | _, _, _, _, .int _ => .int _
  | _, _, _, _, .str _ => .str _
  | _, _, _, _, .frz h p r => .frz (e _ _ h (.inl p)) (fun z => (hP _ z).elim p fun n => by rw [n] at h; cases h) (Reps.exo e hP rfl r)
  | _, _, _, _, .scr h => .scr (e.scl h)
  | _, _, _, _, .obj hc h i p r => .obj hc (e _ _ h (.inl p)) i (fun z => (hP _ z).elim p fun n => by rw [n] at h; cases h) (Reps.exo e hP rfl r)
  | _, _, _, _, .exc hc h => .exc hc (e _ _ h (.inr rfl))
  | _, _, _, _, .cls hc => .cls hc
  | _, _, _, _, .ty _ => .ty _
  | _, _, _, _, .hid _ => .hid _
  | _, _, _, n, .at r => .at (Rep.exo e hP n r)
  | _, _, _, n, .dow h => by cases n
  | _, _, _, _, .dfz h p => .dfz (e _ _ h (.inl p)) (fun z => (hP _ z).elim p fun n => by rw [n] at h; cases h)
theorem Reps.exo (e : ExO P H H') (hP : ∀ a, P3 a → P a ∨ H a = none) : ∀ {ds : List D} {vs : List V} {F : List Addr}, F = [] → Reps K ca H P ds vs F → Reps K ca H' P3 ds vs F
  | _, _, _, _, .nil => .nil
  | _, _, _, n, .cons h r => .cons (Rep.exo e hP (List.append_eq_nil_iff.mp n).1 h) (Reps.exo e hP (List.append_eq_nil_iff.mp n).2 r)
end
mutual
/-- what holds lists of its own, too, if they are not at P -/
theorem Rep.exoF {Q : Addr → Prop} (e : ExO Q H H') (hQ : ∀ a, Q a → P a) (hP : ∀ a, P3 a → P a ∨ H a = none) : ∀ {d : D} {v : V} {F : List Addr}, (∀ a ∈ F, ¬ Q a) → Rep K ca H P d v F → Rep K ca H' P3 d v F
  | _, _, _, n, .tup h r => .tup (e.sqt h) (Reps.exoF e hQ hP n r)
  | _, _, _, n, .own h r => .own (e _ _ h (.inl (n _ (List.mem_cons_self ..)))) (Reps.exoF e hQ hP (fun a m => n a (List.mem_cons_of_mem _ m)) r)
  | _, _, _, _, .non => .non
  | _, _, _, _, .bl _ => .bl _
  | _, _, _, _, .int _ => .int _
  | _, _, _, _, .str _ => .str _
  | _, _, _, _, .frz h p r => .frz (e _ _ h (.inl fun z => p (hQ _ z))) (fun z => (hP _ z).elim p fun n => by rw [n] at h; cases h) (Reps.exoF e hQ hP (by simp) r)
  | _, _, _, _, .scr h => .scr (e.scl h)
  | _, _, _, _, .obj hc h i p r => .obj hc (e _ _ h (.inl fun z => p (hQ _ z))) i (fun z => (hP _ z).elim p fun n => by rw [n] at h; cases h) (Reps.exoF e hQ hP (by simp) r)
  | _, _, _, _, .exc hc h => .exc hc (e _ _ h (.inr rfl))
  | _, _, _, _, .cls hc => .cls hc
  | _, _, _, _, .ty _ => .ty _
  | _, _, _, _, .hid _ => .hid _
  | _, _, _, n, .at r => .at (Rep.exoF e hQ hP n r)
  | _, _, _, n, .dow h => .dow (e _ _ h (.inl (n _ (List.mem_cons_self ..))))
  | _, _, _, _, .dfz h p => .dfz (e _ _ h (.inl fun z => p (hQ _ z))) (fun z => (hP _ z).elim p fun n => by rw [n] at h; cases h)
theorem Reps.exoF {Q : Addr → Prop} (e : ExO Q H H') (hQ : ∀ a, Q a → P a) (hP : ∀ a, P3 a → P a ∨ H a = none) : ∀ {ds : List D} {vs : List V} {F : List Addr}, (∀ a ∈ F, ¬ Q a) → Reps K ca H P ds vs F → Reps K ca H' P3 ds vs F
  | _, _, _, _, .nil => .nil
  | _, _, _, n, .cons h r => .cons (Rep.exoF e hQ hP (fun a m => n a (List.mem_append_left _ m)) h) (Reps.exoF e hQ hP (fun a m => n a (List.mem_append_right _ m)) r)
end
end

/-! ## What is walked -/
/-- J walks the items xs, which come of the arguments ds, as long as nothing but lists at some P is changed -/
structure IsW (K : PySem.W.Frag) (ca : String → Option Addr) (ds : List D) (vs : List V) (H1 : Hp) (J : It) (xs : List D) (Gd : Hp → Prop) (Y : Nat → Hp → V → Hp → Prop) : Prop where
  walk : Walk J xs.length Gd Y
  keep : ∀ P, Reps K ca H1 P (shares ds) vs [] → ∀ H', ExO P H1 H' → Gd H'
  item : ∀ P, Reps K ca H1 P (shares ds) vs [] → ∀ i Hh x Hh', i < xs.length → ExO P H1 Hh → Y i Hh x Hh' → Ex Hh Hh' ∧ ∃ d, xs[i]? = some d ∧ ∀ P3, (∀ a, P3 a → P a ∨ H1 a = none) → Rep K ca Hh' P3 d x []
def PostI (K : PySem.W.Frag) (ca : String → Option Addr) (W : WE) (σ : L2.St) (H : Hp) (P : Addr → Prop) (k : ItK) : Res (List D) → (It → Hp → Prop) → Prop
  | .ok ds, R => ∃ xs, itemsF k ds = .ok xs ∧ ∀ vs H1 F, Ex H H1 → F.Nodup → (∀ a ∈ F, H a = none) → Reps K ca H1 (fun a => P a ∨ a ∈ F) ds vs F → ∀ J Gd Y, IsW K ca ds vs H1 J xs Gd Y → R J H1
  | .er c, _ => ∀ H', Ex H H' → W c σ H'
  | .st, _ => False
def tI (K : PySem.W.Frag) (ca : String → Option Addr) (G : Gam) (W : WE) (k : ItK) (as : E) : TI := fun σ H R => ∃ ρ P, BEnv K ca ρ σ H P ∧ Trk P H ∧ PostI K ca W σ H P k (evs G ρ as) R
theorem PI.imp {X : Cx} {tg e : Expr} {t t' : TI} (h : PI X tg e t) (i : ∀ σ H Q, t' σ H Q → t σ H Q) : PI X tg e t' := ⟨fun pins s σ H Q I q => h.run pins s σ H Q I (i σ H Q q)⟩
theorem PI.or {X : Cx} {tg e : Expr} {t t' : TI} (h : PI X tg e t) (h' : PI X tg e t') : PI X tg e (fun σ H Q => t σ H Q ∨ t' σ H Q) :=
  ⟨fun pins s σ H Q I q => q.elim (h.run pins s σ H Q I) (h'.run pins s σ H Q I)⟩
/-- the iterable iter walks what k and as' say -/
abbrev SI (X : Cx) (ca : String → Option Addr) (G : Gam) (W : WE) (tg iter : Expr) (k : ItK) (as' : E) : Prop := PI X tg iter (tI X.K ca G W k as')

theorem xs_at {xs : List V} {ds : List D} {K : PySem.W.Frag} {ca : String → Option Addr} {H : Hp} {P : Addr → Prop} {i : Nat} {x : V} (r : Reps K ca H P ds xs []) (h : xs[i]? = some x) : ∃ d, ds[i]? = some d ∧ Rep K ca H P d x [] := by
  have l := r.length
  have hi : i < ds.length := by rw [l]; exact (List.getElem?_eq_some_iff.mp h).1
  exact ⟨ds[i], by simp [hi], r.at_ (by simp [hi]) h⟩
section
variable {K : PySem.W.Frag} {ca : String → Option Addr} {H1 : Hp}
theorem shr1_lst {P : Addr → Prop} {o : Bool} {xs : List D} {a : Addr} (r : Reps K ca H1 P (shares [.lst o xs]) [.ref a] []) : ∃ ws, H1 a = some (.lst ws) ∧ ¬ P a ∧ Reps K ca H1 P (shares xs) ws [] := by
  simp only [shares, share] at r
  obtain ⟨v, e, r1⟩ := reps1 r
  cases e
  cases r1 with
  | frz h p rr => exact ⟨_, h, p, rr⟩
theorem isw_list {o : Bool} {xs : List D} {a : Addr} {ws : List V} (hs : H1 a = some (.lst ws)) (hl : xs.length = ws.length) : IsW K ca [.lst o xs] [.ref a] H1 (Itl K a) (shares xs) (fun H => SqL K H a ws) (YAt ws) := by
  have el : (shares xs).length = ws.length := by rw [shares_map, List.length_map, hl]
  refine ⟨by rw [el]; exact walk_list, fun P r H' e => ?_, fun P r i Hh x Hh' hi e y => ?_⟩
  · obtain ⟨ws', h, p, _⟩ := shr1_lst r
    rw [hs] at h; cases h
    exact .inl (.inl (e _ _ hs (.inl p)))
  · obtain ⟨ws', h, p, rr⟩ := shr1_lst r
    rw [hs] at h; cases h
    obtain ⟨rfl, hx⟩ := y
    obtain ⟨d, hd, rd⟩ := xs_at rr hx
    exact ⟨Ex.refl _, d, hd, fun P3 h3 => rd.exo e h3 rfl⟩
theorem isw_tup {xs : List D} {a : Addr} {ws : List V} (hs : SqT K H1 a ws) (hl : xs.length = ws.length) (hu : ∀ ws', SqT K H1 a ws' → ws' = ws) : IsW K ca [.tup xs] [.ref a] H1 (Itt K a) (shares xs) (fun H => SqT K H a ws) (YAt ws) := by
  have el : (shares xs).length = ws.length := by rw [shares_map, List.length_map, hl]
  refine ⟨by rw [el]; exact walk_tup, fun P r H' e => e.sqt hs, fun P r i Hh x Hh' hi e y => ?_⟩
  simp only [shares, share] at r
  obtain ⟨v, e1, r1⟩ := reps1 r
  cases e1
  cases r1 with
  | tup h rr =>
    have := hu _ h
    subst this
    obtain ⟨rfl, hx⟩ := y
    obtain ⟨d, hd, rd⟩ := xs_at rr hx
    exact ⟨Ex.refl _, d, hd, fun P3 h3 => rd.exo e h3 rfl⟩
theorem isw_scr {ns : List Int} {a : Addr} (hs : ScL K H1 a (ns.map V.int)) : IsW K ca [.scr ns] [.ref a] H1 (Itl K a) (ns.map .int) (fun H => SqL K H a (ns.map V.int)) (YAt (ns.map V.int)) := by
  refine ⟨by rw [List.length_map, ← List.length_map (f := V.int)]; exact walk_list, fun P r H' e => (e.scl hs).sql, fun P r i Hh x Hh' hi e y => ?_⟩
  obtain ⟨rfl, hx⟩ := y
  obtain ⟨d, hd, rd⟩ := xs_at (K := K) (ca := ca) (H := Hh') (P := P) (Reps.ints ns) hx
  refine ⟨Ex.refl _, d, hd, fun P3 h3 => ?_⟩
  rw [List.getElem?_map] at hd
  cases e1 : ns[i]? with
  | none => rw [e1] at hd; cases hd
  | some n => rw [e1] at hd; cases hd; cases rd; exact .int n
theorem isw_str {z : Str} : IsW K ca [.str z] [.str z] H1 (Its z) (z.cps.toList.map fun c => .str ⟨#[c]⟩) (fun _ => True) (fun i H v H' => H' = H ∧ ∃ c, z.cps[i]? = some c ∧ v = .str ⟨#[c]⟩) := by
  refine ⟨by rw [List.length_map, Array.length_toList]; exact walk_str, fun P r H' e => trivial, fun P r i Hh x Hh' hi e y => ?_⟩
  obtain ⟨rfl, c, hc, rfl⟩ := y
  exact ⟨Ex.refl _, .str ⟨#[c]⟩, by rw [List.getElem?_map, Array.getElem?_toList, hc]; rfl, fun _ _ => .str _⟩
theorem isw_rng {ds : List D} {vs : List V} {lo : Int} {n : Nat} : IsW K ca ds vs H1 (Itr lo n) (rngD lo n 1) (fun _ => True) (YFn fun i => .int (lo + i)) := by
  have el : (rngD lo n 1).length = n := by simp [rngD]
  refine ⟨by rw [el]; exact walk_range, fun P r H' e => trivial, fun P r i Hh x Hh' hi e y => ?_⟩
  obtain ⟨rfl, rfl⟩ := y
  rw [el] at hi
  refine ⟨Ex.refl _, .int (lo + i), ?_, fun _ _ => .int _⟩
  unfold rngD
  rw [List.getElem?_map, List.getElem?_range hi]
  simp
theorem rngSize_nn (i j c : Int) (h : c ≠ 0) : 0 ≤ Builtin.Range.rangeSize i j c := by
  unfold Builtin.Range.rangeSize
  split
  · split
    · have := Int.ediv_nonneg (a := j - i - 1) (b := c) (by omega) (by omega); omega
    · omega
  · split
    · have := Int.ediv_nonneg (a := i - j - 1) (b := -c) (by omega) (by omega); omega
    · omega
theorem isw_rngc {ds : List D} {vs : List V} {lo c : Int} {n : Nat} : IsW K ca ds vs H1 (Itc lo c n) (rngD lo n c) (fun _ => True) (YFn fun i => .int (lo + (i : Nat) * c)) := by
  have el : (rngD lo n c).length = n := by simp [rngD]
  refine ⟨by rw [el]; exact walk_rangeC, fun P r H' e => trivial, fun P r i Hh x Hh' hi e y => ?_⟩
  obtain ⟨rfl, rfl⟩ := y
  rw [el] at hi
  refine ⟨Ex.refl _, .int (lo + (i : Nat) * c), ?_, fun _ _ => .int _⟩
  unfold rngD
  rw [List.getElem?_map, List.getElem?_range hi]
  rfl
theorem shr2_lst {P : Addr → Prop} {o o2 : Bool} {xs ys : List D} {a b : Addr} (r : Reps K ca H1 P (shares [.lst o xs, .lst o2 ys]) [.ref a, .ref b] []) :
    ∃ ws us, H1 a = some (.lst ws) ∧ ¬ P a ∧ Reps K ca H1 P (shares xs) ws [] ∧ H1 b = some (.lst us) ∧ ¬ P b ∧ Reps K ca H1 P (shares ys) us [] := by
  simp only [shares, share] at r
  obtain ⟨v, u, F1, F2, e, f, r1, r2⟩ := reps2 r
  obtain ⟨f1, f2⟩ := List.append_eq_nil_iff.mp f.symm
  subst f1 f2
  cases e
  cases r1 with
  | frz h p rr =>
    cases r2 with
    | frz h2 p2 rr2 => exact ⟨_, _, h, p, rr, h2, p2, rr2⟩
theorem isw_zip {o o2 : Bool} {xs ys : List D} {a b : Addr} {ws us : List V} (ha : H1 a = some (.lst ws)) (hb : H1 b = some (.lst us)) (l1 : xs.length = ws.length) (l2 : ys.length = us.length) :
    IsW K ca [.lst o xs, .lst o2 ys] [.ref a, .ref b] H1 (Itz K a b) (((shares xs).zip (shares ys)).map fun p => .tup [p.1, p.2]) (fun H => SqL K H a ws ∧ SqL K H b us) (YPair (fun i => ws[i]?) (fun i => us[i]?)) := by
  have el : (((shares xs).zip (shares ys)).map fun p => D.tup [p.1, p.2]).length = min ws.length us.length := by
    rw [List.length_map, List.length_zip, shares_map, shares_map, List.length_map, List.length_map, l1, l2]
  refine ⟨by rw [el]; exact walk_zip rfl, fun P r H' e => ?_, fun P r i Hh x Hh' hi e y => ?_⟩
  · obtain ⟨w1, u1, h1, p1, _, h2, p2, _⟩ := shr2_lst r
    rw [ha] at h1; cases h1
    rw [hb] at h2; cases h2
    exact ⟨.inl (.inl (e _ _ ha (.inl p1))), .inl (.inl (e _ _ hb (.inl p2)))⟩
  · obtain ⟨w1, u1, h1, p1, r1, h2, p2, r2⟩ := shr2_lst r
    rw [ha] at h1; cases h1
    rw [hb] at h2; cases h2
    obtain ⟨T, x1, y1, rfl, hT, rfl, hx, hy⟩ := y
    obtain ⟨d1, hd1, rd1⟩ := xs_at r1 hx
    obtain ⟨d2, hd2, rd2⟩ := xs_at r2 hy
    refine ⟨Ex.new hT, .tup [d1, d2], ?_, fun P3 h3 => .tup (.inl (.inl upd_same)) (.cons (F := []) (F' := []) ((rd1.exo e h3 rfl).ext (Ex.new hT)) (.cons (F := []) (F' := []) ((rd2.exo e h3 rfl).ext (Ex.new hT)) .nil))⟩
    rw [List.getElem?_map, (List.getElem?_zip_eq_some (z := (d1, d2))).mpr ⟨hd1, hd2⟩]
    rfl
theorem isw_enum {o : Bool} {xs : List D} {a : Addr} {ws : List V} (ha : H1 a = some (.lst ws)) (l1 : xs.length = ws.length) :
    IsW K ca [.lst o xs] [.ref a] H1 (Ite K a) ((shares xs).zipIdx.map fun p => .tup [.int (p.2 : Nat), p.1]) (fun H => SqL K H a ws) (YPair (fun i => some (.int (i : Nat))) (fun i => ws[i]?)) := by
  have el : ((shares xs).zipIdx.map fun p => D.tup [.int (p.2 : Nat), p.1]).length = ws.length := by
    rw [List.length_map, List.length_zipIdx, shares_map, List.length_map, l1]
  refine ⟨by rw [el]; exact walk_enum, fun P r H' e => ?_, fun P r i Hh x Hh' hi e y => ?_⟩
  · obtain ⟨w1, h1, p1, _⟩ := shr1_lst r
    rw [ha] at h1; cases h1
    exact .inl (.inl (e _ _ ha (.inl p1)))
  · obtain ⟨w1, h1, p1, r1⟩ := shr1_lst r
    rw [ha] at h1; cases h1
    obtain ⟨T, x1, y1, rfl, hT, rfl, hx, hy⟩ := y
    cases hx
    obtain ⟨d2, hd2, rd2⟩ := xs_at r1 hy
    refine ⟨Ex.new hT, .tup [.int (i : Nat), d2], ?_, fun P3 h3 => .tup (.inl (.inl upd_same)) (.cons (F := []) (F' := []) (.int _) (.cons (F := []) (F' := []) ((rd2.exo e h3 rfl).ext (Ex.new hT)) .nil))⟩
    rw [List.getElem?_map, List.getElem?_zipIdx, hd2]
    simp
theorem isw_rev {o : Bool} {xs : List D} {a : Addr} {ws : List V} (ha : H1 a = some (.lst ws)) (l1 : xs.length = ws.length) :
    IsW K ca [.lst o xs] [.ref a] H1 (Itv K a ws.length) (shares xs).reverse (fun H => SqL K H a ws) (fun i H x H' => H' = H ∧ ws[ws.length - 1 - i]? = some x) := by
  have el : (shares xs).reverse.length = ws.length := by rw [List.length_reverse, shares_map, List.length_map, l1]
  refine ⟨by rw [el]; exact walk_rev, fun P r H' e => ?_, fun P r i Hh x Hh' hi e y => ?_⟩
  · obtain ⟨w1, h1, p1, _⟩ := shr1_lst r
    rw [ha] at h1; cases h1
    exact .inl (.inl (e _ _ ha (.inl p1)))
  · obtain ⟨w1, h1, p1, r1⟩ := shr1_lst r
    rw [ha] at h1; cases h1
    obtain ⟨rfl, hy⟩ := y
    obtain ⟨d2, hd2, rd2⟩ := xs_at r1 hy
    refine ⟨Ex.refl _, d2, ?_, fun P3 h3 => rd2.exo e h3 rfl⟩
    have l2 : (shares xs).length = ws.length := by rw [shares_map, List.length_map, l1]
    rw [List.getElem?_reverse (by rw [l2]; rw [el] at hi; exact hi), l2]
    exact hd2
end
section
variable {X : Cx} {ca : String → Option Addr} {G : Gam} {W : WE} {tg : Expr}
variable {a b c : Expr} {a' b' c' : E} {pos p apos : Pos}
/-- from the arguments on -/
theorem t_it {k : ItK} {as' : E} {K : PySem.W.Frag} {σ : L2.St} {H : Hp} {R : It → Hp → Prop} {Rv : List V → Hp → Prop} (h : tI K ca G W k as' σ H R)
    (hR : ∀ ds xs vs H1 (P : Addr → Prop) (F : List Addr), itemsF k ds = .ok xs → Reps K ca H1 (fun a => P a ∨ a ∈ F) ds vs F → (∀ J Gd Y, IsW K ca ds vs H1 J xs Gd Y → R J H1) → Rv vs H1) : tA K ca G W as' σ H Rv := by
  obtain ⟨ρ, P, hB, hP, h⟩ := h
  refine ⟨ρ, P, hB, hP, ?_⟩
  cases e1 : evs G ρ as' with
  | st => rw [e1] at h; exact h
  | er c => rw [e1] at h; exact h
  | ok ds =>
    rw [e1] at h
    obtain ⟨xs, hx, h⟩ := h
    exact fun vs H1 F x n f r => hR ds xs vs H1 P F hx r fun J Gd Y => h vs H1 F x n f r J Gd Y
/-- one argument that stands for itself -/
theorem t_it1 {K : PySem.W.Frag} {σ : L2.St} {H : Hp} {R : It → Hp → Prop} {Rv : V → Hp → Prop} (h : tI K ca G W .seq (.cons a' .nil) σ H R)
    (hR : ∀ d xs v H1 (P : Addr → Prop) (F : List Addr), itemsF .seq [d] = .ok xs → Rep K ca H1 (fun a => P a ∨ a ∈ F) d v F → (∀ J Gd Y, IsW K ca [d] [v] H1 J xs Gd Y → R J H1) → Rv v H1) : tE K ca G W a' σ H Rv := by
  obtain ⟨ρ, P, hB, hP, h⟩ := h
  refine ⟨ρ, P, hB, hP, ?_⟩
  simp only [evs] at h
  cases e1 : ev G ρ a' with
  | st => rw [e1] at h; exact h
  | er c => rw [e1] at h; exact h
  | ok d =>
    rw [e1] at h
    obtain ⟨xs, hx, h⟩ := h
    refine fun v H1 F x n f r => hR d xs v H1 P F hx r fun J Gd Y => h [v] H1 F x n f ?_ J Gd Y
    have := Reps.cons r (Reps.nil (K := K) (ca := ca) (H := H1) (P := fun a => P a ∨ a ∈ F))
    rw [List.append_nil] at this
    exact this
theorem si_seq (ha : SE X ca G W a a') : SI X ca G W tg a .seq (.cons a' .nil) := by
  refine ⟨fun pins s σ H R I h => ?_⟩
  -- tuples are known by the heap: their items are one
  refine thn (ha.run pins s σ H (fun v H1 => ∃ d xs, ∃ P : Addr → Prop, ∃ F : List Addr, itemsF .seq [d] = .ok xs ∧ Rep X.K ca H1 (fun a => P a ∨ a ∈ F) d v F ∧ (∀ J Gd Y, IsW X.K ca [d] [v] H1 J xs Gd Y → R J H1)) I (t_it1 h fun d xs v H1 P F e r q => ⟨d, xs, P, F, e, r, q⟩)) fun v s1 ⟨x, H1, I1, r1, d, xs, P, F, e, r, q⟩ => ?_
  cases r with
  | own hh rr =>
    simp only [itemsF, seqF] at e
    cases e
    cases r1
    obtain ⟨its, rv, pl, hz⟩ := I1.list (.inl (.inl hh))
    refine wpAny_pyIter_list pl.isList ?_
    refine ⟨s1.heap.objs.size, [s1.heap.objs.size], _, _, H1, rfl, I1.kept (t' := s1.toks) fun b o e => Heap.get?_push_of_some _ e, turn_list _ _, ⟨_, Heap.get?_push_size _ rfl, rfl, rfl⟩, fun b hb => ?_, q _ _ _ (isw_list hh rr.length)⟩
    have e : b = s1.heap.objs.size := by simpa using hb
    rw [e]
    exact I1.fpOk (Nat.le_refl _) (I1.hok.fresh (Nat.le_refl _))
  | frz hh pp rr =>
    simp only [itemsF, seqF] at e
    cases e
    cases r1
    obtain ⟨its, rv, pl, hz⟩ := I1.list (.inl (.inl hh))
    refine wpAny_pyIter_list pl.isList ?_
    refine ⟨s1.heap.objs.size, [s1.heap.objs.size], _, _, H1, rfl, I1.kept (t' := s1.toks) fun b o e => Heap.get?_push_of_some _ e, turn_list _ _, ⟨_, Heap.get?_push_size _ rfl, rfl, rfl⟩, fun b hb => ?_, q _ _ _ (isw_list hh rr.length)⟩
    have e : b = s1.heap.objs.size := by simpa using hb
    rw [e]
    exact I1.fpOk (Nat.le_refl _) (I1.hok.fresh (Nat.le_refl _))
  | scr hh =>
    simp only [itemsF, seqF] at e
    cases e
    cases r1
    obtain ⟨its, rv, pl, hz⟩ := I1.list hh.sql
    refine wpAny_pyIter_list pl.isList ?_
    refine ⟨s1.heap.objs.size, [s1.heap.objs.size], _, _, H1, rfl, I1.kept (t' := s1.toks) fun b o e => Heap.get?_push_of_some _ e, turn_list _ _, ⟨_, Heap.get?_push_size _ rfl, rfl, rfl⟩, fun b hb => ?_, q _ _ _ (isw_scr hh)⟩
    have e : b = s1.heap.objs.size := by simpa using hb
    rw [e]
    exact I1.fpOk (Nat.le_refl _) (I1.hok.fresh (Nat.le_refl _))
  | tup hh rr =>
    simp only [itemsF, seqF] at e
    cases e
    cases r1
    obtain ⟨its, rv, pl, hz⟩ := I1.tuple hh
    refine wpAny_pyIter_tuple (show s1.heap.IsTuple _ its.toArray from pl) ?_
    refine ⟨s1.heap.objs.size, [s1.heap.objs.size], _, _, H1, rfl, I1.kept (t' := s1.toks) fun b o e => Heap.get?_push_of_some _ e, turn_tuple _ _, ⟨_, Heap.get?_push_size _ rfl, rfl, rfl⟩, fun b hb => ?_, q _ _ _ (isw_tup hh rr.length fun ws' h' => I1.tuple_inj h' hh)⟩
    have e : b = s1.heap.objs.size := by simpa using hb
    rw [e]
    exact I1.fpOk (Nat.le_refl _) (I1.hok.fresh (Nat.le_refl _))
  | _ => simp only [itemsF, seqF] at e; cases e
theorem si_chr (ha : SE X ca G W a a') : SI X ca G W tg a .chr (.cons a' .nil) := by
  refine PI.imp (pi_str ha) fun σ H R h => ?_
  obtain ⟨ρ, P, hB, hP, h⟩ := h
  refine ⟨ρ, P, hB, hP, ?_⟩
  simp only [evs] at h
  cases e1 : ev G ρ a' with
  | st => rw [e1] at h; exact h
  | er c => rw [e1] at h; exact h
  | ok d =>
    rw [e1] at h
    obtain ⟨xs, hx, h⟩ := h
    intro v H1 F x n f r
    cases d with
    | str z =>
      cases hx
      generalize eF : F = F' at r
      cases r
      subst eF
      exact ⟨_, rfl, h [.str z] H1 [] x (by simp) (by simp) (.cons (F := []) (F' := []) (.str z) .nil) _ _ _ isw_str⟩
    | _ => cases hx
theorem rngOk_of {i : Int} (h : rngOk i = true) : -(2 ^ 62) ≤ i ∧ i < 2 ^ 62 := by
  unfold rngOk at h
  rw [Bool.and_eq_true] at h
  exact ⟨of_decide_eq_true h.1, of_decide_eq_true h.2⟩
theorem si_rng1 {as' : E} (hm : X.mg "range" = none) (ha : SA X ca G W [a] as') (hg : Gl X "range" := by rfl) (hs : starEach [a] X.env = [(false, eval a X.env)] := by rfl) : SI X ca G W tg (.Call (.Name "range" p) [a] [] pos) .rng1 as' := by
  refine PI.imp (pi_range1 hg hm ha hs) fun σ H R h => t_it h fun ds xs vs H1 P F e r q => ?_
  simp only [itemsF] at e
  unfold rng1F at e
  split at e
  · rename_i j
    split at e
    · rename_i hj
      cases e
      obtain ⟨v, rfl, r1⟩ := reps1 r
      cases r1
      obtain ⟨h1, h2⟩ := rngOk_of hj
      exact ⟨j, rfl, h1, h2, q _ _ _ isw_rng⟩
    · cases e
  · cases e
theorem si_rng2 {as' : E} (hm : X.mg "range" = none) (ha : SA X ca G W [a, b] as') (hg : Gl X "range" := by rfl) (hs : starEach [a, b] X.env = [(false, eval a X.env), (false, eval b X.env)] := by rfl) (hs2 : starEach [b] X.env = [(false, eval b X.env)] := by rfl) :
    SI X ca G W tg (.Call (.Name "range" p) [a, b] [] pos) .rng2 as' := by
  refine PI.imp (pi_range2 hg hm ha hs hs2) fun σ H R h => t_it h fun ds xs vs H1 P F e r q => ?_
  simp only [itemsF] at e
  unfold rng2F at e
  split at e
  · rename_i i j
    split at e
    · rename_i hj
      cases e
      rw [Bool.and_eq_true] at hj
      obtain ⟨v, u, F1, F2, rfl, _, r1, r2⟩ := reps2 r
      cases r1
      cases r2
      obtain ⟨h1, h2⟩ := rngOk_of hj.1
      obtain ⟨h3, h4⟩ := rngOk_of hj.2
      exact ⟨i, j, rfl, ⟨h1, h2, h3, h4⟩, q _ _ _ isw_rng⟩
    · cases e
  · cases e
theorem si_rng3 {c : Expr} {as' : E} (hm : X.mg "range" = none) (ha : SA X ca G W [a, b, c] as') (hg : Gl X "range" := by rfl) (hs : starEach [a, b, c] X.env = (false, eval a X.env) :: starEach [b, c] X.env := by rfl) (hs2 : (backTo pos (starEach [b, c] X.env)).any (·.1) = false := by rfl) :
    SI X ca G W tg (.Call (.Name "range" p) [a, b, c] [] pos) .rng3 as' := by
  refine PI.imp (pi_range3 hg hm ha hs hs2) fun σ H R h => t_it h fun ds xs vs H1 P F e r q => ?_
  simp only [itemsF] at e
  unfold rng3F at e
  split at e
  · rename_i i j k
    split at e
    · rename_i hj
      cases e
      unfold rng3Ok at hj
      rw [Bool.and_eq_true, Bool.and_eq_true] at hj
      cases r with
      | cons r1 r =>
        obtain ⟨v, u, F1, F2, rfl, _, r2, r3⟩ := reps2 r
        cases r1
        cases r2
        cases r3
        have k0 : k ≠ 0 := of_decide_eq_true hj.1.1
        exact ⟨i, j, k, _, rfl, ⟨k0, of_decide_eq_true hj.1.2, hj.2, (Int.toNat_of_nonneg (rngSize_nn i j k k0)).symm⟩, q _ _ _ isw_rngc⟩
    · cases e
  · cases e
theorem si_zip {as' : E} {elts : List Expr} {kk : Nat} {tpos : Pos} (hm : X.mg "zip" = none) (ha : SA X ca G W [a, b] as') (hg : Gl X "zip" := by rfl) (hs : starEach [a, b] X.env = (false, eval a X.env) :: starEach [b] X.env := by rfl) (hpl : (backTo pos (starEach [b] X.env)).any (·.1) = false := by rfl) :
    SI X ca G W (.Tuple elts kk tpos) (.Call (.Name "zip" p) [a, b] [] pos) .zip as' := by
  refine PI.imp (pi_zip hg hm ha hs hpl) fun σ H R h => t_it h fun ds xs vs H1 P F e r q => ?_
  simp only [itemsF] at e
  unfold zipF at e
  split at e
  · cases e
    obtain ⟨v, u, F1, F2, rfl, _, r1, r2⟩ := reps2 r
    obtain ⟨a1, ws, F', rfl, h1, q1⟩ := rep_lst r1
    obtain ⟨a2, us, F'', rfl, h2, q2⟩ := rep_lst r2
    exact ⟨_, _, _, _, rfl, .inl (.inl h1), .inl (.inl h2), q _ _ _ (isw_zip h1 h2 q1.length q2.length)⟩
  · cases e
theorem si_enum {as' : E} {elts : List Expr} {kk : Nat} {tpos : Pos} (hm : X.mg "enumerate" = none) (ha : SA X ca G W [a] as') (hg : Gl X "enumerate" := by rfl) (hs : starEach [a] X.env = [(false, eval a X.env)] := by rfl) :
    SI X ca G W (.Tuple elts kk tpos) (.Call (.Name "enumerate" p) [a] [] pos) .enum as' := by
  refine PI.imp (pi_enum hg hm ha hs) fun σ H R h => t_it h fun ds xs vs H1 P F e r q => ?_
  simp only [itemsF] at e
  unfold enumF at e
  split at e
  · cases e
    obtain ⟨v, rfl, r1⟩ := reps1 r
    obtain ⟨a1, ws, F', rfl, h1, q1⟩ := rep_lst r1
    exact ⟨_, _, rfl, .inl (.inl h1), q _ _ _ (isw_enum h1 q1.length)⟩
  · cases e
theorem si_rev {as' : E} (hm : X.mg "reversed" = none) (ha : SA X ca G W [a] as') (hg : Gl X "reversed" := by rfl) (hs : starEach [a] X.env = [(false, eval a X.env)] := by rfl) : SI X ca G W tg (.Call (.Name "reversed" p) [a] [] pos) .rev as' := by
  refine PI.imp (pi_reversed hg hm ha hs) fun σ H R h => t_it h fun ds xs vs H1 P F e r q => ?_
  simp only [itemsF] at e
  unfold revF at e
  split at e
  · cases e
    obtain ⟨v, rfl, r1⟩ := reps1 r
    obtain ⟨a1, ws, F', rfl, h1, q1⟩ := rep_lst r1
    exact ⟨_, _, rfl, .inl (.inl h1), q _ _ _ (isw_rev h1 q1.length)⟩
  · cases e
end
end Ev
namespace Ev
open PySem L2

/-! ## Targets -/
def gTs : List Nat → TGs
  | [] => gNil
  | i :: r => gCons (gName i) (gTs r)
def gT (K : PySem.W.Frag) : Tg → TG
  | .nm i => gName i
  | .tp is => fun v σ H Q => gTup K is.length (gTs is) v σ H Q ∨ gLst K is.length (gTs is) v σ H Q
def Tg.slots : Tg → List Nat
  | .nm i => [i]
  | .tp is => is
theorem PG.or {X : Cx} {e : Expr} {t t' : TG} (h : PG X e t) (h' : PG X e t') : PG X e (fun v σ H Q => t v σ H Q ∨ t' v σ H Q) :=
  ⟨fun pins s σ H v u Q I r q => q.elim (h.run pins s σ H v u Q I r) (h'.run pins s σ H v u Q I r)⟩
section
variable {X : Cx} {pos : Pos}
theorem sg_nm (i : Nat) {x : Str} (hN : X.N.Nodup) (hi : X.N[i]? = some x := by rfl) (hx : Loc X.env.scope x := by first | exact Or.inl rfl | exact Or.inr rfl) (hf : X.fn x = true ∨ X.env.scope.names.lookup x = some .local := by first | exact .inl rfl | exact .inr rfl) : PG X (.Name x pos) (gT X.K (.nm i)) := pg_name hN hi hx hf
theorem sgs_nil : PGs X [] (gTs []) := pgs_nil
theorem sgs_cons {e : Expr} {es : List Expr} (i : Nat) {is : List Nat} (h1 : PG X e (gT X.K (.nm i))) (h2 : PGs X es (gTs is))
    (hs : (assignEach (e :: es) X.env).map (·.2) = assign e X.env :: (assignEach es X.env).map (·.2) := by rfl) : PGs X (e :: es) (gTs (i :: is)) := pgs_cons h1 h2 hs
theorem sg_tp {es : List Expr} {k : Nat} {is : List Nat} (hc : X.calm = true) (h : PGs X es (gTs is)) (hn : (assignEach es X.env).length = is.length := by rfl) (hst : (assignEach es X.env).findIdx? (·.1) = none := by rfl) : PG X (.Tuple es k pos) (gT X.K (.tp is)) :=
  PG.or (pg_tup hc h hn hst) (pg_lst hc h hn hst)
end

/-- all slots but those at vs -/
structure BEx (K : PySem.W.Frag) (ca : String → Option Addr) (vs : List Nat) (ρ : Env) (σ : L2.St) (H : Hp) (P : Addr → Prop) : Prop where
  len : ρ.length = σ.length
  at_ : ∀ (i : Nat) (d : D), i ∉ vs → ρ[i]? = some (some d) → ∃ v, σ[i]? = some (some v) ∧ Rep K ca H P d v []
section
variable {K : PySem.W.Frag} {ca : String → Option Addr} {ρ : Env} {σ : L2.St} {H H' : Hp} {P P' : Addr → Prop} {vs ws : List Nat}
theorem BEx.set {i : Nat} {d : D} {v : V} (b : BEx K ca (i :: vs) ρ σ H P) (r : Rep K ca H P d v []) : BEx K ca vs (ρ.set i (some d)) (σ.set i (some v)) H P := by
  refine ⟨by simp [b.len], fun j e hj h => ?_⟩
  by_cases q : j = i
  · subst q
    have hl : j < ρ.length := by simpa using (List.getElem?_eq_some_iff.mp h).1
    rw [List.getElem?_set_self hl] at h
    cases h
    exact ⟨v, List.getElem?_set_self (by rw [← b.len]; exact hl), r⟩
  · rw [List.getElem?_set_ne (Ne.symm q)] at h
    obtain ⟨u, h1, h2⟩ := b.at_ j e (by simp [q, hj]) h
    exact ⟨u, by rw [List.getElem?_set_ne (Ne.symm q)]; exact h1, h2⟩
theorem BEx.env (b : BEx K ca [] ρ σ H P) : BEnv K ca ρ σ H P := ⟨b.len, fun i d h => b.at_ i d (by simp) h⟩
theorem BEnv.bex (b : BEnv K ca ρ σ H P) (vs : List Nat) : BEx K ca vs ρ σ H P := ⟨b.len, fun i d _ h => b.at_ i d h⟩
theorem BEx.weak (b : BEx K ca vs ρ σ H P) (h : ∀ i ∈ vs, i ∈ ws) : BEx K ca ws ρ σ H P := ⟨b.len, fun i d n q => b.at_ i d (fun m => n (h i m)) q⟩
theorem wipe_out' {σ : L2.St} {i : Nat} : ∀ {vs : List Nat}, i ∉ vs → (wipe σ vs)[i]? = σ[i]?
  | [], _ => rfl
  | v :: vs, h => by
    have h1 : i ≠ v := fun e => h (e ▸ List.mem_cons_self ..)
    show ((wipe σ vs).set v none)[i]? = σ[i]?
    rw [List.getElem?_set_ne (Ne.symm h1)]
    exact wipe_out' fun m => h (List.mem_cons_of_mem _ m)
theorem BEnv.wipe (b : BEnv K ca ρ σ H P) (vs : List Nat) : BEx K ca vs ρ (wipe σ vs) H P :=
  ⟨by rw [wipe_length]; exact b.len, fun i d n h => let ⟨v, h1, h2⟩ := b.at_ i d h; ⟨v, by rw [wipe_out' n]; exact h1, h2⟩⟩
theorem gTs_ok {Q : L2.St → Hp → Prop} : ∀ {is : List Nat} {ds : List D} {xs : List V} {ρ : Env} {σ : L2.St}, is.length = ds.length → Reps K ca H P ds xs [] → BEx K ca is ρ σ H P →
    (∀ σ2, BEnv K ca (setAll (is.zip ds) ρ) σ2 H P → (∀ j, j ∉ is → σ2[j]? = σ[j]?) → Q σ2 H) → gTs is xs σ H Q
  | [], [], xs, ρ, σ, _, r, b, q => by cases r; exact ⟨rfl, q σ b.env fun _ _ => rfl⟩
  | [], _ :: _, _, _, _, l, _, _, _ => by simp at l
  | _ :: _, [], _, _, _, l, _, _, _ => by simp at l
  | i :: is, d :: ds, xs, ρ, σ, l, r, b, q => by
    cases xs with
    | nil => have := r.length; simp at this
    | cons x xs =>
      obtain ⟨rl, rq⟩ := Reps.nil_iff.mp r
      have rt : Reps K ca H P ds xs [] := Reps.nil_iff.mpr ⟨by simpa using rl, fun i d v a b => rq (i + 1) d v (by simpa using a) (by simpa using b)⟩
      refine ⟨x, xs, rfl, ?_⟩
      show gTs is xs (σ.set i (some x)) H Q
      refine gTs_ok (by simpa using l) rt (b.set (rq 0 d x rfl rfl)) fun σ2 b2 k => q σ2 b2 fun j hj => ?_
      rw [k j fun m => hj (List.mem_cons_of_mem _ m), List.getElem?_set_ne (fun e : i = j => hj (by rw [e]; exact List.mem_cons_self ..))]
/-- a target takes a value -/
theorem gT_ok {t : Tg} {d : D} {x : V} {ρ ρ' : Env} {σ : L2.St} {Q : L2.St → Hp → Prop} (e : bindT t d ρ = some ρ') (r : Rep K ca H P d x []) (b : BEx K ca t.slots ρ σ H P) (q : ∀ σ2, BEnv K ca ρ' σ2 H P → (∀ j, j ∉ t.slots → σ2[j]? = σ[j]?) → Q σ2 H) : gT K t x σ H Q := by
  cases t with
  | nm i =>
    cases e
    exact q _ (b.set r).env fun j hj => List.getElem?_set_ne (fun e : i = j => hj (by rw [e]; exact List.mem_cons_self ..))
  | tp is =>
    cases d with
    | tup ds =>
      simp only [bindT, bindS] at e
      split at e
      · rename_i hl
        cases e
        cases r with
        | tup h rr => exact .inl ⟨_, _, rfl, h, by rw [← rr.length, hl], gTs_ok hl rr b q⟩
      · cases e
    | lst o ds =>
      simp only [bindT, bindS] at e
      split at e
      · rename_i hl
        cases e
        generalize eF : ([] : List Addr) = F at r
        cases r with
        | own h rr => cases eF
        | frz h p rr => exact .inr ⟨_, _, rfl, .inl (.inl h), by rw [← rr.length, hl], gTs_ok hl rr b q⟩
      · cases e
    | _ => cases e
/-- a target does not change how many slots there are -/
theorem setAll_len : ∀ (l : List (Nat × D)) (ρ : Env), (setAll l ρ).length = ρ.length
  | [], _ => rfl
  | (i, d) :: r, ρ => by rw [setAll, setAll_len r, List.length_set]
theorem bindT_len {t : Tg} {d : D} {ρ ρ' : Env} (e : bindT t d ρ = some ρ') : ρ'.length = ρ.length := by
  cases t with
  | nm i => cases e; simp
  | tp is =>
    cases d <;> simp only [bindT, bindS] at e <;> try (cases e; done)
    all_goals
      split at e
      · cases e; exact setAll_len _ _
      · cases e
end

/-! ## Comprehensions -/
theorem mapF_at {f : D → Res (Option D)} : ∀ {xs : List D} {out : List D} {i : Nat}, mapF f xs = .ok out → i < xs.length → ∃ d o ys zs, xs[i]? = some d ∧ f d = .ok o ∧ mapF f (xs.take i) = .ok ys ∧ mapF f (xs.take (i + 1)) = .ok (ys ++ o.toList) ∧ out = ys ++ o.toList ++ zs
  | [], _, _, _, h => by simp at h
  | x :: xs, out, i, h, hi => by
    rw [mapF] at h
    cases e : f x with
    | st => rw [e] at h; cases h
    | er c => rw [e] at h; cases h
    | ok o =>
      rw [e] at h
      have tail : ∃ t, mapF f xs = .ok t ∧ out = o.toList ++ t := by
        cases o with
        | none => exact ⟨out, h, rfl⟩
        | some y =>
          cases e2 : mapF f xs with
          | st => simp only [e2] at h; cases h
          | er c => simp only [e2] at h; cases h
          | ok t => simp only [e2] at h; cases h; exact ⟨t, rfl, rfl⟩
      obtain ⟨t, e2, e3⟩ := tail
      subst e3
      have step : ∀ {l ys}, mapF f l = .ok ys → mapF f (x :: l) = .ok (o.toList ++ ys) := by
        intro l ys hl
        rw [mapF, e]
        cases o with
        | none => exact hl
        | some y => simp only [hl]; rfl
      cases i with
      | zero => exact ⟨x, o, [], t, rfl, e, rfl, by rw [List.take_succ_cons, List.take_zero, step (ys := []) rfl]; simp, by simp⟩
      | succ i =>
        obtain ⟨d, o', ys, zs, h1, h2, h3, h4, h5⟩ := mapF_at e2 (i := i) (by simpa using hi)
        exact ⟨d, o', o.toList ++ ys, zs, by simpa using h1, h2, by rw [List.take_succ_cons, step h3], by rw [List.take_succ_cons, step h4, List.append_assoc], by rw [h5]; simp⟩
abbrev WF : WE := fun _ _ _ => False
theorem takesF {X : Cx} {ca : String → Option Addr} : Takes X (wx ca WF) := takes0.imp fun _ _ _ _ ⟨_, _, _, _, _, h⟩ => h
def compF (G : Gam) (ρ : Env) (t : Tg) (c e : E) : D → Res (Option D) := fun x => match bindT t x ρ with
  | none => .st
  | some ρ' => (ev G ρ' c).bind fun b => match b with
    | .bl true => (ev G ρ' e).bind fun y => .ok (some y)
    | .bl false => .ok none
    | _ => .st
section
variable {ca : String → Option Addr} {G : Gam} {W : WE} {K : PySem.W.Frag}
theorem comp_core {σ : L2.St} {H : Hp} {Q : VK} {t : Tg} {k : ItK} {as' c e : E} {vs : List Nat} (hv : ∀ i ∈ vs, i ∈ t.slots) (hw : ∀ i ∈ t.slots, i ∈ vs) (h : tE K ca G W (.comp t k as' c e) σ H Q) :
    tLc (tI K ca G W k as') (gT K t) (tT K ca G WF c) (tE K ca G WF e) vs σ H Q := by
  obtain ⟨ρ, P, hB, hP, h⟩ := h
  rw [ev] at h
  show tI K ca G W k as' σ H _
  refine ⟨ρ, P, hB, hP, ?_⟩
  cases e1 : evs G ρ as' with
  | st => rw [e1] at h; exact h
  | er c => rw [e1] at h; exact h
  | ok ds =>
    rw [e1] at h
    cases e2 : itemsF k ds with
    | st => simp only [Res.bind, e2] at h; exact h.elim
    | er c' =>
      exfalso
      revert e2
      cases k <;> simp only [itemsF] <;> (try unfold seqF) <;> (try unfold chrF) <;> (try unfold rng1F) <;> (try unfold rng2F) <;> (try unfold rng3F) <;> (try unfold zipF) <;> (try unfold enumF) <;> (try unfold revF) <;> intro e2 <;> (try split at e2) <;> (try split at e2) <;> cases e2
    | ok xs =>
      have h' : Post K ca W σ H P ((chkLen (mapF (compF G ρ t c e) xs)).bind fun ys => .ok (.lst true ys)) Q := by
        simp only [Res.bind, e2] at h; exact h
      refine ⟨xs, e2, fun vs1 H1 F x n f r J Gd Y w => ?_⟩
      -- the whole answer
      cases e3 : mapF (compF G ρ t c e) xs with
      | st => rw [e3] at h'; exact h'.elim
      | er c' => 
        exfalso
        have : ∀ l : List D, mapF (compF G ρ t c e) l ≠ .er c' := by
          intro l
          induction l with
          | nil => intro z; cases z
          | cons y l ih =>
            intro z
            rw [mapF] at z
            split at z
            · cases e4 : mapF (compF G ρ t c e) l with
              | st => rw [e4] at z; cases z
              | er c2 => rw [e4] at z; cases z; exact ih e4
              | ok q => rw [e4] at z; cases z
            · exact ih z
            · cases z
        exact this xs e3
      | ok out =>
        rw [e3] at h'
        by_cases hl : out.length ≤ lineN
        · have h2 : Post K ca W σ H P (.ok (.lst true out)) Q := by
            simp only [chkLen, Res.bind, if_pos hl] at h'; exact h'
          intro Dd hD
          have rs0 := r.shr (P' := P) (fun a z => .inl z) (off_of hP f)
          refine lc_it w.walk (fun i Hh => Ex H1 Hh ∧ ∃ ys ws Fy, mapF (compF G ρ t c e) (xs.take i) = .ok ys ∧ Hh Dd = some (.lst ws) ∧ Reps K ca Hh (fun a => P a ∨ a ∈ Fy ∨ a = Dd) ys ws Fy ∧ Fy.Nodup ∧ (∀ a ∈ Fy, H1 a = none) ∧ Dd ∉ Fy)
            ⟨Ex.new hD, [], [], [], by rw [List.take_zero]; rfl, upd_same, .nil, List.nodup_nil, by simp, by simp⟩ (fun i Hh hi ⟨xe, _⟩ => w.keep P rs0 Hh xe.exo) (fun i xv Hh Hh' hi ⟨xe, ys, ws, Fy, m1, hd, ry, ny, fy, dn⟩ y => ?_) (fun Hh ⟨xe, ys, ws, Fy, m1, hd, ry, ny, fy, dn⟩ => ?_)
          · obtain ⟨x2, d, hd2, rd⟩ := w.item P rs0 i Hh xv Hh' hi xe.exo y
            obtain ⟨d', o, ys', zs, g1, g2, g3, g4, g5⟩ := mapF_at e3 hi
            rw [hd2] at g1; cases g1
            rw [m1] at g3; cases g3
            unfold compF at g2
            cases e4 : bindT t d ρ with
            | none => rw [e4] at g2; cases g2
            | some ρ' =>
              rw [e4] at g2
              dsimp only at g2
              let P3 : Addr → Prop := fun a => P a ∨ a ∈ Fy ∨ a = Dd
              have p3 : ∀ a, P3 a → P a ∨ H1 a = none := fun a z => z.imp id fun z => z.elim (fy a) fun z => by rw [z]; exact hD
              have hb : BEnv K ca ρ σ Hh' P3 := ((hB.forb (P' := P3) fun a z => (p3 a z).imp id x.back).ext ((x.trans xe).trans x2))
              have t3 : Trk P3 Hh' := fun a z nn => by
                rcases z with z | z | z
                · exact (hP.ext ((x.trans xe).trans x2)) a z nn
                · obtain ⟨q, qe, _⟩ := ry.tracked a z
                  rw [x2 _ _ qe] at nn; cases nn
                · rw [z, x2 _ _ hd] at nn; cases nn
              refine gT_ok e4 (rd P3 p3) ((hb.wipe vs).weak hv) fun σ2 b2 k2 => ⟨?_, ?_⟩
              · -- the slots of the block's own names
                have wl : ∀ (us : List Nat) (τ υ : L2.St), τ.length = υ.length → (∀ j, j ∉ us → τ[j]? = υ[j]?) → wipe τ us = wipe υ us := by
                  intro us τ υ hl hj
                  apply List.ext_getElem?
                  intro j
                  by_cases hm : j ∈ us
                  · by_cases hlt : j < τ.length
                    · have q : ∀ (τ : L2.St), j < τ.length → (wipe τ us)[j]? = some none := by
                        intro τ hlt
                        cases z : (wipe τ us)[j]? with
                        | none => rw [List.getElem?_eq_none_iff, wipe_length] at z; omega
                        | some o =>
                          cases o with
                          | none => rfl
                          | some v => exact absurd hm (wipe_some z).2
                      rw [q τ hlt, q υ (by omega)]
                    · rw [List.getElem?_eq_none (by rw [wipe_length]; omega), List.getElem?_eq_none (by rw [wipe_length]; omega)]
                  · rw [wipe_out' hm, wipe_out' hm]; exact hj j hm
                refine wl vs σ2 σ ?_ fun j hj => ?_
                · rw [← b2.len, ← hb.len]
                  exact bindT_len e4
                · rw [k2 j fun m => hj (hw j m), wipe_out' hj]
              · show tT K ca G WF c σ2 Hh' _
                refine ⟨ρ', P3, b2, t3, ?_⟩
                cases e5 : ev G ρ' c with
                | st => rw [e5] at g2; cases g2
                | er c' => rw [e5] at g2; cases g2
                | ok bb =>
                  rw [e5] at g2
                  cases bb with
                  | bl b =>
                    intro H3 x3
                    cases b with
                    | false =>
                      rw [if_neg Bool.false_ne_true]
                      have eo : o = none := by cases g2; rfl
                      subst eo
                      refine ⟨(xe.trans x2).trans x3, ys, ws, Fy, by rw [g4]; simp, x3 _ _ (x2 _ _ hd), (ry.ext (x2.trans x3)), ny, fy, dn⟩
                    | true =>
                      rw [if_pos rfl]
                      have g2' : ((ev G ρ' e).bind fun y => Res.ok (some y)) = .ok o := g2
                      refine ⟨ρ', P3, b2.ext x3, t3.ext x3, ?_⟩
                      cases e6 : ev G ρ' e with
                      | st => rw [e6] at g2'; cases g2'
                      | er c' => rw [e6] at g2'; cases g2'
                      | ok yd =>
                        rw [e6] at g2'
                        have eo : o = some yd := by cases g2'; rfl
                        subst eo
                        intro yv H4 F4 x4 n4 f4 r4
                        have hd4 : H4 Dd = some (.lst ws) := x4 _ _ (x3 _ _ (x2 _ _ hd))
                        have lw := ry.length
                        refine ⟨ws, hd4, ?_, ?_, ys ++ [yd], ws ++ [yv], Fy ++ F4, by rw [g4]; simp, upd_same, ?_, ?_, ?_, ?_⟩
                        · have : (ys ++ [yd] ++ zs).length ≤ lineN := by rw [g5] at hl; simpa using hl
                          rw [show lineN = 16777216 from rfl] at this
                          rw [sizeLine_eq, ← lw]
                          simp only [List.length_append, List.length_cons, List.length_nil] at this
                          omega
                        · have e9 : Ex H1 H4 := ((xe.trans x2).trans x3).trans x4
                          exact fun a o ha => by rw [upd_ne (ne_of_none ha hD)]; exact e9 a o ha
                        · have dn4 : Dd ∉ F4 := fun m => by have := f4 Dd m; rw [x3 _ _ (x2 _ _ hd)] at this; cases this
                          let PN : Addr → Prop := fun a => P a ∨ a ∈ Fy ++ F4 ∨ a = Dd
                          have r1 : Reps K ca H4 PN ys ws Fy := ((ry.ext (x2.trans x3)).forb (P' := PN) fun a z => by
                            rcases z with z | z | z
                            · exact .inl (.inl z)
                            · exact (List.mem_append.mp z).elim (fun m => .inl (.inr (.inl m))) fun m => .inr (f4 a m)
                            · exact .inl (.inr (.inr z))).ext x4
                          have r2 : Rep K ca H4 PN yd yv F4 := r4.forb fun a z => by
                            rcases z with z | z | z
                            · exact .inl (.inl (.inl z))
                            · exact (List.mem_append.mp z).elim (fun m => .inl (.inl (.inr (.inl m)))) fun m => .inl (.inr m)
                            · exact .inl (.inl (.inr (.inr z)))
                          have r3 : Reps K ca H4 PN [yd] [yv] F4 := by
                            have := Reps.cons r2 .nil
                            rwa [List.append_nil] at this
                          exact (r1.append r3).upd hd4 (.inr (.inr rfl)) fun m => (List.mem_append.mp m).elim dn dn4
                        · exact nodup_app ny n4 fun a m m' => by
                            obtain ⟨q, qe, _⟩ := ry.tracked a m
                            have := f4 a m'
                            rw [x3 _ _ (x2 _ _ qe)] at this; cases this
                        · intro a m
                          exact (List.mem_append.mp m).elim (fy a) fun m => ((xe.trans x2).trans x3).back (f4 a m)
                        · intro m
                          rcases List.mem_append.mp m with m | m
                          · exact dn m
                          · have := f4 Dd m; rw [x3 _ _ (x2 _ _ hd)] at this; cases this
                  | _ => cases g2
          · rw [List.take_length] at m1
            rw [m1] at e3
            have eo : ys = out := by cases e3; rfl
            subst eo
            refine h2 (.ref Dd) Hh (Dd :: Fy) (x.trans xe) (List.nodup_cons.mpr ⟨dn, ny⟩) (fun a m => ?_) (.own hd (ry.forb fun a z => ?_))
            · rcases List.mem_cons.mp m with q | m
              · rw [q]; exact x.back hD
              · exact x.back (fy a m)
            · rcases z with z | z
              · exact .inl (.inl z)
              · rcases List.mem_cons.mp z with q | m
                · exact .inl (.inr (.inr q))
                · exact .inl (.inr (.inl m))
        · simp only [chkLen, Res.bind, if_neg hl] at h'; exact h'.elim
end
section
variable {X : Cx} {ca : String → Option Addr} {G : Gam} {W : WE}
theorem pts_nil' {X : Cx} : PTs X [] (tT X.K ca G WF (.bl true)) := ⟨fun pins s σ H Q I ⟨ρ, P, hB, hP, h⟩ => pts_nil.run pins s σ H Q I (h H (Ex.refl H))⟩
theorem se_comp {elt tg iter : Expr} {ifs : List Expr} {scope : Scope} {own : List (Str × Nat)} {pos : Pos} {t : Tg} {k : ItK} {as' c e : E} (hc : X.calm = true) (hN : X.N.Nodup) (hi : SI X ca G W tg iter k as') (ok : blkC X.N X.env.scope scope own = true)
    (hg : ∀ (s : Shared) (H : Hp) (C : Addr) (cl : List (Str × Addr)) (fp : List Addr), PG (X.blk s H scope (compEnvC scope cl C X.env) fp) tg (gT X.K t)) (ht : ∀ (s : Shared) (H : Hp) (C : Addr) (cl : List (Str × Addr)) (fp : List Addr), PTs (X.blk s H scope (compEnvC scope cl C X.env) fp) ifs (tT X.K ca G WF c))
    (he : ∀ (s : Shared) (H : Hp) (C : Addr) (cl : List (Str × Addr)) (fp : List Addr), PE (X.blk s H scope (compEnvC scope cl C X.env) fp) elt (tE X.K ca G WF e)) (hv : (own.map (·.2)).all (t.slots.contains ·) = true := by rfl) (hw : t.slots.all ((own.map (·.2)).contains ·) = true := by rfl) (hs : ∀ x, foldedSetIterable iter X.env x = pure x := by intro _; rfl) :
    SE X ca G W (.ListComp elt [⟨tg, iter, ifs, 0⟩] scope pos) (.comp t k as' c e) :=
  PE.imp (pe_lc hc hN hi (blkOk_by ok) hg ht he hs) fun σ H Q h => comp_core (fun i m => by simpa using List.all_eq_true.mp hv i m) (fun i m => by simpa using List.all_eq_true.mp hw i m) h
end
end Ev
namespace Ev
open PySem L2

/-! ## Statements -/
/-- how a value is taken: anew (no shared list within), of some names that are shared from then on, or away from a name -/
inductive M where
  | ex (e : E) | exf (vs : List Nat) (e : E) | mv (i : Nat) | tp (as : M) | ls (as : M) | nil | cons (a as : M)
inductive S where
  | skip | seq (a b : S)
  | asg (t : Tg) (m : M)
  | pop (t : Tg) (x : Nat) | drp (x : Nat)
  | app (x : Nat) (m : M)
  | ext (x : Nat) (m : M)
  | clr (x : Nat) | rvs (x : Nat)
  | clrT (x j : Nat)
  | setd (x : Nat) (k v : E)
  | rem (x : Nat) (e : E)
  | ins (x : Nat) (i : E) (m : M)
  | seti (x : Nat) (i : E) (m : M)
  | stL (x j : Nat) (e : E)
  | apAll (x r j : Nat) (c : Int)
  | aug (i : Nat) (op : Bop) (e : E)
  | exp (e : E)
  | ife (c : E) (a b : S)
  | whl (c : E) (b : S)
  | for_ (t : Tg) (k : ItK) (z : Option (List Nat)) (as : E) (b : S)
  | forK (i : Nat) (t : Tg) (k : ItK) (as : E) (b : S)
  | ret (m : M) | retN
  | rse (c : String)
  | tri (b h : S)
  | hnd (cs : List String) (i : Option Nat) (b rest : S)
  | tag (i : Nat) (b : S) | untg (i : Nat)
  | brk | cnt
inductive Out where
  | nx (δ : Env) | rt (d : D) | bk (δ : Env) | ct (δ : Env) | er (c : String) (δ : Env) | st

/-- shared by all: names at vs no longer own what they hold -/
def shareO : Option D → Option D
  | some d => some (share d)
  | none => none
def shareE (δ : Env) : Env := δ.map shareO
def frzAt : List Nat → Env → Env
  | [], δ => δ
  | i :: r, δ => frzAt r (δ.set i (shareO (δ[i]?.getD none)))
/-- only the names at vs are seen -/
def maskE (vs : List Nat) (δ : Env) : Env := δ.zipIdx.map fun p => if vs.contains p.2 then p.1 else none
mutual
def evM (G : Gam) (δ : Env) : M → Res (D × Env)
  | .ex e => (ev G (shareE δ) e).bind fun d => if noFrz d then .ok (d, δ) else .st
  | .exf vs e => (ev G (maskE vs (frzAt vs δ)) e).bind fun d => .ok (d, frzAt vs δ)
  | .mv i => match δ[i]? with | some (some d) => .ok (d, δ.set i none) | _ => .st
  | .tp as => (evMs G δ as).bind fun p => if p.1.length ≤ lineN then .ok (.tup p.1, p.2) else .st
  | .ls as => (evMs G δ as).bind fun p => if p.1.length ≤ lineN then .ok (.lst true p.1, p.2) else .st
  | _ => .st
def evMs (G : Gam) (δ : Env) : M → Res (List D × Env)
  | .nil => .ok ([], δ)
  | .cons a as => (evM G δ a).bind fun p => (evMs G p.2 as).bind fun q => .ok (p.1 :: q.1, q.2)
  | _ => .st
end
/-- over the items in turn -/
def forL (b : Env → Out) (t : Tg) : List D → Env → Out
  | [], δ => .nx δ
  | x :: r, δ => match bindT t x δ with
    | none => .st
    | some δ1 => match b δ1 with
      | .nx δ2 => forL b t r δ2
      | .ct δ2 => forL b t r δ2
      | .bk δ2 => .nx δ2
      | o => o
/-- a while, of at most n turns -/
def whN (c : Env → Res D) (b : Env → Out) : Nat → Env → Out
  | 0, _ => .st
  | n + 1, δ => match c δ with
    | .ok (.bl true) => (match b δ with
      | .nx δ2 => whN c b n δ2
      | .ct δ2 => whN c b n δ2
      | .bk δ2 => .nx δ2
      | o => o)
    | .ok (.bl false) => .nx δ
    | .er e => .er e δ
    | _ => .st
open Classical in
noncomputable def whC (c : Env → Res D) (b : Env → Out) (δ : Env) : Out := if h : ∃ n, whN c b n δ ≠ .st then whN c b h.choose δ else .st
/-- from a value on: where it fails, the names are as they were -/
def Res.go {α : Type} (r : Res α) (δ : Env) (k : α → Out) : Out := match r with | .ok a => k a | .er c => .er c δ | .st => .st
def ownAt (δ : Env) (x : Nat) (k : List D → Out) : Out := match δ[x]? with | some (some (.lst true ds)) => k ds | _ => .st
/-- a tuple whose j-th thing is a list of its own -/
def ownT (δ : Env) (x j : Nat) : Bool := match δ[x]? with
  | some (some (.tup ds)) => (match ds[j]? with | some (.lst true _) => true | _ => false)
  | _ => false
def bindG (t : Tg) (d : D) (δ : Env) : Out := match bindT t d δ with | some δ' => .nx δ' | none => .st
/-- no exception leaves a suite -/
def noEr : Out → Out
  | .er _ _ => .st
  | o => o
def catchB (G : Gam) (cs : List String) (c : String) : Option Bool := cs.foldr (fun n r => match G.isT c n, r with | some b, some r => some (b || r) | _, _ => none) (some false)
/-- the slot i is not named -/
def E.noV (i : Nat) : E → Bool
  | .var j => j != i
  | .unt j => j != i
  | .bin _ a b => a.noV i && b.noV i
  | .neg a => a.noV i
  | .cmp _ a b => a.noV i && b.noV i
  | .chain _ _ a b c => a.noV i && (b.noV i && c.noV i)
  | .and a b => a.noV i && b.noV i
  | .or a b => a.noV i && b.noV i
  | .not a => a.noV i
  | .tup a => a.noV i
  | .lst a => a.noV i
  | .idx a b => a.noV i && b.noV i
  | .slc a b c => a.noV i && (b.noV i && c.noV i)
  | .fld a _ => a.noV i
  | .call _ a => a.noV i
  | .meth o _ a => o.noV i && a.noV i
  | .new _ a => a.noV i
  | .blt _ a => a.noV i
  | .comp t _ a c e => (match t with | .nm j => j != i | .tp is => !is.contains i) && (a.noV i && (c.noV i && e.noV i))
  | .cons a b => a.noV i && b.noV i
  | _ => true
def Tg.noV (i : Nat) : Tg → Bool
  | .nm j => j != i
  | .tp is => !is.contains i
def M.noV (i : Nat) : M → Bool
  | .ex e => e.noV i
  | .exf vs _ => !vs.contains i
  | .mv j => j != i
  | .tp as => as.noV i
  | .ls as => as.noV i
  | .nil => true
  | .cons a as => a.noV i && as.noV i
def S.noV (i : Nat) : S → Bool
  | .skip => true
  | .seq a b => a.noV i && b.noV i
  | .asg t m => t.noV i && m.noV i
  | .app x m => x != i && m.noV i
  | .aug j _ e => j != i && e.noV i
  | .exp e => e.noV i
  | .ife c a b => c.noV i && (a.noV i && b.noV i)
  | .for_ t _ none as b => t.noV i && (as.noV i && b.noV i)
  | .for_ t _ (some vs) _ b => t.noV i && (!vs.contains i && b.noV i)
  | .ret m => m.noV i
  | .retN => true
  | .rse _ => true
  | .brk => true
  | .cnt => true
  | _ => false
def refD : D → Bool
  | .lst _ _ => true
  | .tup _ => true
  | _ => false
/-- behind a walk: the slot i holds d again -/
def keepO (i : Nat) (d : D) : Out → Out
  | .nx δ => if i < δ.length then .nx (δ.set i (some d)) else .st
  | .er c δ => if i < δ.length then .er c (δ.set i (some d)) else .st
  | .rt d => .rt d
  | _ => .st
/-- a tuple whose j-th thing is a list of its own -/
def isApT (j : Nat) : D → Bool
  | .tup es => (match es[j]? with | some (.lst true ys) => decide (ys.length < lineN) | _ => false)
  | _ => false
/-- the number c is put to that list's end -/
def apT (j : Nat) (c : Int) : D → D
  | .tup es => (match es[j]? with | some (.lst true ys) => .tup (es.set j (.lst true (ys ++ [.int c]))) | _ => .tup es)
  | d => d
def refT : D → Bool
  | .tup _ => true | .lst _ _ => true | .obj _ _ _ => true | .at _ _ => true
  | _ => false
def tagL : List Addr → List D → List D := List.zipWith D.at
open Classical in
/-- what comes of it wherever the things stand -/
noncomputable def uni (n : Nat) (f : List Addr → Out) : Out := if h : ∃ o, ∀ as, as.length = n → f as = o then h.choose else .st
mutual
noncomputable def exec (G : Gam) : S → Env → Out
  | .skip, δ => .nx δ
  | .seq a b, δ => match exec G a δ with | .nx δ' => exec G b δ' | o => o
  | .asg t m, δ => (evM G δ m).go δ fun p => bindG t p.1 p.2
  | .pop t x, δ => ownAt δ x fun ds => match ds.getLast? with
    | some d => bindG t d (δ.set x (some (.lst true ds.dropLast)))
    | none => .st
  | .drp x, δ => ownAt δ x fun ds => if ds.length = 0 then .st else .nx (δ.set x (some (.lst true ds.dropLast)))
  | .app x m, δ => ownAt δ x fun _ => (evM G δ m).go δ fun p => ownAt p.2 x fun ds => if ds.length < lineN then .nx (p.2.set x (some (.lst true (ds ++ [p.1])))) else .st
  | .ext x m, δ => ownAt δ x fun _ => (evM G δ m).go δ fun p => ownAt p.2 x fun ds => match p.1 with
    | .lst true es => if ds.length + es.length ≤ lineN then .nx (p.2.set x (some (.lst true (ds ++ es)))) else .st
    | _ => .st
  | .clr x, δ => ownAt δ x fun _ => .nx (δ.set x (some (.lst true [])))
  | .rvs x, δ => ownAt δ x fun ds => .nx (δ.set x (some (.lst true ds.reverse)))
  | .setd x k v, δ => match δ[x]? with
    | some (some (.dct true kvs)) => (ev G (shareE δ) v).go δ fun dv => (ev G (shareE δ) k).go δ fun dk => match dv, dk with
      | .int n, .int m => if kvs.length < lineN then .nx (δ.set x (some (.dct true (putD kvs m n)))) else .st
      | _, _ => .st
    | _ => .st
  | .clrT x j, δ => match ownT δ x j with | true => .nx (δ.set x none) | false => .st
  | .rem x e, δ => ownAt δ x fun ds => (ev G (shareE δ) e).go δ fun d => match d with
    | .int k => (match intsOf ds with
      | some ns => (match ns.findIdx? (· == k) with
        | some j => .nx (δ.set x (some (.lst true ((ns.eraseIdx j).map .int))))
        | none => .st)
      | none => .st)
    | _ => .st
  | .seti x i m, δ => (evM G δ m).go δ fun p => ownAt p.2 x fun ds => (ev G (shareE p.2) i).go p.2 fun j => match j with
    | .int j => (match ixN ds.length j with
      | some k => .nx (p.2.set x (some (.lst true (ds.set k p.1))))
      | none => .st)
    | _ => .st
  | .stL x j e, δ => match δ[x]? with
    | some (some (.lst true ds)) => (ev G (shareE δ) e).go δ fun d => match d with
      | .int c => (match ds.getLast? with
        | some (.lst true es) => (match es[j]? with
          | some (.int _) => .nx (δ.set x (some (.lst true (ds.dropLast ++ [.lst true (es.set j (.int c))]))))
          | _ => .st)
        | _ => .st)
      | _ => .st
    | _ => .st
  | .apAll x r j c, δ => match δ[x]? with
    | some (some (.lst true ds)) => if (x != r && (decide (r < δ.length) && ds.all (isApT j))) = true then .nx ((δ.set x (some (.lst true (ds.map (apT j c))))).set r none) else .st
    | _ => .st
  | .aug i op e, δ => match δ[i]? with
    | some (some (.int a)) => (ev G (shareE δ) e).go δ fun d => match d with
      | .int b => (binF op (.int a) (.int b)).go δ fun r => .nx (δ.set i (some r))
      | _ => .st
    | some (some (.str a)) => (ev G (shareE δ) e).go δ fun d => match d with
      | .str b => (binF op (.str a) (.str b)).go δ fun r => .nx (δ.set i (some r))
      | _ => .st
    | _ => .st
  | .exp e, δ => (ev G (shareE δ) e).go δ fun _ => .nx δ
  | .ife c a b, δ => (ev G (shareE δ) c).go δ fun d => match d with
    | .bl true => exec G a δ
    | .bl false => exec G b δ
    | _ => .st
  | .whl c b, δ => whC (fun δ => ev G (shareE δ) c) (exec G b) δ
  | .for_ t k none as b, δ => (evs G (shareE δ) as).go δ fun ds => if noFrzs ds then (itemsF k ds).go δ fun xs => forL (exec G b) t xs δ else .st
  | .for_ t k (some vs) as b, δ => (evs G (maskE vs (frzAt vs δ)) as).go δ fun ds => (itemsF k ds).go δ fun xs => forL (exec G b) t xs (frzAt vs δ)
  | .forK i t k as b, δ => match δ[i]? with
    | some (some d0) => if (refD d0 && (t.noV i && b.noV i)) = true then (evs G (maskE [i] (shareE δ)) as).go δ fun ds => (itemsF k ds).go δ fun xs => if noFrzs xs = true then keepO i d0 (forL (exec G b) t xs (δ.set i none)) else .st else .st
    | _ => .st
  | .ret m, δ => (evM G δ m).go δ fun p => .rt p.1
  | .retN, _ => .rt .non
  | .rse c, δ => .er c δ
  | .brk, δ => .bk δ
  | .cnt, δ => .ct δ
  | .tri b h, δ => match exec G b δ with | .er c δ' => handle G h c δ' | o => o
  | .untg i, δ => match δ[i]? with
    | some (some d) => .nx (δ.set i (some (untag d)))
    | _ => .st
  | .tag i b, δ => match δ[i]? with
    | some (some (.lst o ds)) => if ds.all refT = true then uni ds.length fun as => exec G b (δ.set i (some (.lst o (tagL as ds)))) else .st
    | _ => .st
  | _, _ => .st
noncomputable def handle (G : Gam) : S → String → Env → Out
  | .hnd cs none b r, c, δ => match catchB G cs c with | some true => noEr (exec G b δ) | some false => handle G r c δ | none => .st
  | .hnd cs (some i) b r, c, δ => match catchB G cs c with
    | some true => (match noEr (exec G b (δ.set i (some (.exc c)))) with
      | .nx δ' => .nx (δ'.set i none) | .bk δ' => .bk (δ'.set i none) | .ct δ' => .ct (δ'.set i none) | o => o)
    | some false => handle G r c δ
    | none => .st
  | _, c, δ => .er c δ
end

theorem whN_mono {c : Env → Res D} {b : Env → Out} : ∀ {n m : Nat} {δ : Env}, n ≤ m → whN c b n δ ≠ .st → whN c b m δ = whN c b n δ
  | 0, _, _, _, h => (h rfl).elim
  | n + 1, 0, _, h, _ => by omega
  | n + 1, m + 1, δ, h, q => by
    rw [whN] at q ⊢
    conv => rhs; rw [whN]
    split <;> rename_i e
    · rw [e] at q
      dsimp only at q
      split <;> rename_i e2
      · rw [e2] at q; exact whN_mono (by omega) q
      · rw [e2] at q; exact whN_mono (by omega) q
      · rfl
      · rfl
    · rfl
    · rfl
    · rfl
theorem whC_of {c : Env → Res D} {b : Env → Out} {δ : Env} {n : Nat} (h : whN c b n δ ≠ .st) : whC c b δ = whN c b n δ := by
  have hx : ∃ n, whN c b n δ ≠ .st := ⟨n, h⟩
  unfold whC
  rw [dif_pos hx]
  rcases Nat.le_total n hx.choose with l | l
  · exact whN_mono l h
  · exact (whN_mono l hx.choose_spec).symm
theorem whC_st {c : Env → Res D} {b : Env → Out} {δ : Env} (h : ∀ n, whN c b n δ = .st) : whC c b δ = .st := by
  unfold whC
  rw [dif_neg]
  rintro ⟨n, q⟩
  exact q (h n)
theorem whC_get {c : Env → Res D} {b : Env → Out} {δ : Env} (h : whC c b δ ≠ .st) : ∃ n, whN c b n δ = whC c b δ := by
  apply Classical.byContradiction
  intro q
  refine h (whC_st fun n => ?_)
  apply Classical.byContradiction
  intro z
  exact q ⟨n, (whC_of z).symm⟩
/-- one turn -/
theorem whC_eq (c : Env → Res D) (b : Env → Out) (δ : Env) : whC c b δ = match c δ with
    | .ok (.bl true) => (match b δ with
      | .nx δ2 => whC c b δ2
      | .ct δ2 => whC c b δ2
      | .bk δ2 => .nx δ2
      | o => o)
    | .ok (.bl false) => .nx δ
    | .er e => .er e δ
    | _ => .st := by
  have up : ∀ {δ2 : Env} (f : Nat → Out), (∀ n, f (n + 1) = whN c b n δ2) → (∀ n, whN c b n δ = f n) → whC c b δ = whC c b δ2 := by
    intro δ2 f hf hw
    by_cases z : ∃ n, whN c b n δ2 ≠ .st
    · obtain ⟨n, hn⟩ := z
      rw [whC_of hn, whC_of (n := n + 1) (by rw [hw, hf]; exact hn), hw, hf]
    · have z' : ∀ n, whN c b n δ2 = .st := fun n => Classical.byContradiction fun q => z ⟨n, q⟩
      rw [whC_st z', whC_st fun n => ?_]
      cases n with
      | zero => rfl
      | succ n => rw [hw, hf, z']
  have one : ∀ {o : Out}, whN c b 1 δ = o → o ≠ .st → whC c b δ = o := fun e n => by rw [whC_of (n := 1) (by rw [e]; exact n), e]
  cases e : c δ with
  | st => exact whC_st fun n => by cases n with | zero => rfl | succ n => rw [whN, e]
  | er x => exact one (by rw [whN, e]) (fun z => by cases z)
  | ok d =>
    cases d with
    | bl t =>
      cases t with
      | false => exact one (by rw [whN, e]) (fun z => by cases z)
      | true =>
        dsimp only
        cases e2 : b δ with
        | nx δ2 => exact up (fun n => whN c b n δ) (fun n => by rw [whN, e]; simp only [e2]) fun n => rfl
        | ct δ2 => exact up (fun n => whN c b n δ) (fun n => by rw [whN, e]; simp only [e2]) fun n => rfl
        | bk δ2 => exact one (by rw [whN, e]; simp only [e2]) (fun z => by cases z)
        | rt d => exact one (by rw [whN, e]; simp only [e2]) (fun z => by cases z)
        | er c' δ2 => exact one (by rw [whN, e]; simp only [e2]) (fun z => by cases z)
        | st => exact whC_st fun n => by cases n with | zero => rfl | succ n => rw [whN, e]; simp only [e2]
    | _ => exact whC_st fun n => by cases n with | zero => rfl | succ n => rw [whN, e]
end Ev
namespace Ev
open PySem L2

/-! ## What the slots hold -/
/-- the slots hold δ, and ts are in hand as vs. H0: the heap at the entry; P0: places forbidden from outside; Mm: places that may change -/
structure SEnv (K : PySem.W.Frag) (ca : String → Option Addr) (H0 : Hp) (P0 Mm : Addr → Prop) (δ : Env) (σ : L2.St) (H : Hp) (ts : List D) (vs : List V) (own : Nat → List Addr) (F : List Addr) : Prop where
  len : δ.length = σ.length
  rep : ∀ (i : Nat) (d : D), δ[i]? = some (some d) → ∃ v, σ[i]? = some (some v) ∧ Rep K ca H (fun a => P0 a ∨ (∃ j, a ∈ own j) ∨ a ∈ F) d v (own i)
  nd : ∀ i, (own i).Nodup
  dj : ∀ i j a, i ≠ j → a ∈ own i → a ∉ own j
  trk : ∀ i a, a ∈ own i → ∃ o, H a = some o ∧ LD o
  new : ∀ i a, a ∈ own i → Mm a ∨ H0 a = none
  hand : Reps K ca H (fun a => P0 a ∨ (∃ j, a ∈ own j) ∨ a ∈ F) ts vs F
  fnd : F.Nodup
  fdj : ∀ i a, a ∈ F → a ∉ own i
  fnew : ∀ a, a ∈ F → Mm a ∨ H0 a = none
  exo : ExO Mm H0 H
  p0 : Trk P0 H0
  md : ∀ a, Mm a → ¬ P0 a
section
variable {K : PySem.W.Frag} {ca : String → Option Addr} {H0 H H' : Hp} {P0 Mm : Addr → Prop} {δ : Env} {σ : L2.St} {ts : List D} {vs : List V} {own : Nat → List Addr} {F : List Addr}
theorem Trk.exo {P : Addr → Prop} {Mm : Addr → Prop} {H H' : Hp} (t : Trk P H) (e : ExO Mm H H') (md : ∀ a, Mm a → ¬ P a) : Trk P H' := fun a p n => by
  cases q : H a with
  | none => exact t a p q
  | some o => rw [e a o q (.inl fun m => md a m p)] at n; cases n
theorem SEnv.p1 (s : SEnv K ca H0 P0 Mm δ σ H ts vs own F) : Trk P0 H := s.p0.exo s.exo s.md
theorem SEnv.off (s : SEnv K ca H0 P0 Mm δ σ H ts vs own F) {i : Nat} {a : Addr} (m : a ∈ own i) : ¬ P0 a := (s.new i a m).elim (s.md a) fun n p => s.p0 a p n
theorem SEnv.foff (s : SEnv K ca H0 P0 Mm δ σ H ts vs own F) {a : Addr} (m : a ∈ F) : ¬ P0 a := (s.fnew a m).elim (s.md a) fun n p => s.p0 a p n
theorem SEnv.ext (s : SEnv K ca H0 P0 Mm δ σ H ts vs own F) (e : Ex H H') : SEnv K ca H0 P0 Mm δ σ H' ts vs own F where
  len := s.len
  rep := fun i d h => let ⟨v, h1, h2⟩ := s.rep i d h; ⟨v, h1, h2.ext e⟩
  nd := s.nd
  dj := s.dj
  trk := fun i a m => let ⟨xs, h, l⟩ := s.trk i a m; ⟨xs, e _ _ h, l⟩
  new := s.new
  hand := s.hand.ext e
  fnd := s.fnd
  fdj := s.fdj
  fnew := s.fnew
  exo := s.exo.trans e.exo
  p0 := s.p0
  md := s.md
theorem shareE_at {i : Nat} {d : D} (h : (shareE δ)[i]? = some (some d)) : ∃ d', δ[i]? = some (some d') ∧ d = share d' := by
  unfold shareE at h
  rw [List.getElem?_map] at h
  cases e : δ[i]? with
  | none => rw [e] at h; cases h
  | some o =>
    rw [e] at h
    cases o with
    | none => cases h
    | some d' => cases h; exact ⟨d', rfl, rfl⟩
/-- what an expression may read -/
theorem SEnv.benv (s : SEnv K ca H0 P0 Mm δ σ H ts vs own F) : BEnv K ca (shareE δ) σ H P0 := by
  refine ⟨by unfold shareE; rw [List.length_map]; exact s.len, fun i d h => ?_⟩
  obtain ⟨d', h1, rfl⟩ := shareE_at h
  obtain ⟨v, h2, h3⟩ := s.rep i d' h1
  exact ⟨v, h2, h3.shr (fun a p => .inl p) fun a m => s.off m⟩
/-- a new value in hand, without shared lists -/
theorem SEnv.push {d : D} {v : V} {F1 : List Addr} (s : SEnv K ca H0 P0 Mm δ σ H ts vs own F) (e : Ex H H') (n1 : F1.Nodup) (f1 : ∀ a ∈ F1, H a = none) (r : Rep K ca H' (fun a => P0 a ∨ a ∈ F1) d v F1) (nf : noFrz d = true) :
    SEnv K ca H0 P0 Mm δ σ H' (ts ++ [d]) (vs ++ [v]) own (F ++ F1) := by
  have grow : ∀ {a}, (P0 a ∨ (∃ j, a ∈ own j) ∨ a ∈ F ++ F1) → (P0 a ∨ (∃ j, a ∈ own j) ∨ a ∈ F) ∨ H a = none := fun {a} z => by
    rcases z with z | z | z
    · exact .inl (.inl z)
    · exact .inl (.inr (.inl z))
    · exact (List.mem_append.mp z).elim (fun m => .inl (.inr (.inr m))) fun m => .inr (f1 a m)
  have trF : ∀ a ∈ F, ∃ o, H a = some o ∧ LD o := fun a m => s.hand.tracked a m
  refine ⟨s.len, fun i d h => ?_, s.nd, s.dj, fun i a m => ?_, s.new, ?_, nodup_app s.fnd n1 fun a m m' => ?_, fun i a m m' => ?_, fun a m => ?_, s.exo.trans e.exo, s.p0, s.md⟩
  · obtain ⟨v, h1, h2⟩ := s.rep i d h
    exact ⟨v, h1, (h2.forb fun a z => grow z).ext e⟩
  · obtain ⟨xs, h, l⟩ := s.trk i a m
    exact ⟨xs, e _ _ h, l⟩
  · refine ((s.hand.forb fun a z => grow z).ext e).append ?_
    have r' : Rep K ca H' (fun a => P0 a ∨ (∃ j, a ∈ own j) ∨ a ∈ F ++ F1) d v F1 := r.free (fun a z => by
      rcases z with z | ⟨j, z⟩ | z
      · exact .inl (.inl z)
      · obtain ⟨xs, h, l⟩ := s.trk j a z; exact .inr (.inr ⟨xs, e _ _ h, l⟩)
      · rcases List.mem_append.mp z with z | z
        · obtain ⟨xs, h, l⟩ := trF a z; exact .inr (.inr ⟨xs, e _ _ h, l⟩)
        · exact .inl (.inr z)) nf
    have := Reps.cons r' .nil
    rwa [List.append_nil] at this
  · obtain ⟨xs, h, _⟩ := trF a m
    rw [f1 a m'] at h; cases h
  · rcases List.mem_append.mp m with m | m
    · exact s.fdj i a m m'
    · obtain ⟨xs, h, _⟩ := s.trk i a m'
      rw [f1 a m] at h; cases h
  · rcases List.mem_append.mp m with m | m
    · exact s.fnew a m
    · cases q : H0 a with
      | none => exact .inr rfl
      | some o =>
        by_cases hm : Mm a
        · exact .inl hm
        · have := s.exo a o q (.inl hm)
          rw [f1 a m] at this; cases this
/-- a value's own lists, at another place of the pot -/
theorem SEnv.re {own' : Nat → List Addr} {δ' : Env} {σ' : L2.St} {ts' : List D} {vs' : List V} {F' : List Addr} (s : SEnv K ca H0 P0 Mm δ σ H ts vs own F)
    (len : δ'.length = σ'.length)
    (sub : ∀ a, ((∃ j, a ∈ own' j) ∨ a ∈ F') → ((∃ j, a ∈ own j) ∨ a ∈ F))
    (rep : ∀ (i : Nat) (d : D), δ'[i]? = some (some d) → ∃ v, σ'[i]? = some (some v) ∧ Rep K ca H (fun a => P0 a ∨ (∃ j, a ∈ own' j) ∨ a ∈ F') d v (own' i))
    (nd : ∀ i, (own' i).Nodup) (dj : ∀ i j a, i ≠ j → a ∈ own' i → a ∉ own' j)
    (hand : Reps K ca H (fun a => P0 a ∨ (∃ j, a ∈ own' j) ∨ a ∈ F') ts' vs' F') (fnd : F'.Nodup) (fdj : ∀ i a, a ∈ F' → a ∉ own' i) :
    SEnv K ca H0 P0 Mm δ' σ' H ts' vs' own' F' where
  len := len
  rep := rep
  nd := nd
  dj := dj
  trk := fun i a m => (sub a (.inl ⟨i, m⟩)).elim (fun ⟨j, z⟩ => s.trk j a z) fun z => s.hand.tracked a z
  new := fun i a m => (sub a (.inl ⟨i, m⟩)).elim (fun ⟨j, z⟩ => s.new j a z) (s.fnew a)
  hand := hand
  fnd := fnd
  fdj := fdj
  fnew := fun a m => (sub a (.inr m)).elim (fun ⟨j, z⟩ => s.new j a z) (s.fnew a)
  exo := s.exo
  p0 := s.p0
  md := s.md
def setO (own : Nat → List Addr) (i : Nat) (F : List Addr) : Nat → List Addr := fun j => if j = i then F else own j
theorem setO_at {i : Nat} {F : List Addr} : setO own i F i = F := if_pos rfl
theorem setO_ne {i j : Nat} {F : List Addr} (h : j ≠ i) : setO own i F j = own j := if_neg h
theorem setO_mem {i j : Nat} {F : List Addr} {a : Addr} (h : a ∈ setO own i F j) : (j = i ∧ a ∈ F) ∨ (j ≠ i ∧ a ∈ own j) := by
  unfold setO at h
  split at h
  · rename_i e; exact .inl ⟨e, h⟩
  · rename_i e; exact .inr ⟨e, h⟩
theorem set_at {δ : Env} {i j : Nat} {o : Option D} {d : D} (h : (δ.set i o)[j]? = some (some d)) : (j = i ∧ o = some d ∧ i < δ.length) ∨ (j ≠ i ∧ δ[j]? = some (some d)) := by
  by_cases q : j = i
  · subst q
    have hl : j < δ.length := by simpa using (List.getElem?_eq_some_iff.mp h).1
    rw [List.getElem?_set_self hl] at h
    cases h
    exact .inl ⟨rfl, rfl, hl⟩
  · rw [List.getElem?_set_ne (Ne.symm q)] at h
    exact .inr ⟨q, h⟩
/-- what stays of a slot, when the pot shrinks -/
theorem SEnv.low {own' : Nat → List Addr} {F' : List Addr} {d : D} {v : V} {G : List Addr} (sub : ∀ a, ((∃ j, a ∈ own' j) ∨ a ∈ F') → ((∃ j, a ∈ own j) ∨ a ∈ F)) (r : Rep K ca H (fun a => P0 a ∨ (∃ j, a ∈ own j) ∨ a ∈ F) d v G) :
    Rep K ca H (fun a => P0 a ∨ (∃ j, a ∈ own' j) ∨ a ∈ F') d v G := r.forb fun a z => .inl (z.imp id (sub a))
theorem SEnv.lows {own' : Nat → List Addr} {F' : List Addr} {d : List D} {v : List V} {G : List Addr} (sub : ∀ a, ((∃ j, a ∈ own' j) ∨ a ∈ F') → ((∃ j, a ∈ own j) ∨ a ∈ F)) (r : Reps K ca H (fun a => P0 a ∨ (∃ j, a ∈ own j) ∨ a ∈ F) d v G) :
    Reps K ca H (fun a => P0 a ∨ (∃ j, a ∈ own' j) ∨ a ∈ F') d v G := r.forb fun a z => .inl (z.imp id (sub a))
/-- a slot is emptied, what it holds is dropped -/
theorem SEnv.drop_ (s : SEnv K ca H0 P0 Mm δ σ H ts vs own F) (i : Nat) : SEnv K ca H0 P0 Mm (δ.set i none) σ H ts vs (setO own i []) F := by
  have sub : ∀ a, ((∃ j, a ∈ setO own i [] j) ∨ a ∈ F) → ((∃ j, a ∈ own j) ∨ a ∈ F) := fun a z => z.imp (fun ⟨j, m⟩ => (setO_mem m).elim (fun z => absurd z.2 (by simp)) fun z => ⟨j, z.2⟩) id
  refine s.re (by rw [List.length_set]; exact s.len) sub (fun j d h => ?_) (fun j => ?_) (fun j k a n m m' => ?_) (SEnv.lows sub s.hand) s.fnd fun j a m m' => ?_
  · rcases set_at h with ⟨_, z, _⟩ | ⟨n, z⟩
    · cases z
    · obtain ⟨v, h1, h2⟩ := s.rep j d z
      exact ⟨v, h1, by rw [setO_ne n]; exact SEnv.low sub h2⟩
  · by_cases e : j = i
    · rw [e, setO_at]; exact List.nodup_nil
    · rw [setO_ne e]; exact s.nd j
  · rcases setO_mem m with ⟨_, z⟩ | ⟨n1, z⟩
    · simp at z
    · rcases setO_mem m' with ⟨_, z'⟩ | ⟨n2, z'⟩
      · simp at z'
      · exact s.dj j k a n z z'
  · rcases setO_mem m' with ⟨_, z⟩ | ⟨n1, z⟩
    · simp at z
    · exact s.fdj j a m z
/-- the first value in hand goes into a slot -/
theorem SEnv.take {d : D} {v : V} (s : SEnv K ca H0 P0 Mm δ σ H (d :: ts) (v :: vs) own F) (i : Nat) : ∃ F1 F2, F = F1 ++ F2 ∧ SEnv K ca H0 P0 Mm (δ.set i (some d)) (σ.set i (some v)) H ts vs (setO own i F1) F2 := by
  have hh := s.hand
  generalize eF : F = FF at hh
  cases hh with
  | @cons _ _ F1 _ _ F2 h r =>
    subst eF
    have nn := List.nodup_append.mp s.fnd
    have sub : ∀ a, ((∃ j, a ∈ setO own i F1 j) ∨ a ∈ F2) → ((∃ j, a ∈ own j) ∨ a ∈ F1 ++ F2) := fun a z => z.elim (fun ⟨j, m⟩ => (setO_mem m).elim (fun z => .inr (List.mem_append_left _ z.2)) fun z => .inl ⟨j, z.2⟩) fun z => .inr (List.mem_append_right _ z)
    refine ⟨F1, F2, rfl, s.re (by simp [s.len]) sub (fun j e h' => ?_) (fun j => ?_) (fun j k a n m m' => ?_) (SEnv.lows sub r) nn.2.1 fun j a m m' => ?_⟩
    · rcases set_at h' with ⟨e1, z, hl⟩ | ⟨n, z⟩
      · cases z
        subst e1
        exact ⟨v, List.getElem?_set_self (by rw [← s.len]; exact hl), by rw [setO_at]; exact SEnv.low sub h⟩
      · obtain ⟨u, h1, h2⟩ := s.rep j e z
        exact ⟨u, by rw [List.getElem?_set_ne (Ne.symm n)]; exact h1, by rw [setO_ne n]; exact SEnv.low sub h2⟩
    · by_cases e : j = i
      · rw [e, setO_at]; exact nn.1
      · rw [setO_ne e]; exact s.nd j
    · rcases setO_mem m with ⟨e1, z⟩ | ⟨n1, z⟩
      · rcases setO_mem m' with ⟨e2, z'⟩ | ⟨n2, z'⟩
        · exact n (e1.trans e2.symm)
        · exact s.fdj k a (List.mem_append_left _ z) z'
      · rcases setO_mem m' with ⟨_, z'⟩ | ⟨n2, z'⟩
        · exact s.fdj j a (List.mem_append_left _ z') z
        · exact s.dj j k a n z z'
    · rcases setO_mem m' with ⟨_, z⟩ | ⟨n1, z⟩
      · exact nn.2.2 a z a m rfl
      · exact s.fdj j a (List.mem_append_right _ m) z
/-- a slot's value comes into the hand, the slot is left alone from then on -/
theorem SEnv.mv {i : Nat} {d : D} (s : SEnv K ca H0 P0 Mm δ σ H ts vs own F) (h : δ[i]? = some (some d)) : ∃ v, σ[i]? = some (some v) ∧ SEnv K ca H0 P0 Mm (δ.set i none) σ H (ts ++ [d]) (vs ++ [v]) (setO own i []) (F ++ own i) := by
  obtain ⟨v, h1, h2⟩ := s.rep i d h
  have sub : ∀ a, ((∃ j, a ∈ setO own i [] j) ∨ a ∈ F ++ own i) → ((∃ j, a ∈ own j) ∨ a ∈ F) := fun a z => z.elim (fun ⟨j, m⟩ => (setO_mem m).elim (fun z => absurd z.2 (by simp)) fun z => .inl ⟨j, z.2⟩) fun z => (List.mem_append.mp z).elim .inr fun z => .inl ⟨i, z⟩
  refine ⟨v, h1, s.re (by rw [List.length_set]; exact s.len) sub (fun j e h' => ?_) (fun j => ?_) (fun j k a n m m' => ?_) ?_ (nodup_app s.fnd (s.nd i) (s.fdj i)) fun j a m m' => ?_⟩
  · rcases set_at h' with ⟨_, z, _⟩ | ⟨n, z⟩
    · cases z
    · obtain ⟨v, h1, h2⟩ := s.rep j e z
      exact ⟨v, h1, by rw [setO_ne n]; exact SEnv.low sub h2⟩
  · by_cases e : j = i
    · rw [e, setO_at]; exact List.nodup_nil
    · rw [setO_ne e]; exact s.nd j
  · rcases setO_mem m with ⟨_, z⟩ | ⟨n1, z⟩
    · simp at z
    · rcases setO_mem m' with ⟨_, z'⟩ | ⟨n2, z'⟩
      · simp at z'
      · exact s.dj j k a n z z'
  · have r1 : Reps K ca H _ [d] [v] (own i ++ []) := .cons (SEnv.low sub h2) .nil
    rw [List.append_nil] at r1
    exact (SEnv.lows sub s.hand).append r1
  · rcases setO_mem m' with ⟨_, z⟩ | ⟨n1, z⟩
    · simp at z
    · rcases List.mem_append.mp m with m | m
      · exact s.fdj j a m z
      · exact s.dj i j a (Ne.symm n1) m z
/-- what a name holds is shared from then on -/
theorem SEnv.frz1 (s : SEnv K ca H0 P0 Mm δ σ H ts vs own F) (i : Nat) : SEnv K ca H0 P0 Mm (δ.set i (shareO (δ[i]?.getD none))) σ H ts vs (setO own i []) F := by
  have sub : ∀ a, ((∃ j, a ∈ setO own i [] j) ∨ a ∈ F) → ((∃ j, a ∈ own j) ∨ a ∈ F) := fun a z => z.imp (fun ⟨j, m⟩ => (setO_mem m).elim (fun z => absurd z.2 (by simp)) fun z => ⟨j, z.2⟩) id
  refine s.re (by rw [List.length_set]; exact s.len) sub (fun j d h => ?_) (fun j => ?_) (fun j k a n m m' => ?_) (SEnv.lows sub s.hand) s.fnd fun j a m m' => ?_
  · rcases set_at h with ⟨e, z, hl⟩ | ⟨n, z⟩
    · subst e
      cases q : δ[j]? with
      | none => rw [q] at z; cases z
      | some o =>
        rw [q] at z
        cases o with
        | none => cases z
        | some d' =>
          cases z
          obtain ⟨v, h1, h2⟩ := s.rep j d' q
          refine ⟨v, h1, ?_⟩
          rw [setO_at]
          refine h2.shr (fun a z => z.imp id (sub a)) fun a m z => ?_
          rcases z with z | ⟨k, z⟩ | z
          · exact s.off m z
          · rcases setO_mem z with ⟨_, z⟩ | ⟨n, z⟩
            · simp at z
            · exact s.dj j k a (Ne.symm n) m z
          · exact s.fdj j a z m
    · obtain ⟨v, h1, h2⟩ := s.rep j d z
      exact ⟨v, h1, by rw [setO_ne n]; exact SEnv.low sub h2⟩
  · by_cases e : j = i
    · rw [e, setO_at]; exact List.nodup_nil
    · rw [setO_ne e]; exact s.nd j
  · rcases setO_mem m with ⟨_, z⟩ | ⟨n1, z⟩
    · simp at z
    · rcases setO_mem m' with ⟨_, z'⟩ | ⟨n2, z'⟩
      · simp at z'
      · exact s.dj j k a n z z'
  · rcases setO_mem m' with ⟨_, z⟩ | ⟨n1, z⟩
    · simp at z
    · exact s.fdj j a m z
theorem SEnv.frz : ∀ {is : List Nat} {δ : Env} {own : Nat → List Addr} (s : SEnv K ca H0 P0 Mm δ σ H ts vs own F), ∃ own', (∀ i ∈ is, own' i = []) ∧ (∀ i, own i = [] → own' i = []) ∧ SEnv K ca H0 P0 Mm (frzAt is δ) σ H ts vs own' F
  | [], _, own, s => ⟨own, by simp, fun _ h => h, s⟩
  | i :: r, δ, own, s => by
    obtain ⟨own', h1, h2, h3⟩ := SEnv.frz (is := r) (s.frz1 i)
    refine ⟨own', fun j m => ?_, fun j e => h2 j ?_, h3⟩
    · rcases List.mem_cons.mp m with e | m
      · rw [e]; exact h2 i setO_at
      · exact h1 j m
    · unfold setO
      split
      · rfl
      · exact e
theorem maskE_at {is : List Nat} {δ : Env} {i : Nat} {d : D} (h : (maskE is δ)[i]? = some (some d)) : i ∈ is ∧ δ[i]? = some (some d) := by
  unfold maskE at h
  rw [List.getElem?_map, List.getElem?_zipIdx] at h
  cases e : δ[i]? with
  | none => rw [e] at h; cases h
  | some o =>
    rw [e] at h
    simp only [Option.map_some, Nat.zero_add] at h
    split at h
    · rename_i c
      exact ⟨by simpa using c, h⟩
    · cases h
/-- the places that nobody in hand or in a slot may lead to by a shared list -/
abbrev PAll (P0 : Addr → Prop) (own : Nat → List Addr) (F : List Addr) : Addr → Prop := fun a => P0 a ∨ (∃ j, a ∈ own j) ∨ a ∈ F
theorem SEnv.pall (s : SEnv K ca H0 P0 Mm δ σ H ts vs own F) : Trk (PAll P0 own F) H := fun a z n => by
  rcases z with z | ⟨j, z⟩ | z
  · exact s.p1 a z n
  · obtain ⟨xs, h, _⟩ := s.trk j a z; rw [h] at n; cases n
  · obtain ⟨xs, h, _⟩ := s.hand.tracked a z; rw [h] at n; cases n
/-- what an expression of shared names may read -/
theorem SEnv.bmask {is : List Nat} (s : SEnv K ca H0 P0 Mm δ σ H ts vs own F) (h : ∀ i ∈ is, own i = []) : BEnv K ca (maskE is δ) σ H (PAll P0 own F) := by
  refine ⟨by unfold maskE; simp [s.len], fun i d e => ?_⟩
  obtain ⟨m, e'⟩ := maskE_at e
  obtain ⟨v, h1, h2⟩ := s.rep i d e'
  rw [h i m] at h2
  exact ⟨v, h1, h2⟩
/-- a value in hand that stands apart from all -/
theorem SEnv.push' {d : D} {v : V} {F1 : List Addr} (s : SEnv K ca H0 P0 Mm δ σ H ts vs own F) (e : Ex H H') (n1 : F1.Nodup) (f1 : ∀ a ∈ F1, H a = none) (r : Rep K ca H' (fun a => PAll P0 own F a ∨ a ∈ F1) d v F1) :
    SEnv K ca H0 P0 Mm δ σ H' (ts ++ [d]) (vs ++ [v]) own (F ++ F1) := by
  have q : SEnv K ca H0 P0 Mm δ σ H' ts vs own F := s.ext e
  have grow : ∀ {a}, PAll P0 own (F ++ F1) a → PAll P0 own F a ∨ a ∈ F1 := fun {a} z => by
    rcases z with z | z | z
    · exact .inl (.inl z)
    · exact .inl (.inr (.inl z))
    · exact (List.mem_append.mp z).elim (fun m => .inl (.inr (.inr m))) .inr
  have up : ∀ {d : D} {v : V} {G : List Addr}, Rep K ca H (PAll P0 own F) d v G → Rep K ca H' (PAll P0 own (F ++ F1)) d v G := fun r => (r.forb fun a z => (grow z).imp id (f1 a)).ext e
  have ups : ∀ {d : List D} {v : List V} {G : List Addr}, Reps K ca H (PAll P0 own F) d v G → Reps K ca H' (PAll P0 own (F ++ F1)) d v G := fun r => (r.forb fun a z => (grow z).imp id (f1 a)).ext e
  have fnew1 : ∀ a ∈ F1, Mm a ∨ H0 a = none := fun a m => by
    cases q : H0 a with
    | none => exact .inr rfl
    | some o =>
      by_cases hm : Mm a
      · exact .inl hm
      · have := s.exo a o q (.inl hm)
        rw [f1 a m] at this; cases this
  refine ⟨s.len, fun i d h => let ⟨v, h1, h2⟩ := s.rep i d h; ⟨v, h1, up h2⟩, s.nd, s.dj, q.trk, s.new, ?_, nodup_app s.fnd n1 fun a m m' => ?_, fun i a m m' => ?_, fun a m => (List.mem_append.mp m).elim (s.fnew a) (fnew1 a), q.exo, s.p0, s.md⟩
  · have r1 : Reps K ca H' (PAll P0 own (F ++ F1)) [d] [v] (F1 ++ []) := .cons (r.forb fun a z => .inl ((grow z))) .nil
    rw [List.append_nil] at r1
    exact (ups s.hand).append r1
  · obtain ⟨xs, h, _⟩ := s.hand.tracked a m
    rw [f1 a m'] at h; cases h
  · rcases List.mem_append.mp m with m | m
    · exact s.fdj i a m m'
    · obtain ⟨xs, h, _⟩ := s.trk i a m'
      rw [f1 a m] at h; cases h
theorem Reps.split {P : Addr → Prop} : ∀ {ds es : List D} {ws : List V} {F : List Addr}, Reps K ca H P (ds ++ es) ws F → ∃ vs us F1 F2, ws = vs ++ us ∧ F = F1 ++ F2 ∧ Reps K ca H P ds vs F1 ∧ Reps K ca H P es us F2
  | [], es, ws, F, r => ⟨[], ws, [], F, rfl, rfl, .nil, r⟩
  | d :: ds, es, ws, F, r => by
    cases r with
    | @cons _ v F1 _ _ F2 h r =>
      obtain ⟨vs, us, G1, G2, e1, e2, r1, r2⟩ := Reps.split r
      exact ⟨v :: vs, us, F1 ++ G1, G2, by rw [e1]; rfl, by rw [e2, List.append_assoc], .cons h r1, r2⟩
theorem app_len {α : Type} {a b c d : List α} (h : a ++ b = c ++ d) (l : a.length = c.length) : a = c ∧ b = d := List.append_inj h l
/-- the last values in hand become a tuple -/
theorem SEnv.tup {ds : List D} {us : List V} {p : Addr} (s : SEnv K ca H0 P0 Mm δ σ H (ts ++ ds) (vs ++ us) own F) (hl : ts.length = vs.length) (hp : H p = none) : SEnv K ca H0 P0 Mm δ σ (upd H p (.tup us)) (ts ++ [.tup ds]) (vs ++ [.ref p]) own F := by
  have q := s.ext (Ex.new (o := .tup us) hp)
  obtain ⟨vs', us', F1, F2, e1, e2, r1, r2⟩ := q.hand.split
  obtain ⟨rfl, rfl⟩ := app_len e1 (by rw [← hl]; exact r1.length)
  refine { q with hand := ?_ }
  rw [e2]
  have := Reps.cons (Rep.tup (.inl (.inl upd_same)) r2) .nil
  rw [List.append_nil] at this
  rw [← e2]
  rw [e2]
  subst e2
  exact r1.append this
/-- the last values in hand become a list -/
theorem SEnv.lst {ds : List D} {us : List V} {p : Addr} (s : SEnv K ca H0 P0 Mm δ σ H (ts ++ ds) (vs ++ us) own F) (hl : ts.length = vs.length) (hp : H p = none) : ∃ F', SEnv K ca H0 P0 Mm δ σ (upd H p (.lst us)) (ts ++ [.lst true ds]) (vs ++ [.ref p]) own F' := by
  have q := s.ext (Ex.new (o := .lst us) hp)
  obtain ⟨vs', us', F1, F2, e1, e2, r1, r2⟩ := s.hand.split
  obtain ⟨rfl, rfl⟩ := app_len e1 (by rw [← hl]; exact r1.length)
  subst e2
  have np : ∀ a, PAll P0 own (F1 ++ F2) a → a ≠ p := fun a z e => s.pall a z (by rw [e]; exact hp)
  have ex : Ex H (upd H p (.lst us)) := Ex.new hp
  have grow : ∀ {a}, PAll P0 own (F1 ++ p :: F2) a → PAll P0 own (F1 ++ F2) a ∨ H a = none := fun {a} z => by
    rcases z with z | z | z
    · exact .inl (.inl z)
    · exact .inl (.inr (.inl z))
    · rcases List.mem_append.mp z with m | m
      · exact .inl (.inr (.inr (List.mem_append_left _ m)))
      · rcases List.mem_cons.mp m with e | m
        · exact .inr (by rw [e]; exact hp)
        · exact .inl (.inr (.inr (List.mem_append_right _ m)))
  have up : ∀ {d : D} {v : V} {G : List Addr}, Rep K ca H (PAll P0 own (F1 ++ F2)) d v G → Rep K ca (upd H p (.lst us)) (PAll P0 own (F1 ++ p :: F2)) d v G := fun r => (r.forb fun a z => grow z).ext ex
  have ups : ∀ {d : List D} {v : List V} {G : List Addr}, Reps K ca H (PAll P0 own (F1 ++ F2)) d v G → Reps K ca (upd H p (.lst us)) (PAll P0 own (F1 ++ p :: F2)) d v G := fun r => (r.forb fun a z => grow z).ext ex
  have h0p : Mm p ∨ H0 p = none := by
    cases q : H0 p with
    | none => exact .inr rfl
    | some o =>
      by_cases hm : Mm p
      · exact .inl hm
      · have := s.exo p o q (.inl hm)
        rw [hp] at this; cases this
  have nn := List.nodup_append.mp s.fnd
  refine ⟨F1 ++ p :: F2, s.len, fun i d h => let ⟨v, h1, h2⟩ := s.rep i d h; ⟨v, h1, up h2⟩, s.nd, s.dj, q.trk, s.new, ?_, ?_, ?_, ?_, q.exo, s.p0, s.md⟩
  · have := Reps.cons (Rep.own upd_same (ups r2)) .nil
    rw [List.append_nil] at this
    exact (ups r1).append this
  · refine nodup_app nn.1 (List.nodup_cons.mpr ⟨fun m => np p (.inr (.inr (List.mem_append_right _ m))) rfl, nn.2.1⟩) fun a m m' => ?_
    rcases List.mem_cons.mp m' with e | m'
    · exact np a (.inr (.inr (List.mem_append_left _ m))) e
    · exact nn.2.2 a m a m' rfl
  · intro i a m m'
    rcases List.mem_append.mp m with z | z
    · exact s.fdj i a (List.mem_append_left _ z) m'
    · rcases List.mem_cons.mp z with e | z
      · exact np a (.inr (.inl ⟨i, m'⟩)) e
      · exact s.fdj i a (List.mem_append_right _ z) m'
  · intro a m
    rcases List.mem_append.mp m with z | z
    · exact s.fnew a (List.mem_append_left _ z)
    · rcases List.mem_cons.mp z with e | z
      · rw [e]; exact h0p
      · exact s.fnew a (List.mem_append_right _ z)
end

/-! ## Values taken -/
def PostM (K : PySem.W.Frag) (ca : String → Option Addr) (W : WE) (H0 : Hp) (P0 Mm : Addr → Prop) (σ : L2.St) (H : Hp) (ts : List D) (vs : List V) : Res (D × Env) → VK → Prop
  | .ok p, Q => ∀ v H' own' F', Ex H H' → SEnv K ca H0 P0 Mm p.2 σ H' (ts ++ [p.1]) (vs ++ [v]) own' F' → Q v H'
  | .er c, _ => ∀ H', Ex H H' → W c σ H'
  | .st, _ => False
def PostMs (K : PySem.W.Frag) (ca : String → Option Addr) (W : WE) (H0 : Hp) (P0 Mm : Addr → Prop) (σ : L2.St) (H : Hp) (ts : List D) (vs : List V) : Res (List D × Env) → (List V → Hp → Prop) → Prop
  | .ok p, Q => ∀ us H' own' F', Ex H H' → SEnv K ca H0 P0 Mm p.2 σ H' (ts ++ p.1) (vs ++ us) own' F' → Q us H'
  | .er c, _ => ∀ H', Ex H H' → W c σ H'
  | .st, _ => False
def tM (K : PySem.W.Frag) (ca : String → Option Addr) (G : Gam) (W : WE) (m : M) : TE := fun σ H Q => ∃ H0 P0 Mm δ ts vs own F, SEnv K ca H0 P0 Mm δ σ H ts vs own F ∧ PostM K ca W H0 P0 Mm σ H ts vs (evM G δ m) Q
def tMs (K : PySem.W.Frag) (ca : String → Option Addr) (G : Gam) (W : WE) (m : M) : TA := fun σ H Q => ∃ H0 P0 Mm δ ts vs own F, SEnv K ca H0 P0 Mm δ σ H ts vs own F ∧ PostMs K ca W H0 P0 Mm σ H ts vs (evMs G δ m) Q
section
variable {X : Cx} {ca : String → Option Addr} {G : Gam} {W : WE}
abbrev SM (X : Cx) (ca : String → Option Addr) (G : Gam) (W : WE) (e : Expr) (m : M) : Prop := PE X e (tM X.K ca G W m)
abbrev SMs (X : Cx) (ca : String → Option Addr) (G : Gam) (W : WE) (e : List Expr) (m : M) : Prop := PA X e (tMs X.K ca G W m)
variable {e : Expr} {es : List Expr} {e' : E} {pos : Pos}
theorem SEnv.hl {K : PySem.W.Frag} {H0 H : Hp} {P0 Mm : Addr → Prop} {δ : Env} {σ : L2.St} {ts : List D} {vs : List V} {own : Nat → List Addr} {F : List Addr} (s : SEnv K ca H0 P0 Mm δ σ H ts vs own F) : ts.length = vs.length := s.hand.length
/-- from what tM says of `ex`, what tE says -/
theorem tM_ex {K : PySem.W.Frag} {σ : L2.St} {H : Hp} {Q : VK} (h : tM K ca G W (.ex e') σ H Q) : tE K ca G W e' σ H Q := by
  obtain ⟨H0, P0, Mm, δ, ts, vs, own, F, s, h⟩ := h
  refine ⟨_, P0, s.benv, s.p1, ?_⟩
  rw [evM] at h
  cases q : ev G (shareE δ) e' with
  | st => rw [q] at h; exact h
  | er c => rw [q] at h; exact h
  | ok d =>
    rw [q] at h
    simp only [Res.bind] at h
    split at h
    · rename_i nf
      exact fun v H' F1 x n f r => h v H' own (F ++ F1) x (s.push x n f r nf)
    · exact h.elim
theorem sm_ex (h : SE X ca G W e e') : SM X ca G W e (.ex e') := PE.imp h fun σ H Q => tM_ex
theorem tM_exf {is : List Nat} {K : PySem.W.Frag} {σ : L2.St} {H : Hp} {Q : VK} (h : tM K ca G W (.exf is e') σ H Q) : tE K ca G W e' σ H Q := by
  obtain ⟨H0, P0, Mm, δ, ts, vs, own, F, s, h⟩ := h
  obtain ⟨own', h1, _, s'⟩ := s.frz (is := is)
  refine ⟨_, _, s'.bmask h1, s'.pall, ?_⟩
  rw [evM] at h
  cases q : ev G (maskE is (frzAt is δ)) e' with
  | st => rw [q] at h; exact h
  | er c => rw [q] at h; exact h
  | ok d =>
    rw [q] at h
    exact fun v H' F1 x n f r => h v H' own' (F ++ F1) x (s'.push' x n f r)
theorem sm_exf (is : List Nat) (h : SE X ca G W e e') : SM X ca G W e (.exf is e') := PE.imp h fun σ H Q => tM_exf
theorem sm_mv (i : Nat) {x : Str} (hN : X.N[i]? = some x := by rfl) (hv : Vis X.env.scope x := by first | exact Or.inl rfl | exact Or.inr (Or.inl rfl) | exact Or.inr (Or.inr rfl)) (hd : (x == ("__debug__" : Str)) = false := by decide)
    (hcd : (x == ("__classdict__" : Str)) = false := by decide) : SM X ca G W (.Name x pos) (.mv i) := by
  refine PE.imp (pe_var hN hv hd hcd) fun σ H Q ⟨H0, P0, Mm, δ, ts, vs, own, F, s, h⟩ => ?_
  rw [evM] at h
  cases q : δ[i]? with
  | none => rw [q] at h; exact h.elim
  | some o =>
    cases o with
    | none => rw [q] at h; exact h.elim
    | some d =>
      rw [q] at h
      obtain ⟨v, h1, s'⟩ := s.mv q
      exact ⟨v, h1, h v H _ _ (Ex.refl H) s'⟩
theorem sms_nil : SMs X ca G W [] .nil := ⟨fun pos pins s σ H Q I ⟨H0, P0, Mm, δ, ts, vs, own, F, e, h⟩ => pa_nil.run pos pins s σ H Q I (h [] H own F (Ex.refl H) (by rw [List.append_nil, List.append_nil]; exact e))⟩
theorem sms_cons {a as : M} (h1 : SM X ca G W e a) (h2 : SMs X ca G W es as) (hs : starEach (e :: es) X.env = (false, eval e X.env) :: starEach es X.env := by rfl) : SMs X ca G W (e :: es) (.cons a as) := by
  refine PA.imp (pa_cons h1 h2 hs) fun σ H Q ⟨H0, P0, Mm, δ, ts, vs, own, F, s, h⟩ => ?_
  rw [evMs] at h
  refine ⟨H0, P0, Mm, δ, ts, vs, own, F, s, ?_⟩
  cases q : evM G δ a with
  | st => rw [q] at h; exact h
  | er c => rw [q] at h; exact h
  | ok p =>
    rw [q] at h
    intro v H1 own1 F1 x1 s1
    refine ⟨H0, P0, Mm, p.2, _, _, own1, F1, s1, ?_⟩
    simp only [Res.bind] at h
    cases q2 : evMs G p.2 as with
    | st => rw [q2] at h; exact h
    | er c => rw [q2] at h; exact fun H' x => h H' (x1.trans x)
    | ok p2 =>
      rw [q2] at h
      intro us H2 own2 F2 x2 s2
      refine h (v :: us) H2 own2 F2 (x1.trans x2) ?_
      rw [List.append_assoc, List.append_assoc] at s2
      exact s2
theorem sm_tp {as : M} {k : Nat} (ha : SMs X ca G W es as) : SM X ca G W (.Tuple es k pos) (.tp as) := by
  refine PE.imp (pe_tup ha) fun σ H Q ⟨H0, P0, Mm, δ, ts, vs, own, F, s, h⟩ => ?_
  rw [evM] at h
  refine ⟨H0, P0, Mm, δ, ts, vs, own, F, s, ?_⟩
  cases q : evMs G δ as with
  | st => rw [q] at h; exact h
  | er c => rw [q] at h; exact h
  | ok p =>
    rw [q] at h
    intro us H1 own1 F1 x1 s1
    have hl : p.1.length = us.length := by
      have := s1.hl
      rw [List.length_append, List.length_append, s.hl] at this
      omega
    simp only [Res.bind] at h
    split at h
    · rename_i l
      exact ⟨by rw [← hl, sizeLine_eq]; exact l, fun p hp => h _ _ own1 F1 (x1.trans (Ex.new hp)) (s1.tup s.hl hp)⟩
    · exact h.elim
theorem sm_ls {as : M} (ha : SMs X ca G W es as) : SM X ca G W (.List es pos) (.ls as) := by
  refine PE.imp (pe_lst ha) fun σ H Q ⟨H0, P0, Mm, δ, ts, vs, own, F, s, h⟩ => ?_
  rw [evM] at h
  refine ⟨H0, P0, Mm, δ, ts, vs, own, F, s, ?_⟩
  cases q : evMs G δ as with
  | st => rw [q] at h; exact h
  | er c => rw [q] at h; exact h
  | ok p =>
    rw [q] at h
    intro us H1 own1 F1 x1 s1
    have hl : p.1.length = us.length := by
      have := s1.hl
      rw [List.length_append, List.length_append, s.hl] at this
      omega
    simp only [Res.bind] at h
    split at h
    · rename_i l
      refine ⟨by rw [← hl, sizeLine_eq]; exact l, fun p hp => ?_⟩
      obtain ⟨F', s2⟩ := s1.lst s.hl hp
      exact h _ _ own1 F' (x1.trans (Ex.new hp)) s2
    · exact h.elim
end
end Ev
namespace Ev
open PySem L2

/-! ## Lists that are changed -/
section
variable {K : PySem.W.Frag} {ca : String → Option Addr} {H0 H H' : Hp} {P0 Mm : Addr → Prop} {δ : Env} {σ : L2.St} {ts : List D} {vs : List V} {own : Nat → List Addr} {F : List Addr}
theorem SEnv.open_ {x : Nat} {ds : List D} (s : SEnv K ca H0 P0 Mm δ σ H ts vs own F) (h : δ[x]? = some (some (.lst true ds))) : ∃ a ws Fx, σ[x]? = some (some (.ref a)) ∧ own x = a :: Fx ∧ H a = some (.lst ws) ∧ Reps K ca H (PAll P0 own F) ds ws Fx := by
  obtain ⟨v, h1, h2⟩ := s.rep x _ h
  generalize e : own x = Fo at h2
  cases h2 with
  | own hh r => exact ⟨_, _, _, h1, rfl, hh, r⟩
/-- the list of a name holds other things from then on -/
theorem SEnv.put {x : Nat} {a : Addr} {ws : List V} {Fx : List Addr} {ds' : List D} {ws' : List V} {G : List Addr} {ts' : List D} {vs' : List V} {F' : List Addr} (s : SEnv K ca H0 P0 Mm δ σ H ts vs own F) (hv : σ[x]? = some (some (.ref a))) (ho : own x = a :: Fx) (hH : H a = some (.lst ws))
    (r : Reps K ca H (PAll P0 own F) ds' ws' G) (gn : G.Nodup) (gs : ∀ b ∈ G, b ∈ Fx ∨ b ∈ F) (r' : Reps K ca H (PAll P0 own F) ts' vs' F') (fn : F'.Nodup) (fs : ∀ b ∈ F', b ∈ Fx ∨ b ∈ F) (gf : ∀ b ∈ G, b ∉ F') :
    SEnv K ca H0 P0 Mm (δ.set x (some (.lst true ds'))) σ (upd H a (.lst ws')) ts' vs' (setO own x (a :: G)) F' := by
  have ax : a ∈ own x := by rw [ho]; exact List.mem_cons_self ..
  have nx : (a :: Fx).Nodup := by rw [← ho]; exact s.nd x
  have aF : a ∉ F := fun m => s.fdj x a m ax
  have aX : a ∉ Fx := (List.nodup_cons.mp nx).1
  have aG : a ∉ G := fun m => (gs a m).elim aX aF
  have aF' : a ∉ F' := fun m => (fs a m).elim aX aF
  have inx : ∀ b ∈ Fx, b ∈ own x := fun b m => by rw [ho]; exact List.mem_cons_of_mem _ m
  have sub : ∀ b, PAll P0 (setO own x (a :: G)) F' b → PAll P0 own F b := fun b z => by
    rcases z with z | ⟨j, z⟩ | z
    · exact .inl z
    · rcases setO_mem z with ⟨_, z⟩ | ⟨_, z⟩
      · rcases List.mem_cons.mp z with e | z
        · rw [e]; exact .inr (.inl ⟨x, ax⟩)
        · exact (gs b z).elim (fun m => .inr (.inl ⟨x, inx b m⟩)) fun m => .inr (.inr m)
      · exact .inr (.inl ⟨j, z⟩)
    · exact (fs b z).elim (fun m => .inr (.inl ⟨x, inx b m⟩)) fun m => .inr (.inr m)
  have pa : PAll P0 (setO own x (a :: G)) F' a := .inr (.inl ⟨x, by rw [setO_at]; exact List.mem_cons_self ..⟩)
  have up : ∀ {d : D} {v : V} {Gd : List Addr}, a ∉ Gd → Rep K ca H (PAll P0 own F) d v Gd → Rep K ca (upd H a (.lst ws')) (PAll P0 (setO own x (a :: G)) F') d v Gd := fun n r => (r.forb fun b z => .inl (sub b z)).upd hH pa n
  have ups : ∀ {d : List D} {v : List V} {Gd : List Addr}, a ∉ Gd → Reps K ca H (PAll P0 own F) d v Gd → Reps K ca (upd H a (.lst ws')) (PAll P0 (setO own x (a :: G)) F') d v Gd := fun n r => (r.forb fun b z => .inl (sub b z)).upd hH pa n
  have lst' : ∀ b, (∃ o, H b = some o ∧ LD o) → ∃ o, upd H a (.lst ws') b = some o ∧ LD o := fun b ⟨xs, h, l⟩ => by
    by_cases e : b = a
    · rw [e]; exact ⟨_, upd_same, .l⟩
    · exact ⟨xs, by rw [upd_ne e]; exact h, l⟩
  have mem : ∀ b, b ∈ Fx ∨ b ∈ F → (∃ j, b ∈ own j) ∨ b ∈ F := fun b z => z.imp (fun m => ⟨x, inx b m⟩) id
  have tr : ∀ b, (∃ j, b ∈ own j) ∨ b ∈ F → ∃ o, H b = some o ∧ LD o := fun b z => z.elim (fun ⟨j, m⟩ => s.trk j b m) (s.hand.tracked b)
  have nw : ∀ b, (∃ j, b ∈ own j) ∨ b ∈ F → Mm b ∨ H0 b = none := fun b z => z.elim (fun ⟨j, m⟩ => s.new j b m) (s.fnew b)
  have own' : ∀ i b, b ∈ setO own x (a :: G) i → (∃ j, b ∈ own j) ∨ b ∈ F := fun i b m => (setO_mem m).elim (fun z => (List.mem_cons.mp z.2).elim (fun e => .inl ⟨x, by rw [e]; exact ax⟩) fun z => mem b (gs b z)) fun z => .inl ⟨i, z.2⟩
  refine ⟨by rw [List.length_set]; exact s.len, fun i d h => ?_, fun i => ?_, fun i j b n m m' => ?_, fun i b m => lst' b (tr b (own' i b m)), fun i b m => nw b (own' i b m), ups aF' r', fn, fun i b m m' => ?_, fun b m => nw b (mem b (fs b m)), fun b o hb q => ?_, s.p0, s.md⟩
  · rcases set_at h with ⟨e, z, hl⟩ | ⟨n, z⟩
    · subst e
      cases z
      refine ⟨.ref a, hv, ?_⟩
      rw [setO_at]
      exact .own upd_same (ups aG r)
    · obtain ⟨v, h1, h2⟩ := s.rep i d z
      refine ⟨v, h1, ?_⟩
      rw [setO_ne n]
      exact up (fun m => s.dj i x a n m ax) h2
  · by_cases e : i = x
    · rw [e, setO_at]; exact List.nodup_cons.mpr ⟨aG, gn⟩
    · rw [setO_ne e]; exact s.nd i
  · rcases setO_mem m with ⟨e1, z⟩ | ⟨n1, z⟩
    · rcases setO_mem m' with ⟨e2, z'⟩ | ⟨n2, z'⟩
      · exact n (e1.trans e2.symm)
      · rcases List.mem_cons.mp z with e | z
        · rw [e] at z'; exact s.dj x j a (Ne.symm n2) ax z'
        · exact (gs b z).elim (fun m => s.dj x j b (Ne.symm n2) (inx b m) z') fun m => s.fdj j b m z'
    · rcases setO_mem m' with ⟨e2, z'⟩ | ⟨n2, z'⟩
      · rcases List.mem_cons.mp z' with e | z'
        · rw [e] at z; exact s.dj x i a (Ne.symm n1) ax z
        · exact (gs b z').elim (fun m => s.dj x i b (Ne.symm n1) (inx b m) z) fun m => s.fdj i b m z
      · exact s.dj i j b n z z'
  · rcases setO_mem m' with ⟨e, z⟩ | ⟨n, z⟩
    · rcases List.mem_cons.mp z with e2 | z
      · rw [e2] at m; exact aF' m
      · exact gf b z m
    · exact (fs b m).elim (fun z' => s.dj x i b (Ne.symm n) (inx b z') z) fun z' => s.fdj i b z' z
  · by_cases e : b = a
    · exfalso
      subst e
      rcases s.new x b ax with k | k
      · rcases q with q | q
        · exact q k
        · have := s.exo b o hb (.inr q)
          rw [hH] at this; cases this; cases q
      · rw [k] at hb; cases hb
    · rw [upd_ne e]; exact s.exo b o hb q
theorem Reps.rev {P : Addr → Prop} : ∀ {ds : List D} {vs : List V} {F : List Addr}, Reps K ca H P ds vs F → ∃ G, Reps K ca H P ds.reverse vs.reverse G ∧ (∀ a, a ∈ G ↔ a ∈ F) ∧ (F.Nodup → G.Nodup)
  | [], _, _, .nil => ⟨[], .nil, fun _ => Iff.rfl, id⟩
  | d :: ds, _, _, .cons (v := v) (F := F1) (F' := F2) h r => by
    obtain ⟨G, g1, g2, g3⟩ := Reps.rev r
    have h1 : Reps K ca H P [d] [v] (F1 ++ []) := .cons h .nil
    rw [List.append_nil] at h1
    refine ⟨G ++ F1, by rw [List.reverse_cons, List.reverse_cons]; exact g1.append h1, fun a => ?_, fun n => ?_⟩
    · rw [List.mem_append, List.mem_append, g2]; exact Or.comm
    · have nn := List.nodup_append.mp n
      exact nodup_app (g3 nn.2.1) nn.1 fun a m m' => nn.2.2 a m' a ((g2 a).mp m) rfl
theorem Reps.set {P : Addr → Prop} {e : D} {u : V} {Fe : List Addr} (he : Rep K ca H P e u Fe) : ∀ {ds : List D} {vs : List V} {F : List Addr} {k : Nat}, Reps K ca H P ds vs F → k < ds.length → ∃ F1 F2 F3, F = F1 ++ (F2 ++ F3) ∧ Reps K ca H P (ds.set k e) (vs.set k u) (F1 ++ (Fe ++ F3))
  | [], _, _, _, _, h => by simp at h
  | d :: ds, _, _, 0, .cons (F := F1) (F' := F2) h r, _ => ⟨[], F1, F2, rfl, by rw [List.nil_append]; exact .cons he r⟩
  | d :: ds, _, _, k + 1, .cons (F := F0) (F' := FF) h r, hk => by
    obtain ⟨F1, F2, F3, e1, e2⟩ := Reps.set he r (k := k) (by simpa using hk)
    refine ⟨F0 ++ F1, F2, F3, by rw [e1, List.append_assoc], ?_⟩
    rw [List.append_assoc]
    exact .cons h e2
end

/-! ## What a statement wants -/
def OutP (K : PySem.W.Frag) (ca : String → Option Addr) (W : WE) (H0 : Hp) (P0 Mm : Addr → Prop) (D : Ends) : Out → Prop
  | .nx δ => ∀ σ H own, SEnv K ca H0 P0 Mm δ σ H [] [] own [] → D.nx σ H
  | .bk δ => ∀ σ H own, SEnv K ca H0 P0 Mm δ σ H [] [] own [] → D.bk σ H
  | .ct δ => ∀ σ H own, SEnv K ca H0 P0 Mm δ σ H [] [] own [] → D.ct σ H
  | .rt d => ∀ v H F, ExO Mm H0 H → F.Nodup → (∀ a ∈ F, Mm a ∨ H0 a = none) → Rep K ca H (fun a => P0 a ∨ a ∈ F) d v F → D.rt v H
  | .er c δ => ∀ σ H own, SEnv K ca H0 P0 Mm δ σ H [] [] own [] → W c σ H
  | .st => False
def tS (K : PySem.W.Frag) (ca : String → Option Addr) (G : Gam) (W : WE) (s : S) : TS := fun D σ H => ∃ H0 P0 Mm δ own, SEnv K ca H0 P0 Mm δ σ H [] [] own [] ∧ OutP K ca W H0 P0 Mm D (exec G s δ)
section
variable {K : PySem.W.Frag} {ca : String → Option Addr} {G : Gam} {W : WE} {H0 H H' : Hp} {P0 Mm : Addr → Prop} {δ : Env} {σ : L2.St} {own : Nat → List Addr} {D0 : Ends}
theorem OutP.ends {D1 D2 : Ends} {o : Out} (h : OutP K ca W H0 P0 Mm D1 o) (h1 : ∀ δ, o = .nx δ → OutP K ca W H0 P0 Mm D2 (.nx δ)) (h2 : ∀ v H, D1.rt v H → D2.rt v H) (h3 : ∀ δ, o = .bk δ → OutP K ca W H0 P0 Mm D2 (.bk δ)) (h4 : ∀ δ, o = .ct δ → OutP K ca W H0 P0 Mm D2 (.ct δ)) : OutP K ca W H0 P0 Mm D2 o := by
  cases o with
  | nx δ => exact h1 δ rfl
  | bk δ => exact h3 δ rfl
  | ct δ => exact h4 δ rfl
  | rt d => exact fun v H F a b c d => h2 v H (h v H F a b c d)
  | er c δ => exact h
  | st => exact h
/-- another base: the heap as it is -/
theorem SEnv.rebase (s : SEnv K ca H0 P0 Mm δ σ H [] [] own []) : SEnv K ca H P0 (fun a => ∃ j, a ∈ own j) δ σ H [] [] own [] :=
  { s with new := fun i a m => .inl ⟨i, m⟩, fnew := by simp, exo := ExO.refl _ _, p0 := s.p1, md := fun a ⟨j, m⟩ => s.off m }
theorem SEnv.back {H2 : Hp} {δ' : Env} {σ' : L2.St} {own' : Nat → List Addr} {ts' : List D} {vs' : List V} {F' : List Addr} (s : SEnv K ca H0 P0 Mm δ σ H [] [] own []) (t : SEnv K ca H P0 (fun a => ∃ j, a ∈ own j) δ' σ' H2 ts' vs' own' F') : SEnv K ca H0 P0 Mm δ' σ' H2 ts' vs' own' F' := by
  have nw : ∀ a, (∃ j, a ∈ own j) ∨ H a = none → Mm a ∨ H0 a = none := fun a z => z.elim (fun ⟨j, m⟩ => s.new j a m) fun n => by
    cases q : H0 a with
    | none => exact .inr rfl
    | some o =>
      by_cases hm : Mm a
      · exact .inl hm
      · have := s.exo a o q (.inl hm)
        rw [n] at this; cases this
  refine { t with new := fun i a m => nw a (t.new i a m), fnew := fun a m => nw a (t.fnew a m), exo := fun a o h q => ?_, p0 := s.p0, md := s.md }
  have h1 := s.exo a o h q
  refine t.exo a o h1 ?_
  by_cases z : ∃ j, a ∈ own j
  · obtain ⟨j, m⟩ := z
    rcases s.new j a m with k | k
    · exact .inr (q.elim (fun n => (n k).elim) id)
    · rw [k] at h; cases h
  · exact .inl z
theorem OutP.rebase {o : Out} (s : SEnv K ca H0 P0 Mm δ σ H [] [] own []) (h : OutP K ca W H0 P0 Mm D0 o) : OutP K ca W H P0 (fun a => ∃ j, a ∈ own j) D0 o := by
  cases o with
  | nx δ => exact fun σ' H' own' t => h σ' H' own' (s.back t)
  | bk δ => exact fun σ' H' own' t => h σ' H' own' (s.back t)
  | ct δ => exact fun σ' H' own' t => h σ' H' own' (s.back t)
  | er c δ => exact fun σ' H' own' t => h σ' H' own' (s.back t)
  | st => exact h
  | rt d =>
    intro v H' F e n f r
    refine h v H' F (fun a o ha q => ?_) n (fun a m => ?_) r
    · have h1 := s.exo a o ha q
      refine e a o h1 ?_
      by_cases z : ∃ j, a ∈ own j
      · obtain ⟨j, m⟩ := z
        rcases s.new j a m with k | k
        · exact .inr (q.elim (fun n => (n k).elim) id)
        · rw [k] at ha; cases ha
      · exact .inl z
    · rcases f a m with ⟨j, z⟩ | z
      · exact s.new j a z
      · cases q : H0 a with
        | none => exact .inr rfl
        | some o =>
          by_cases hm : Mm a
          · exact .inl hm
          · have := s.exo a o q (.inl hm)
            rw [z] at this; cases this

/-- a value in hand -/
theorem go_M {m : M} {k : D × Env → Out} {Q : VK} (s : SEnv K ca H0 P0 Mm δ σ H [] [] own []) (h : OutP K ca W H0 P0 Mm D0 ((evM G δ m).go δ k))
    (hk : ∀ p v H' own' F', evM G δ m = .ok p → Ex H H' → SEnv K ca H0 P0 Mm p.2 σ H' [p.1] [v] own' F' → OutP K ca W H0 P0 Mm D0 (k p) → Q v H') : tM K ca G W m σ H Q := by
  refine ⟨H0, P0, Mm, δ, [], [], own, [], s, ?_⟩
  cases q : evM G δ m with
  | st => rw [q] at h; exact h
  | er c => rw [q] at h; exact fun H' x => h σ H' own (s.ext x)
  | ok p => rw [q] at h; exact fun v H' own' F' x t => hk p v H' own' F' q x t h
theorem go_E {e : E} {k : D → Out} {Q : VK} (s : SEnv K ca H0 P0 Mm δ σ H [] [] own []) (h : OutP K ca W H0 P0 Mm D0 ((ev G (shareE δ) e).go δ k))
    (hk : ∀ d v H' F, Ex H H' → Rep K ca H' (fun a => P0 a ∨ a ∈ F) d v F → SEnv K ca H0 P0 Mm δ σ H' [] [] own [] → OutP K ca W H0 P0 Mm D0 (k d) → Q v H') : tE K ca G W e σ H Q := by
  refine ⟨_, P0, s.benv, s.p1, ?_⟩
  cases q : ev G (shareE δ) e with
  | st => rw [q] at h; exact h
  | er c => rw [q] at h; exact fun H' x => h σ H' own (s.ext x)
  | ok d => rw [q] at h; exact fun v H' F x n f r => hk d v H' F x r (s.ext x) h
/-- an index in hand's company -/
theorem go_E2 {e : E} {k : D → Out} {Q : VK} {ts : List D} {vs : List V} {F : List Addr} (s : SEnv K ca H0 P0 Mm δ σ H ts vs own F) (h : OutP K ca W H0 P0 Mm D0 ((ev G (shareE δ) e).go δ k)) (s0 : ∀ H', Ex H H' → SEnv K ca H0 P0 Mm δ σ H' [] [] own [])
    (hk : ∀ d v H' F1, Ex H H' → Rep K ca H' (fun a => P0 a ∨ a ∈ F1) d v F1 → SEnv K ca H0 P0 Mm δ σ H' ts vs own F → OutP K ca W H0 P0 Mm D0 (k d) → Q v H') : tE K ca G W e σ H Q := by
  refine ⟨_, P0, s.benv, s.p1, ?_⟩
  cases q : ev G (shareE δ) e with
  | st => rw [q] at h; exact h
  | er c => rw [q] at h; exact fun H' x => h σ H' own (s0 H' x)
  | ok d => rw [q] at h; exact fun v H' F x n f r => hk d v H' F x r (s.ext x) h
theorem SEnv.nohand {ts : List D} {vs : List V} {F : List Addr} (s : SEnv K ca H0 P0 Mm δ σ H ts vs own F) : SEnv K ca H0 P0 Mm δ σ H [] [] own [] :=
  s.re s.len (fun a z => z.imp id fun m => by simp at m) (fun i d h => let ⟨v, h1, h2⟩ := s.rep i d h; ⟨v, h1, h2.forb fun a z => .inl (z.imp id fun z => z.imp id fun m => by simp at m)⟩) s.nd s.dj .nil List.nodup_nil (by simp)
theorem go_T {c : E} {k : D → Out} {Q : Bool → Hp → Prop} (s : SEnv K ca H0 P0 Mm δ σ H [] [] own []) (h : OutP K ca W H0 P0 Mm D0 ((ev G (shareE δ) c).go δ k)) (hb : ∀ d, (∀ b, d ≠ .bl b) → k d = .st)
    (hk : ∀ b H', Ex H H' → SEnv K ca H0 P0 Mm δ σ H' [] [] own [] → OutP K ca W H0 P0 Mm D0 (k (.bl b)) → Q b H') : tT K ca G W c σ H Q := by
  refine ⟨_, P0, s.benv, s.p1, ?_⟩
  cases q : ev G (shareE δ) c with
  | st => rw [q] at h; exact h
  | er c => rw [q] at h; exact fun H' x => h σ H' own (s.ext x)
  | ok d =>
    rw [q] at h
    by_cases z : ∃ b, d = .bl b
    · obtain ⟨b, e⟩ := z
      subst e
      exact fun H' x => hk b H' x (s.ext x) h
    · have h' : OutP K ca W H0 P0 Mm D0 (k d) := h
      rw [hb d fun b e => z ⟨b, e⟩] at h'
      exact h'.elim
/-- several values go into slots -/
theorem sgTs {Q : L2.St → Hp → Prop} : ∀ {is : List Nat} {ds : List D} {xs : List V} {δ : Env} {σ : L2.St} {own : Nat → List Addr} {F : List Addr}, is.length = ds.length → SEnv K ca H0 P0 Mm δ σ H ds xs own F →
    (∀ σ2 own2, SEnv K ca H0 P0 Mm (setAll (is.zip ds) δ) σ2 H [] [] own2 [] → Q σ2 H) → gTs is xs σ H Q
  | [], [], xs, δ, σ, own, F, _, s, q => by
    have h := s.hand
    cases h
    exact ⟨rfl, q σ own s⟩
  | [], _ :: _, _, _, _, _, _, l, _, _ => by simp at l
  | _ :: _, [], _, _, _, _, _, l, _, _ => by simp at l
  | i :: is, d :: ds, xs, δ, σ, own, F, l, s, q => by
    cases xs with
    | nil => have := s.hl; simp at this
    | cons x xs =>
      obtain ⟨F1, F2, _, s1⟩ := s.take i
      exact ⟨x, xs, rfl, sgTs (σ := σ.set i (some x)) (by simpa using l) s1 q⟩
/-- a target takes the value in hand -/
theorem sgT {t : Tg} {d : D} {v : V} {δ' : Env} {F : List Addr} {Q : L2.St → Hp → Prop} (s : SEnv K ca H0 P0 Mm δ σ H [d] [v] own F) (e : bindT t d δ = some δ') (q : ∀ σ2 own2, SEnv K ca H0 P0 Mm δ' σ2 H [] [] own2 [] → Q σ2 H) : gT K t v σ H Q := by
  cases t with
  | nm i =>
    cases e
    obtain ⟨F1, F2, _, s1⟩ := s.take i
    have h2 := s1.hand
    cases h2
    exact q _ _ s1
  | tp is =>
    obtain ⟨v', e', hh⟩ := reps1 s.hand
    cases e'
    cases d with
    | tup ds =>
      simp only [bindT, bindS] at e
      split at e
      · rename_i hl
        cases e
        cases hh with
        | tup hs rr => exact .inl ⟨_, _, rfl, hs, by rw [← rr.length, hl], sgTs hl { s with hand := rr } q⟩
      · cases e
    | lst o ds =>
      simp only [bindT, bindS] at e
      split at e
      · rename_i hl
        cases e
        generalize eF : F = FF at hh
        cases hh with
        | own hs rr =>
          subst eF
          refine .inr ⟨_, _, rfl, .inl (.inl hs), by rw [← rr.length, hl], sgTs (F := _) hl (s.re s.len (fun b z => z.imp id fun m => List.mem_cons_of_mem _ m) (fun i d h => ?_) s.nd s.dj (rr.forb fun b z => ?_) (List.nodup_cons.mp s.fnd).2 fun i b m => s.fdj i b (List.mem_cons_of_mem _ m)) q⟩
          · obtain ⟨v, h1, h2⟩ := s.rep i d h
            exact ⟨v, h1, h2.forb fun b z => .inl (z.imp id fun z => z.imp id fun m => List.mem_cons_of_mem _ m)⟩
          · exact .inl (z.imp id fun z => z.imp id fun m => List.mem_cons_of_mem _ m)
        | frz hs p rr =>
          subst eF
          exact .inr ⟨_, _, rfl, .inl (.inl hs), by rw [← rr.length, hl], sgTs hl { s with hand := rr } q⟩
      · cases e
    | _ => cases e
theorem bindG_ok {t : Tg} {d : D} {v : V} {F : List Addr} (s : SEnv K ca H0 P0 Mm δ σ H [d] [v] own F) (h : OutP K ca W H0 P0 Mm D0 (bindG t d δ)) : gT K t v σ H D0.nx := by
  unfold bindG at h
  cases e : bindT t d δ with
  | none => rw [e] at h; exact h.elim
  | some δ' => rw [e] at h; exact sgT s e fun σ2 own2 s2 => h σ2 H own2 s2
end
end Ev
namespace Ev
open PySem L2

section
variable {X : Cx} {ca : String → Option Addr} {G : Gam} {W : WE}
/-- the statement st does what s says -/
abbrev SS (X : Cx) (ca : String → Option Addr) (G : Gam) (W : WE) (st : Stmt) (s : S) : Prop := PS X st (tS X.K ca G W s)
abbrev SSs (X : Cx) (ca : String → Option Addr) (G : Gam) (W : WE) (st : List Stmt) (s : S) : Prop := PSs X st (tS X.K ca G W s)
variable {st : Stmt} {sts : List Stmt} {s t : S} {e c : Expr} {e' c' : E} {m : M} {pos : Pos}

theorem sss_nil : SSs X ca G W [] .skip := PSs.imp pss_nil fun D σ H ⟨H0, P0, Mm, δ, own, b, h⟩ => by
  rw [exec] at h
  exact h σ H own b
theorem sss_one (h : SS X ca G W st s) : SSs X ca G W [st] s := pss_one h
theorem sss_cons (h1 : SS X ca G W st s) (h2 : SSs X ca G W sts t) : SSs X ca G W (st :: sts) (.seq s t) := by
  refine PSs.imp (pss_cons h1 h2) fun D σ H ⟨H0, P0, Mm, δ, own, b, h⟩ => ?_
  rw [exec] at h
  refine ⟨H0, P0, Mm, δ, own, b, ?_⟩
  cases q : exec G s δ with
  | nx δ' => rw [q] at h; exact fun σ' H' own' b' => ⟨H0, P0, Mm, δ', own', b', h⟩
  | bk δ' => rw [q] at h; exact h
  | ct δ' => rw [q] at h; exact h
  | rt d => rw [q] at h; exact h
  | er c δ' => rw [q] at h; exact h
  | st => rw [q] at h; exact h
theorem ss_pass : SS X ca G W (.Pass pos) .skip := PS.imp ps_pass fun D σ H ⟨H0, P0, Mm, δ, own, b, h⟩ => by
  rw [exec] at h
  exact h σ H own b
theorem ss_doc {x : Str} {j : Nat} {p : Pos} : SS X ca G W (.Expr (.Constant (.str x) j p) pos) .skip := PS.imp ps_doc fun D σ H ⟨H0, P0, Mm, δ, own, b, h⟩ => by
  rw [exec] at h
  exact h σ H own b
theorem ss_brk : SS X ca G W (.Break pos) .brk := PS.imp ps_break fun D σ H ⟨H0, P0, Mm, δ, own, b, h⟩ => by
  rw [exec] at h
  exact h σ H own b
theorem ss_cnt : SS X ca G W (.Continue pos) .cnt := PS.imp ps_continue fun D σ H ⟨H0, P0, Mm, δ, own, b, h⟩ => by
  rw [exec] at h
  exact h σ H own b
theorem ss_exp (h : SE X ca G W e e') (hs : swapsWith e none pos.line X.env = pure false := by rfl) : SS X ca G W (.Expr e pos) (.exp e') := by
  refine PS.imp (ps_expr h hs) fun D σ H ⟨H0, P0, Mm, δ, own, b, h⟩ => ?_
  rw [exec] at h
  exact go_E b h fun d v H' F x r b' h' => h' σ H' own b'
theorem ss_ret (h : SM X ca G W e m) : SS X ca G W (.Return (some e) pos) (.ret m) := by
  refine PS.imp (ps_ret h) fun D σ H ⟨H0, P0, Mm, δ, own, b, h⟩ => ?_
  rw [exec] at h
  refine go_M b h fun p v H' own' F' q x s h' => ?_
  obtain ⟨v', ev, r⟩ := reps1 s.hand
  cases ev
  exact h' v H' F' s.exo s.fnd s.fnew (r.forb fun a z => .inl (z.imp id .inr))
theorem ss_retN : SS X ca G W (.Return none pos) .retN := by
  refine PS.imp ps_retN fun D σ H ⟨H0, P0, Mm, δ, own, b, h⟩ => ?_
  rw [exec] at h
  exact h .non H [] b.exo List.nodup_nil (by simp) .non
theorem ss_asg {x : Str} {i : Nat} {pos' : Pos} (hN : X.N.Nodup) (h : SM X ca G W e m) (hi : X.N[i]? = some x := by rfl) (hx : Loc X.env.scope x := by first | exact Or.inl rfl | exact Or.inr rfl) (hs : swapsWith e (some (.Name x pos')) pos.line X.env = pure false := by rfl)
    (hf : X.fn x = true ∨ X.env.scope.names.lookup x = some .local := by first | exact .inl rfl | exact .inr rfl) : SS X ca G W (.Assign [.Name x pos'] e pos) (.asg (.nm i) m) := by
  refine PS.imp (ps_set hN hi hx h hs hf) fun D σ H ⟨H0, P0, Mm, δ, own, b, h⟩ => ?_
  rw [exec] at h
  exact go_M b h fun p v H' own' F' q x s h' => bindG_ok s h'
theorem ss_asgT {tg : Expr} {t : Tg} (h : SM X ca G W e m) (hg : PG X tg (gT X.K t)) (hs : swapsWithSole [tg] e pos.line X.env = pure false := by rfl) (hw : swappedStores [tg] e X.env = pure none := by rfl)
    (h1 : (assignEach [tg] X.env).map (·.2) = [assign tg X.env] := by rfl) : SS X ca G W (.Assign [tg] e pos) (.asg t m) := by
  refine PS.imp (ps_asg h hg hs hw h1) fun D σ H ⟨H0, P0, Mm, δ, own, b, h⟩ => ?_
  rw [exec] at h
  exact go_M b h fun p v H' own' F' q x s h' => bindG_ok s h'
/-- name = [comprehension] on one line -/
theorem ss_asgLc {i : Nat} {y : Str} {py : Pos} {elt tg iter : Expr} {ifs : List Expr} {scope : Scope} {own : List (Str × Nat)} {pos spos : Pos} {t : Tg} {k : ItK} {as' c e : E} (hc : X.calm = true) (hN : X.N.Nodup) (hm : m = .ex (.comp t k as' c e) ∨ ∃ is, m = .exf is (.comp t k as' c e))
    (hi : SI X ca G W tg iter k as') (ok : blkC X.N X.env.scope scope own = true)
    (hg : ∀ (s : Shared) (H : Hp) (C : Addr) (cl : List (Str × Addr)) (fp : List Addr), PG (X.blk s H scope (compEnvC scope cl C X.env) fp) tg (gT X.K t)) (ht : ∀ (s : Shared) (H : Hp) (C : Addr) (cl : List (Str × Addr)) (fp : List Addr), PTs (X.blk s H scope (compEnvC scope cl C X.env) fp) ifs (tT X.K ca G WF c))
    (he : ∀ (s : Shared) (H : Hp) (C : Addr) (cl : List (Str × Addr)) (fp : List Addr), PE (X.blk s H scope (compEnvC scope cl C X.env) fp) elt (tE X.K ca G WF e)) (hv : (own.map (·.2)).all (t.slots.contains ·) = true := by rfl) (hw : t.slots.all ((own.map (·.2)).contains ·) = true := by rfl)
    (hyi : X.N[i]? = some y := by rfl) (hyl : X.env.scope.names.lookup y = some .local := by rfl) (hk : X.env.scope.kind = .function := by rfl) (hl : (py.line == pos.line) = true := by rfl) (ha : (scope.names.any fun (n, k) => n == y && (k == .local || k == .cell)) = false := by rfl)
    (hs : ∀ x, foldedSetIterable iter X.env x = pure x := by intro _; rfl) :
    SS X ca G W (.Assign [.Name y py] (.ListComp elt [⟨tg, iter, ifs, 0⟩] scope pos) spos) (.asg (.nm i) m) := by
  refine PS.imp (ps_setLc hc hN hyi hyl (sw_true hk hyl hl ha) hi (blkOk_by ok) hg ht he hs) fun D σ H ⟨H0, P0, Mm, δ, own', b, h⟩ => ?_
  rw [exec] at h
  have q : tM X.K ca G W m σ H (fun v H' => gName i v σ H' D.nx) := go_M b h fun p v H' own' F' q x s h' => bindG_ok (t := .nm i) s h'
  have q' : tE X.K ca G W (.comp t k as' c e) σ H (fun v H' => gName i v σ H' D.nx) := by
    rcases hm with hm | ⟨is, hm⟩
    · subst hm; exact tM_ex q
    · subst hm; exact tM_exf q
  exact comp_core (fun i m => by simpa using List.all_eq_true.mp hv i m) (fun i m => by simpa using List.all_eq_true.mp hw i m) q'
theorem ss_if {a b : List Stmt} {s t : S} (hc : STt X ca G W c c') (ha : SSs X ca G W a s) (hb : SSs X ca G W b t) : SS X ca G W (.If c a b pos) (.ife c' s t) := by
  refine PS.imp (ps_if hc ha hb) fun D σ H ⟨H0, P0, Mm, δ, own, b, h⟩ => ?_
  rw [exec] at h
  refine go_T b h (fun d hd => ?_) fun bb H' x b' h' => ?_
  · cases d <;> first | rfl | exact (hd _ rfl).elim
  · cases bb with
    | true => rw [if_pos rfl]; exact ⟨H0, P0, Mm, δ, own, b', h'⟩
    | false => rw [if_neg Bool.false_ne_true]; exact ⟨H0, P0, Mm, δ, own, b', h'⟩

/-! ## while -/
theorem while_core {K : PySem.W.Frag} {D : Ends} {σ : L2.St} {H : Hp} (h : tS K ca G W (.whl c' s) D σ H) : tWhile (tT K ca G W c') (tS K ca G W s) D σ H := by
  obtain ⟨H0, P0, Mm, δ, own, b, h⟩ := h
  rw [exec] at h
  have ns : whC (fun δ => ev G (shareE δ) c') (exec G s) δ ≠ .st := fun e => by rw [e] at h; exact h
  obtain ⟨n, hn⟩ := whC_get ns
  refine ⟨fun n σ H => ∃ δ own, SEnv K ca H0 P0 Mm δ σ H [] [] own [] ∧ OutP K ca W H0 P0 Mm D (whN (fun δ => ev G (shareE δ) c') (exec G s) n δ), ⟨n, δ, own, b, by rw [hn]; exact h⟩, ?_⟩
  rintro n σ H ⟨δ, own, b, h⟩
  cases n with
  | zero => exact h.elim
  | succ n =>
    rw [whN] at h
    refine ⟨_, P0, b.benv, b.p1, ?_⟩
    cases q : ev G (shareE δ) c' with
    | st => rw [q] at h; exact h
    | er c => rw [q] at h; exact fun H' x => h σ H' own (b.ext x)
    | ok d =>
      rw [q] at h
      cases d with
      | bl t =>
        intro H' x
        cases t with
        | false => rw [if_neg Bool.false_ne_true]; exact h σ H' own (b.ext x)
        | true =>
          rw [if_pos rfl]
          refine ⟨fun σ2 H2 => ∃ δ own, SEnv K ca H0 P0 Mm δ σ2 H2 [] [] own [] ∧ OutP K ca W H0 P0 Mm D (whN (fun δ => ev G (shareE δ) c') (exec G s) n δ), fun σ2 H2 z => ⟨n, Nat.lt_succ_self n, z⟩, ?_⟩
          refine ⟨H0, P0, Mm, δ, own, b.ext x, ?_⟩
          dsimp only at h
          cases q2 : exec G s δ with
          | nx δ2 => rw [q2] at h; exact fun σ2 H2 own2 b2 => ⟨δ2, own2, b2, h⟩
          | ct δ2 => rw [q2] at h; exact fun σ2 H2 own2 b2 => ⟨δ2, own2, b2, h⟩
          | bk δ2 => rw [q2] at h; exact h
          | rt d => rw [q2] at h; exact h
          | er c δ2 => rw [q2] at h; exact h
          | st => rw [q2] at h; exact h
      | _ => exact h.elim
theorem ss_while {a : List Stmt} (hp : PassesOwn (model X.prog X.w) X.A X.env X.xe) (hc : STt X ca G W c c') (ha : SSs X ca G W a s) : SS X ca G W (.While c a [] pos) (.whl c' s) :=
  PS.imp (ps_while hp hc ha) fun D σ H h => while_core h

/-! ## for -/
theorem for_core {K : PySem.W.Frag} {H0 H1 : Hp} {P0 Mm : Addr → Prop} {δ : Env} {σ : L2.St} {own : Nat → List Addr} {D : Ends} {ds xs : List Ev.D} {vs : List V} {J : It} {Gd : Hp → Prop} {Y : Nat → Hp → V → Hp → Prop} {t : Tg} (b : SEnv K ca H0 P0 Mm δ σ H1 [] [] own [])
    (rs : Reps K ca H1 (PAll P0 own []) (shares ds) vs []) (w : IsW K ca ds vs H1 J xs Gd Y) (h : OutP K ca W H0 P0 Mm D (forL (exec G s) t xs δ)) :
    ∃ U : Nat → Nat → L2.St → Hp → Prop, (∃ m, U 0 m σ H1) ∧ ∀ i m σ H, U i m σ H →
      (J.stop i H ∧ D.nx σ H) ∨ (J.go i H ∧ ∃ N : L2.St → Hp → Prop, (∀ σ' H', N σ' H' → ∃ m', m' < m ∧ U (i + 1) m' σ' H') ∧ ∀ x H', J.yld i H x H' → gT K t x σ H' fun σ2 H2 => tS K ca G W s { D with nx := N, ct := N, bk := D.nx } σ2 H2) := by
  have mono : ∀ a, (∃ j, a ∈ own j) → PAll P0 own [] a := fun a z => .inr (.inl z)
  refine for_it w.walk (fun i σ Hh => ∃ δ own', SEnv K ca H1 P0 (fun a => ∃ j, a ∈ own j) δ σ Hh [] [] own' [] ∧ OutP K ca W H1 P0 (fun a => ∃ j, a ∈ own j) D (forL (exec G s) t (xs.drop i) δ))
    ⟨δ, own, b.rebase, OutP.rebase b h⟩ (fun i σ Hh hi ⟨δ, own', b', h'⟩ => w.keep _ rs Hh (b'.exo.mono mono)) (fun i x σ Hh Hh' hi ⟨δ, own', b', h'⟩ y => ?_) (fun σ Hh ⟨δ, own', b', h'⟩ => ?_)
  · obtain ⟨x2, d, hd, rd⟩ := w.item _ rs i Hh x Hh' hi (b'.exo.mono mono) y
    have e : xs.drop i = d :: xs.drop (i + 1) := by
      obtain ⟨hl, he⟩ := List.getElem?_eq_some_iff.mp hd
      rw [← he]
      exact List.drop_eq_getElem_cons hl
    rw [e, forL] at h'
    have r1 : Reps K ca Hh' (PAll P0 own' []) [d] [x] [] := .cons (F := []) (F' := []) (rd _ fun a z => by
      rcases z with z | ⟨j, z⟩ | z
      · exact .inl (.inl z)
      · exact (b'.new j a z).imp (fun z => .inr (.inl z)) id
      · simp at z) .nil
    have bh : SEnv K ca H1 P0 (fun a => ∃ j, a ∈ own j) δ σ Hh' [d] [x] own' [] := { b'.ext x2 with hand := r1 }
    cases q : bindT t d δ with
    | none => rw [q] at h'; exact h'.elim
    | some δ1 =>
      rw [q] at h'
      dsimp only at h'
      refine sgT bh q fun σ2 own2 b2 => ⟨H1, P0, _, δ1, own2, b2, ?_⟩
      cases q2 : exec G s δ1 with
      | nx δ2 => rw [q2] at h'; exact fun σ3 H3 own3 b3 => ⟨δ2, own3, b3, h'⟩
      | ct δ2 => rw [q2] at h'; exact fun σ3 H3 own3 b3 => ⟨δ2, own3, b3, h'⟩
      | bk δ2 => rw [q2] at h'; exact h'
      | rt d => rw [q2] at h'; exact h'
      | er c δ2 => rw [q2] at h'; exact h'
      | st => rw [q2] at h'; exact h'
  · rw [List.drop_length, forL] at h'
    exact h' σ Hh own' b'
theorem items_er {k : ItK} {ds : List D} {c : String} : itemsF k ds ≠ .er c := by
  intro e2
  revert e2
  cases k <;> simp only [itemsF] <;> (try unfold seqF) <;> (try unfold chrF) <;> (try unfold rng1F) <;> (try unfold rng2F) <;> (try unfold rng3F) <;> (try unfold zipF) <;> (try unfold enumF) <;> (try unfold revF) <;> intro e2 <;> (try split at e2) <;> (try split at e2) <;> cases e2
theorem for_all {K : PySem.W.Frag} {D : Ends} {σ : L2.St} {H : Hp} {t : Tg} {k : ItK} {z : Option (List Nat)} {as' : E} (h : tS K ca G W (.for_ t k z as' s) D σ H) : tFor (tI K ca G W k as') (gT K t) (tS K ca G W s) D σ H := by
  obtain ⟨H0, P0, Mm, δ, own, b, h⟩ := h
  cases z with
  | none =>
    rw [exec] at h
    refine ⟨_, P0, b.benv, b.p1, ?_⟩
    cases q : evs G (shareE δ) as' with
    | st => rw [q] at h; exact h
    | er c => rw [q] at h; exact fun H' x => h σ H' own (b.ext x)
    | ok ds =>
      rw [q] at h
      simp only [Res.go] at h
      split at h
      · rename_i nf
        cases q2 : itemsF k ds with
        | st => rw [q2] at h; exact h.elim
        | er c => exact (items_er q2).elim
        | ok xs =>
          rw [q2] at h
          refine ⟨xs, q2, fun vs H1 F x n f r J Gd Y w => ?_⟩
          have b1 := b.ext x
          refine for_core b1 ((r.free (P' := fun a => PAll P0 own [] a ∨ a ∈ F) (fun a z => ?_) nf).shr (fun a z => .inl z) fun a m z => ?_) w h
          · rcases z with z | m
            · rcases z with z | ⟨j, z⟩ | z
              · exact .inl (.inl z)
              · exact .inr (.inr (b1.trk j a z))
              · simp at z
            · exact .inl (.inr m)
          · exact b.pall a z (f a m)
      · exact h.elim
  | some is =>
    rw [exec] at h
    obtain ⟨own', h1, _, b'⟩ := b.frz (is := is)
    refine ⟨_, _, b'.bmask h1, b'.pall, ?_⟩
    cases q : evs G (maskE is (frzAt is δ)) as' with
    | st => rw [q] at h; exact h
    | er c => rw [q] at h; exact fun H' x => h σ H' own (b.ext x)
    | ok ds =>
      rw [q] at h
      simp only [Res.go] at h
      cases q2 : itemsF k ds with
      | st => rw [q2] at h; exact h.elim
      | er c => exact (items_er q2).elim
      | ok xs =>
        rw [q2] at h
        exact ⟨xs, q2, fun vs H1 F x n f r J Gd Y w => for_core (b'.ext x) (r.shr (fun a z => .inl z) fun a m z => b'.pall a z (f a m)) w h⟩
theorem ss_for {tg iter : Expr} {body : List Stmt} {t : Tg} {k : ItK} {as' : E} (z : Option (List Nat)) (hp : PassesOwn (model X.prog X.w) X.A X.env X.xe) (hc : X.calm = true) (hi : SI X ca G W tg iter k as') (hg : PG X tg (gT X.K t)) (hb : SSs X ca G W body s)
    (hs : ∀ x, foldedSetIterable iter X.env x = pure x := by intro _; rfl) : SS X ca G W (.For tg iter body [] pos) (.for_ t k z as' s) :=
  PS.imp (ps_for hp hc hi hg hb hs) fun D σ H h => for_all h

/-! ## Lists changed -/
theorem own_of {δ : Env} {x : Nat} {k : List D → Out} {K : PySem.W.Frag} {H0 : Hp} {P0 Mm : Addr → Prop} {D : Ends} (h : OutP K ca W H0 P0 Mm D (ownAt δ x k)) : ∃ ds, δ[x]? = some (some (.lst true ds)) ∧ OutP K ca W H0 P0 Mm D (k ds) := by
  unfold ownAt at h
  split at h
  · rename_i ds e; exact ⟨ds, e, h⟩
  · exact h.elim
variable {x : Str} {i : Nat} {p apos pos2 : Pos}
theorem SEnv.ty {K : PySem.W.Frag} {H0 H : Hp} {P0 Mm : Addr → Prop} {δ : Env} {σ : L2.St} {ts : List D} {vs : List V} {own : Nat → List Addr} {F : List Addr} {ds : List D} (b : SEnv K ca H0 P0 Mm δ σ H ts vs own F) (h : δ[i]? = some (some (.lst true ds))) : ∃ a, σ[i]? = some (some (.ref a)) ∧ tyV K "list" (.ref a) H := by
  obtain ⟨a, ws, Fx, h1, h2, h3, h4⟩ := b.open_ h
  exact ⟨a, h1, .inl ⟨rfl, ws, .inl (.inl h3)⟩⟩
/-- the list's holder, read by its name -/
structure NmOk (X : Cx) (x : Str) (i : Nat) : Prop where
  hN : X.N[i]? = some x
  hv : Vis X.env.scope x
  hd : (x == ("__debug__" : Str)) = false
  hcd : (x == ("__classdict__" : Str)) = false
theorem NmOk.pe (n : NmOk X x i) : PE X (.Name x p) (tVar i) := pe_var n.hN n.hv n.hd n.hcd
theorem app_core {K : PySem.W.Frag} {D : Ends} {σ : L2.St} {H : Hp} (h : tS K ca G W (.app i m) D σ H) : tBM K "list" rAppend (tVar i) (tCons (tM K ca G W m) tNil) σ H fun _ H1 => D.nx σ H1 := by
  obtain ⟨H0, P0, Mm, δ, own, b, h⟩ := h
  rw [exec] at h
  obtain ⟨ds0, e0, h⟩ := own_of h
  obtain ⟨a0, hv, ty⟩ := b.ty e0
  refine ⟨_, hv, ty, ?_⟩
  refine go_M b h fun p v H' own' F' q x s h' => ?_
  obtain ⟨ds, e1, h'⟩ := own_of h'
  obtain ⟨a, ws, Fx, h1, h2, h3, h4⟩ := s.open_ e1
  rw [hv] at h1; cases h1
  split at h'
  · rename_i hl
    refine ⟨_, ws, v, rfl, rfl, h3, by rw [← h4.length, sizeLine_eq]; exact hl, ?_⟩
    have nx := s.nd i
    rw [h2] at nx
    have nn := List.nodup_cons.mp nx
    refine h' σ _ _ (s.put hv h2 h3 (h4.append s.hand) (nodup_app nn.2 s.fnd fun b m m' => s.fdj i b m' (by rw [h2]; exact List.mem_cons_of_mem _ m)) (fun b m => List.mem_append.mp m) .nil List.nodup_nil (by simp) (by simp))
  · exact h'.elim
theorem ss_app (n : NmOk X x i) (h : SM X ca G W e m)
    (hbase : attributeBase (.Name x p) "append" X.env (eval (.Name x p) X.env) = eval (.Name x p) X.env := by rfl)
    (hfew : ((backTo pos (starEach [e] X.env)).all (fun x => !x.1) && (backToKw pos (keywordEach [] X.env)).all (fun x => x.1.isSome) && decide ([e].length + ([] : List Keyword).length + (if ([] : List Keyword).isEmpty then 0 else 1) < 30)) = true := by rfl)
    (hline : (apos.endLine == pos.line) = true := by rfl) (hs : starEach [e] X.env = (false, eval e X.env) :: starEach [] X.env := by rfl) (hpl : (backTo pos (starEach [] X.env)).any (·.1) = false := by rfl) (hsw : swapsWith (.Call (.Attribute (.Name x p) "append" apos) [e] [] pos) none pos2.line X.env = pure false := by rfl) :
    SS X ca G W (.Expr (.Call (.Attribute (.Name x p) "append" apos) [e] [] pos) pos2) (.app i m) :=
  PS.imp (ps_expr (pe_bm PySem.F.plainAttrs_list PySem.F.slot_list_append PySem.F.type_list_append (mt_append (X := X)) n.pe (pa_cons h pa_nil hs) hbase hfew hline hs hpl) hsw) fun D σ H h => app_core h
theorem ext_core {K : PySem.W.Frag} {D : Ends} {σ : L2.St} {H : Hp} (h : tS K ca G W (.ext i m) D σ H) : tBM K "list" rExtend (tVar i) (tCons (tM K ca G W m) tNil) σ H fun _ H1 => D.nx σ H1 := by
  obtain ⟨H0, P0, Mm, δ, own, b, h⟩ := h
  rw [exec] at h
  obtain ⟨ds0, e0, h⟩ := own_of h
  obtain ⟨a0, hv, ty⟩ := b.ty e0
  refine ⟨_, hv, ty, ?_⟩
  refine go_M b h fun p v H' own' F' q x s h' => ?_
  obtain ⟨ds, e1, h'⟩ := own_of h'
  obtain ⟨a, ws, Fx, h1, h2, h3, h4⟩ := s.open_ e1
  rw [hv] at h1; cases h1
  obtain ⟨pd, pδ⟩ := p
  dsimp only at h' s
  split at h'
  · rename_i es
    split at h'
    · rename_i hl
      obtain ⟨v', ev, rh⟩ := reps1 s.hand
      cases ev
      generalize eF : F' = FF at rh
      cases rh with
      | @own a2 _ us F2 g1 g2 =>
        subst eF
        refine ⟨_, a2, ws, us, rfl, rfl, h3, g1, by rw [← h4.length, ← g2.length, sizeLine_eq]; exact hl, ?_⟩
        have nx := s.nd i
        rw [h2] at nx
        have nn := List.nodup_cons.mp nx
        have nf := List.nodup_cons.mp s.fnd
        exact h' σ _ _ (s.put hv h2 h3 (h4.append g2) (nodup_app nn.2 nf.2 fun b m m' => s.fdj i b (List.mem_cons_of_mem _ m') (by rw [h2]; exact List.mem_cons_of_mem _ m)) (fun b m => (List.mem_append.mp m).imp id fun m => List.mem_cons_of_mem _ m) .nil List.nodup_nil (by simp) (by simp))
    · exact h'.elim
  · exact h'.elim
theorem ss_ext (n : NmOk X x i) (h : SM X ca G W e m)
    (hbase : attributeBase (.Name x p) "extend" X.env (eval (.Name x p) X.env) = eval (.Name x p) X.env := by rfl)
    (hfew : ((backTo pos (starEach [e] X.env)).all (fun x => !x.1) && (backToKw pos (keywordEach [] X.env)).all (fun x => x.1.isSome) && decide ([e].length + ([] : List Keyword).length + (if ([] : List Keyword).isEmpty then 0 else 1) < 30)) = true := by rfl)
    (hline : (apos.endLine == pos.line) = true := by rfl) (hs : starEach [e] X.env = (false, eval e X.env) :: starEach [] X.env := by rfl) (hpl : (backTo pos (starEach [] X.env)).any (·.1) = false := by rfl) (hsw : swapsWith (.Call (.Attribute (.Name x p) "extend" apos) [e] [] pos) none pos2.line X.env = pure false := by rfl) :
    SS X ca G W (.Expr (.Call (.Attribute (.Name x p) "extend" apos) [e] [] pos) pos2) (.ext i m) :=
  PS.imp (ps_expr (pe_bm PySem.F.plainAttrs_list PySem.F.slot_list_extend PySem.F.type_list_extend (mt_extend (X := X)) n.pe (pa_cons h pa_nil hs) hbase hfew hline hs hpl) hsw) fun D σ H h => ext_core h
theorem clr_core {K : PySem.W.Frag} {D : Ends} {σ : L2.St} {H : Hp} (h : tS K ca G W (.clr i) D σ H) : tBM0 K "list" rClear (tVar i) σ H fun _ H1 => D.nx σ H1 := by
  obtain ⟨H0, P0, Mm, δ, own, b, h⟩ := h
  rw [exec] at h
  obtain ⟨ds0, e0, h⟩ := own_of h
  obtain ⟨a0, hv, ty⟩ := b.ty e0
  obtain ⟨a, ws, Fx, h1, h2, h3, h4⟩ := b.open_ e0
  rw [hv] at h1; cases h1
  exact ⟨_, hv, ty, _, ws, rfl, rfl, h3, h σ _ _ (b.put hv h2 h3 .nil List.nodup_nil (by simp) .nil List.nodup_nil (by simp) (by simp))⟩
theorem ss_clr (n : NmOk X x i) (hbase : attributeBase (.Name x p) "clear" X.env (eval (.Name x p) X.env) = eval (.Name x p) X.env := by rfl) (hline : (apos.endLine == pos.line) = true := by rfl) (hsw : swapsWith (.Call (.Attribute (.Name x p) "clear" apos) [] [] pos) none pos2.line X.env = pure false := by rfl) :
    SS X ca G W (.Expr (.Call (.Attribute (.Name x p) "clear" apos) [] [] pos) pos2) (.clr i) :=
  PS.imp (ps_expr (pe_bm0 PySem.F.plainAttrs_list PySem.F.slot_list_clear PySem.F.type_list_clear (mt_clear (X := X)) n.pe hbase hline) hsw) fun D σ H h => clr_core h
theorem rvs_core {K : PySem.W.Frag} {D : Ends} {σ : L2.St} {H : Hp} (h : tS K ca G W (.rvs i) D σ H) : tBM0 K "list" rReverse (tVar i) σ H fun _ H1 => D.nx σ H1 := by
  obtain ⟨H0, P0, Mm, δ, own, b, h⟩ := h
  rw [exec] at h
  obtain ⟨ds0, e0, h⟩ := own_of h
  obtain ⟨a0, hv, ty⟩ := b.ty e0
  obtain ⟨a, ws, Fx, h1, h2, h3, h4⟩ := b.open_ e0
  rw [hv] at h1; cases h1
  obtain ⟨Gf, g1, g2, g3⟩ := h4.rev
  have nx := b.nd i
  rw [h2] at nx
  exact ⟨_, hv, ty, _, ws, rfl, rfl, h3, h σ _ _ (b.put hv h2 h3 g1 (g3 (List.nodup_cons.mp nx).2) (fun b m => .inl ((g2 b).mp m)) .nil List.nodup_nil (by simp) (by simp))⟩
theorem ss_rvs (n : NmOk X x i) (hbase : attributeBase (.Name x p) "reverse" X.env (eval (.Name x p) X.env) = eval (.Name x p) X.env := by rfl) (hline : (apos.endLine == pos.line) = true := by rfl) (hsw : swapsWith (.Call (.Attribute (.Name x p) "reverse" apos) [] [] pos) none pos2.line X.env = pure false := by rfl) :
    SS X ca G W (.Expr (.Call (.Attribute (.Name x p) "reverse" apos) [] [] pos) pos2) (.rvs i) :=
  PS.imp (ps_expr (pe_bm0 PySem.F.plainAttrs_list PySem.F.slot_list_reverse PySem.F.type_list_reverse (mt_reverse (X := X)) n.pe hbase hline) hsw) fun D σ H h => rvs_core h
/-- the last thing of a list is taken -/
theorem pop_open {K : PySem.W.Frag} {H0 H : Hp} {P0 Mm : Addr → Prop} {δ : Env} {σ : L2.St} {own : Nat → List Addr} {ds : List D} {d : D} (b : SEnv K ca H0 P0 Mm δ σ H [] [] own []) (e : δ[i]? = some (some (.lst true ds))) (hd : ds.getLast? = some d) :
    ∃ a ws v own' F', σ[i]? = some (some (.ref a)) ∧ tyV K "list" (.ref a) H ∧ H a = some (.lst ws) ∧ ws[ws.length - 1]? = some v ∧ SEnv K ca H0 P0 Mm (δ.set i (some (.lst true ds.dropLast))) σ (upd H a (.lst ws.dropLast)) [d] [v] own' F' := by
  obtain ⟨a0, hv, ty⟩ := b.ty e
  obtain ⟨a, ws, Fx, h1, h2, h3, h4⟩ := b.open_ e
  rw [hv] at h1; cases h1
  have ed : ds = ds.dropLast ++ [d] := by
    obtain ⟨ys, ey⟩ := List.getLast?_eq_some_iff.mp hd
    rw [ey, List.dropLast_concat]
  have h5 := h4
  rw [ed] at h5
  obtain ⟨vs, us, F1, F2, e1, e2, r1, r2⟩ := h5.split
  obtain ⟨v, eu, rv⟩ := reps1 r2
  subst eu
  have nx := b.nd i
  rw [h2] at nx
  have nn := (List.nodup_cons.mp nx).2
  rw [e2] at nn
  have na := List.nodup_append.mp nn
  have ews : ws.dropLast = vs := by rw [e1, List.dropLast_concat]
  refine ⟨a0, ws, v, setO own i (a0 :: F1), F2, hv, ty, h3, ?_, ?_⟩
  · rw [e1]; simp
  · rw [ews]
    exact b.put hv h2 h3 r1 na.1 (fun b m => .inl (by rw [e2]; exact List.mem_append_left _ m)) r2 na.2.1 (fun b m => .inl (by rw [e2]; exact List.mem_append_right _ m)) fun b m m' => na.2.2 b m b m' rfl
theorem pop_core {K : PySem.W.Frag} {D : Ends} {σ : L2.St} {H : Hp} {t : Tg} (h : tS K ca G W (.pop t i) D σ H) : tBM0 K "list" rPop (tVar i) σ H fun v H1 => gT K t v σ H1 D.nx := by
  obtain ⟨H0, P0, Mm, δ, own, b, h⟩ := h
  rw [exec] at h
  obtain ⟨ds, e, h⟩ := own_of h
  cases q : ds.getLast? with
  | none => rw [q] at h; exact h.elim
  | some d =>
    rw [q] at h
    obtain ⟨a, ws, v, own', F', hv, ty, h3, h4, b'⟩ := pop_open b e q
    exact ⟨_, hv, ty, a, ws, v, rfl, rfl, h3, h4, bindG_ok b' h⟩
theorem ss_pop {tg : Expr} {t : Tg} (n : NmOk X x i) (hg : PG X tg (gT X.K t)) (hbase : attributeBase (.Name x p) "pop" X.env (eval (.Name x p) X.env) = eval (.Name x p) X.env := by rfl) (hline : (apos.endLine == pos.line) = true := by rfl)
    (hs : swapsWithSole [tg] (.Call (.Attribute (.Name x p) "pop" apos) [] [] pos) pos2.line X.env = pure false := by rfl) (hw : swappedStores [tg] (.Call (.Attribute (.Name x p) "pop" apos) [] [] pos) X.env = pure none := by rfl)
    (h1 : (assignEach [tg] X.env).map (·.2) = [assign tg X.env] := by rfl) :
    SS X ca G W (.Assign [tg] (.Call (.Attribute (.Name x p) "pop" apos) [] [] pos) pos2) (.pop t i) :=
  PS.imp (ps_asg (pe_bm0 PySem.F.plainAttrs_list PySem.F.slot_list_pop PySem.F.type_list_pop (mt_pop (X := X)) n.pe hbase hline) hg hs hw h1) fun D σ H h => pop_core h
theorem drp_core {K : PySem.W.Frag} {D : Ends} {σ : L2.St} {H : Hp} (h : tS K ca G W (.drp i) D σ H) : tBM0 K "list" rPop (tVar i) σ H fun _ H1 => D.nx σ H1 := by
  obtain ⟨H0, P0, Mm, δ, own, b, h⟩ := h
  rw [exec] at h
  obtain ⟨ds, e, h⟩ := own_of h
  split at h
  · exact h.elim
  · rename_i hl
    cases q : ds.getLast? with
    | none => rw [List.getLast?_eq_none_iff] at q; rw [q] at hl; exact (hl rfl).elim
    | some d =>
      obtain ⟨a, ws, v, own', F', hv, ty, h3, h4, b'⟩ := pop_open b e q
      exact ⟨_, hv, ty, a, ws, v, rfl, rfl, h3, h4, h σ _ _ b'.nohand⟩
theorem ss_drp (n : NmOk X x i) (hbase : attributeBase (.Name x p) "pop" X.env (eval (.Name x p) X.env) = eval (.Name x p) X.env := by rfl) (hline : (apos.endLine == pos.line) = true := by rfl) (hsw : swapsWith (.Call (.Attribute (.Name x p) "pop" apos) [] [] pos) none pos2.line X.env = pure false := by rfl) :
    SS X ca G W (.Expr (.Call (.Attribute (.Name x p) "pop" apos) [] [] pos) pos2) (.drp i) :=
  PS.imp (ps_expr (pe_bm0 PySem.F.plainAttrs_list PySem.F.slot_list_pop PySem.F.type_list_pop (mt_pop (X := X)) n.pe hbase hline) hsw) fun D σ H h => drp_core h

/-! ## xs[i] = .. -/
theorem seti_core {K : PySem.W.Frag} {D : Ends} {σ : L2.St} {H : Hp} (h : tS K ca G W (.seti i e' m) D σ H) : tM K ca G W m σ H fun v H1 => gSub (tVar i) (tE K ca G W e') rSetL v σ H1 D.nx := by
  obtain ⟨H0, P0, Mm, δ, own, b, h⟩ := h
  rw [exec] at h
  refine go_M b h fun p v H' own' F' q x s h' => ?_
  obtain ⟨ds, e1, h'⟩ := own_of h'
  obtain ⟨a, hv, ty⟩ := s.ty e1
  refine ⟨_, hv, ?_⟩
  refine go_E2 s h' (fun H2 x2 => (s.ext x2).nohand) fun d u H2 F1 x2 r s2 h2 => ?_
  split at h2
  · rename_i d j
    cases r
    split at h2
    · rename_i k hk
      obtain ⟨a', ws, Fx, g1, g2, g3, g4⟩ := s2.open_ e1
      rw [hv] at g1; cases g1
      obtain ⟨v', ev, rh⟩ := reps1 s2.hand
      cases ev
      have hkl : k < ds.length := (ixN_seq hk).2.1
      obtain ⟨A1, A2, A3, ea, ra⟩ := Reps.set rh g4 hkl
      have nx := s2.nd i
      rw [g2] at nx
      have nn := (List.nodup_cons.mp nx).2
      rw [ea] at nn
      have na := List.nodup_append.mp nn
      have nb := List.nodup_append.mp na.2.1
      have inx : ∀ b ∈ Fx, b ∈ own' i := fun b m => by rw [g2]; exact List.mem_cons_of_mem _ m
      refine ⟨_, ws, j, k, rfl, rfl, g3, by rw [← g4.length]; exact hk, ?_⟩
      refine h2 σ _ _ (s2.put hv g2 g3 ra ?_ (fun b m => ?_) .nil List.nodup_nil (by simp) (by simp))
      · refine nodup_app na.1 (nodup_app s2.fnd nb.2.1 fun b m m' => s2.fdj i b m (inx b ?_)) fun b m m' => ?_
        · rw [ea]; exact List.mem_append_right _ (List.mem_append_right _ m')
        · rcases List.mem_append.mp m' with m' | m'
          · exact s2.fdj i b m' (inx b (by rw [ea]; exact List.mem_append_left _ m))
          · exact na.2.2 b m b (List.mem_append_right _ m') rfl
      · rcases List.mem_append.mp m with m | m
        · exact .inl (by rw [ea]; exact List.mem_append_left _ m)
        · rcases List.mem_append.mp m with m | m
          · exact .inr m
          · exact .inl (by rw [ea]; exact List.mem_append_right _ (List.mem_append_right _ m))
    · exact h2.elim
  · exact h2.elim
theorem ss_seti {ix : Expr} {spos : Pos} (n : NmOk X x i) (hi : SE X ca G W ix e') (h : SM X ca G W e m)
    (ha : ∀ v, assign (.Subscript (.Name x p) ix spos) X.env v = (do
      let ov ← holding [v] (eval (.Name x p) X.env)
      let iv ← holding [v, ov] (eval ix X.env)
      standAt spos
      holding [v, ov, iv] (setItem ov iv v)
      release [v, ov, iv] []) := by intro _; rfl)
    (hs : swapsWithSole [.Subscript (.Name x p) ix spos] e pos.line X.env = pure false := by rfl) (hw : swappedStores [.Subscript (.Name x p) ix spos] e X.env = pure none := by rfl)
    (h1 : (assignEach [.Subscript (.Name x p) ix spos] X.env).map (·.2) = [assign (.Subscript (.Name x p) ix spos) X.env] := by rfl) :
    SS X ca G W (.Assign [.Subscript (.Name x p) ix spos] e pos) (.seti i e' m) :=
  PS.imp (ps_asg h (pg_sub n.pe hi set_list ha) hs hw h1) fun D σ H h => seti_core h
end
end Ev
namespace Ev
open PySem L2

/-! ## Raise, op= -/
section
variable {X : Cx} {ca : String → Option Addr} {G : Gam} {W : WE} {pos : Pos}
/-- an exception class of the program, without own __init__ -/
structure ExB' (K : PySem.W.Frag) (mg : Str → Option Value) (ca : String → Option Addr) (c : String) (x : Str) : Prop where
  ex : ∃ (C : Addr) (bmB : List Value) (B newId initId : String), ca c = some C ∧ ExcBaseFacts B newId initId bmB ∧ PySem.W.excIn K C bmB newId = true ∧ mg x = some (.ref C) ∧ PySem.W.keepIn K (.ref C) = true ∧
    PySem.W.subIn K (.ref C) (.type "BaseException") = some true ∧ PySem.W.typeIn K (.ref C) = some (.type "type")
theorem raise_core {c : String} {x m : Str} {j : Nat} {p p2 p3 : Pos} (hc : X.calm = true) (F : ExB' X.K X.mg ca c x) (tk : Takes X (wx ca W)) (hg : Gl X x := by rfl) (hdb : (x == ("__debug__" : Str)) = false := by decide) :
    PS X (.Raise (some (.Call (.Name x p) [.Constant (.str m) j p2] [] p3)) none pos) (fun _ σ H => W c σ H) := by
  obtain ⟨C, bmB, B, n, i, h0, h1, h2, h3, h4, h5, h6⟩ := F.ex
  exact PS.imp (ps_raise hc tk (pmk_own h1 h2 h3 h4 (raises_own h5 h6) hg hdb)) fun D σ H h => ⟨c, C, h0, rfl, rfl, h⟩
theorem ss_raise {c : String} {x m : Str} {j : Nat} {p p2 p3 : Pos} (hc : X.calm = true) (F : ExB' X.K X.mg ca c x) (tk : Takes X (wx ca W)) (hg : Gl X x := by rfl) (hdb : (x == ("__debug__" : Str)) = false := by decide) :
    SS X ca G W (.Raise (some (.Call (.Name x p) [.Constant (.str m) j p2] [] p3)) none pos) (.rse c) :=
  PS.imp (raise_core hc F tk hg hdb) fun D σ H ⟨H0, P0, Mm, δ, own, b, h⟩ => by
    rw [exec] at h
    exact h σ H own b
theorem SEnv.put0 {K : PySem.W.Frag} {H0 H : Hp} {P0 Mm : Addr → Prop} {δ : Env} {σ : L2.St} {own : Nat → List Addr} {d : D} {v : V} (s : SEnv K ca H0 P0 Mm δ σ H [] [] own []) (i : Nat) (r : Rep K ca H (PAll P0 own []) d v []) : ∃ own', SEnv K ca H0 P0 Mm (δ.set i (some d)) (σ.set i (some v)) H [] [] own' [] := by
  have b : SEnv K ca H0 P0 Mm δ σ H [d] [v] own [] := { s with hand := .cons (F := []) (F' := []) r .nil }
  obtain ⟨F1, F2, _, s1⟩ := b.take i
  have h2 := s1.hand
  cases h2
  exact ⟨_, s1⟩
theorem aug_core {K : PySem.W.Frag} {D : Ends} {σ : L2.St} {H : Hp} {i : Nat} {e' : E} {op : Bop} {r : R2} (hd : ∀ (a b : Int) (H : Hp) (Q : VK) (x : Ev.D), binF op (.int a) (.int b) = .ok x → (∀ v, Rep K ca H (fun _ => False) x v [] → Q v H) → r (.int a) (.int b) H Q)
    (hn : ∀ a b c, binF op (.int a) (.int b) ≠ .er c) (hs : ∀ x y, binF op (.str x) (.str y) = .st) (hi : ∀ a b x, binF op (.int a) (.int b) = .ok x → ∃ n, x = .int n)
    (h : tS K ca G W (.aug i op e') D σ H) : tAug i (tE K ca G W e') r D σ H := by
  obtain ⟨H0, P0, Mm, δ, own, b, h⟩ := h
  rw [exec] at h
  split at h
  · rename_i a e1
    obtain ⟨v, h1, h2⟩ := b.rep i _ e1
    generalize own i = Fo at h2
    cases h2
    refine ⟨_, h1, go_E b h fun d v H' F x r' b' h' => ?_⟩
    split at h'
    · rename_i d j
      cases r'
      cases q : binF op (.int a) (.int j) with
      | st => rw [q] at h'; exact h'.elim
      | er c => exact (hn _ _ _ q).elim
      | ok y =>
        rw [q] at h'
        obtain ⟨n, rfl⟩ := hi _ _ _ q
        refine hd a j H' _ _ q fun v rv => ?_
        cases rv
        obtain ⟨own', s'⟩ := b'.put0 i (.int n)
        exact h' _ _ _ s'
    · exact h'.elim
  · rename_i a e1
    obtain ⟨v, h1, h2⟩ := b.rep i _ e1
    generalize own i = Fo at h2
    cases h2
    refine ⟨_, h1, go_E b h fun d v H' F x r' b' h' => ?_⟩
    split at h'
    · rw [hs] at h'; exact h'.elim
    · exact h'.elim
  · exact h.elim
theorem ss_augSub {i : Nat} {x : Str} {e : Expr} {e' : E} {pos' : Pos} (hN : X.N.Nodup) (he : SE X ca G W e e') (hi : X.N[i]? = some x := by rfl) (hx : Loc X.env.scope x := by first | exact Or.inl rfl | exact Or.inr rfl)
    (hf : X.fn x = true ∨ X.env.scope.names.lookup x = some .local := by first | exact .inl rfl | exact .inr rfl) : SS X ca G W (.AugAssign (.Name x pos') .Sub e pos) (.aug i .sub e') :=
  PS.imp (ps_aug (ti := rI0 fun i j => .int (i - j)) hN hi hx he iop_sub hf) fun D σ H h => aug_core (r := rI0 fun i j => .int (i - j)) (fun a b H Q x e k => ⟨a, b, rfl, rfl, k _ (by cases e; exact .int _)⟩) (fun a b c z => by cases z) (fun x y => rfl) (fun a b x e => ⟨_, by cases e; rfl⟩) h
/-! ## name += e, of ints -/
theorem add_core {K : PySem.W.Frag} {D : Ends} {σ : L2.St} {H : Hp} {i : Nat} {e' : E} (h : tS K ca G W (.aug i .add e') D σ H) :
    tAug i (tE K ca G W e') (fun x y H Q => rI0 (fun i j => .int (i + j)) x y H Q ∨ (∃ i j, x = .str i ∧ y = .str j ∧ i.length + j.length ≤ sizeLine ∧ Q (.str (i ++ j)) H)) D σ H := by
  obtain ⟨H0, P0, Mm, δ, own, b, h⟩ := h
  rw [exec] at h
  split at h
  · rename_i a e1
    obtain ⟨v, h1, h2⟩ := b.rep i _ e1
    generalize own i = Fo at h2
    cases h2
    refine ⟨_, h1, go_E b h fun d v H' F x r' b' h' => ?_⟩
    split at h'
    · rename_i d j
      cases r'
      obtain ⟨own', s'⟩ := b'.put0 i (.int (a + j))
      exact .inl ⟨_, _, rfl, rfl, h' _ _ _ s'⟩
    · exact h'.elim
  · rename_i a e1
    obtain ⟨v, h1, h2⟩ := b.rep i _ e1
    generalize own i = Fo at h2
    cases h2
    refine ⟨_, h1, go_E b h fun d v H' F x r' b' h' => ?_⟩
    split at h'
    · rename_i d j
      cases r'
      simp only [binF] at h'
      split at h'
      · rename_i hl
        obtain ⟨own', s'⟩ := b'.put0 i (.str (a ++ j))
        exact .inr ⟨_, _, rfl, rfl, by rw [sizeLine_eq]; exact hl, h' _ _ _ s'⟩
      · exact h'.elim
    · exact h'.elim
  · exact h.elim
theorem ss_aug {i : Nat} {x : Str} {e : Expr} {e' : E} {pos' : Pos} (hN : X.N.Nodup) (he : SE X ca G W e e') (hi : X.N[i]? = some x := by rfl) (hx : Loc X.env.scope x := by first | exact Or.inl rfl | exact Or.inr rfl)
    (hf : X.fn x = true ∨ X.env.scope.names.lookup x = some .local := by first | exact .inl rfl | exact .inr rfl) : SS X ca G W (.AugAssign (.Name x pos') .Add e pos) (.aug i .add e') :=
  PS.imp (ps_aug hN hi hx he (fun pins s σ H x y v u Q I r1 r2 h => h.elim (iop_add pins s σ H x y v u Q I r1 r2) (iop_add_str pins s σ H x y v u Q I r1 r2)) hf) fun D σ H h => add_core h
end

/-! ## __init__ -/
inductive I where
  | chk (c : E) (e : String) | sup (fk : String) (as : E) | setf (f : String) (e : E)
def exN (G : Gam) (δ : Env) (c : String) : List I → List String → List D → Res (List String × List D)
  | [], ns, ds => .ok (ns, ds)
  | .chk t e :: r, ns, ds => (ev G δ t).bind fun d => match d with | .bl true => .er e | .bl false => exN G δ c r ns ds | _ => .st
  | .sup fk as :: r, ns, ds => (evs G δ as).bind fun xs => (G.cf fk (.obj c ns ds :: shares xs)).bind fun o => match o with
    | .obj c' ns' ds' => if c' = c then exN G δ c r ns' ds' else .st
    | _ => .st
  | .setf f e :: r, ns, ds => (ev G δ e).bind fun d => if ((G.ci c).any fun i => i.fields.contains f) && !ns.contains f && decide (ns.length < 900) then exN G δ c r (ns ++ [f]) (ds ++ [share d]) else .st
def OutN (K : PySem.W.Frag) (ca : String → Option Addr) (W : WE) (H0 : Hp) (P0 : Addr → Prop) (x C dx : Addr) (σ : L2.St) (D : Ends) : Res (List String × List Ev.D) → Prop
  | .ok p => ∀ H' ws', ExB x H0 H' → H' x = some (.ins C dx (fieldsOf p.1 ws')) → ObjI K C p.1 p.2 → Reps K ca H' P0 p.2 ws' [] → D.nx σ H'
  | .er e => ∀ H' fs', ExB x H0 H' → H' x = some (.ins C dx fs') → W e σ H'
  | .st => False
structure IEnv (K : PySem.W.Frag) (ca : String → Option Addr) (H0 : Hp) (P0 : Addr → Prop) (x C dx : Addr) (c : String) (δ : Env) (σ : L2.St) (H : Hp) (ns : List String) (xs : List D) (ws : List V) : Prop where
  env : BEnv K ca δ σ H P0
  self : σ[0]? = some (some (.ref x))
  cls : ca c = some C
  at_ : H x = some (.ins C dx (fieldsOf ns ws))
  ok : ObjI K C ns xs
  reps : Reps K ca H P0 xs ws []
  px : P0 x
  trk : Trk P0 H
  exb : ExB x H0 H
def tN (K : PySem.W.Frag) (ca : String → Option Addr) (G : Gam) (W : WE) (i : List I) : TS := fun D σ H => ∃ H0 P0 δ x C dx c ns xs ws, IEnv K ca H0 P0 x C dx c δ σ H ns xs ws ∧ OutN K ca W H0 P0 x C dx σ D (exN G δ c i ns xs)
/-- the fields of the classes are none of theirs -/
structure FdB (K : PySem.W.Frag) (ca : String → Option Addr) (G : Gam) : Prop where
  ok : ∀ c C i f, ca c = some C → G.ci c = some i → f ∈ i.fields → NoAttr K C (Str.ofString f)
/-- the class at x and its __init__, called by an heir -/
structure SupB (P : Program) (w : World) (K : PySem.W.Frag) (mg : Str → Option Value) (base : Heap) (ca : String → Option Addr) (cf : List D → Res D) (x : Str) (k : Nat) : Prop where
  ex : ∃ C f fd ps, mg x = some (.ref C) ∧ PySem.W.specialIn K (.ref C) "__getattribute__" = some (some (.builtin "type.__getattribute__")) ∧ PySem.W.readsIn K C (.type "type") = true ∧ PySem.W.findCls K (.ref C) (.type "type") "__init__" = some (.val (.ref f)) ∧
    FnOk P w K mg base (L2.CX P w) k f fd ps (spN K ca cf ps.length) ∧ PySem.W.keepIn K (.ref f) = true ∧ Binds K fd ps [] ∧ ∀ ds, cf ds ≠ .st → ds.length = ps.length
theorem ExB.exo {x : Addr} {H H' : Hp} {P : Addr → Prop} {C dx : Addr} {fs : List (Str × V)} (e : ExB x H H') (h : H x = some (.ins C dx fs)) (p : P x) : ExO P H H' := fun a o ha q => by
  by_cases z : a = x
  · subst z
    rw [h] at ha; cases ha
    rcases q with q | q
    · exact (q p).elim
    · cases q
  · exact e a o z ha
theorem ExB.trans {x : Addr} {H H1 H2 : Hp} (a : ExB x H H1) (b : ExB x H1 H2) : ExB x H H2 := fun y o n h => b y o n (a y o n h)
theorem ExB.trk {x : Addr} {H H' : Hp} {P : Addr → Prop} {o : HO} (e : ExB x H H') (t : Trk P H) (h : H' x = some o) : Trk P H' := fun a p n => by
  by_cases z : a = x
  · rw [z, h] at n; cases n
  · cases q : H a with
    | none => exact t a p q
    | some o => rw [e a o z q] at n; cases n
section
variable {K : PySem.W.Frag} {ca : String → Option Addr} {H0 H H' : Hp} {P0 : Addr → Prop} {x C dx : Addr} {c : String} {δ : Env} {σ : L2.St} {ns : List String} {xs : List D} {ws : List V}
theorem IEnv.ext (s : IEnv K ca H0 P0 x C dx c δ σ H ns xs ws) (e : Ex H H') : IEnv K ca H0 P0 x C dx c δ σ H' ns xs ws :=
  ⟨s.env.ext e, s.self, s.cls, e _ _ s.at_, s.ok, s.reps.ext e, s.px, s.trk.ext e, fun a o n h => e a o (s.exb a o n h)⟩
/-- the instance is another one behind -/
theorem IEnv.step {ns' : List String} {xs' : List D} {ws' : List V} (s : IEnv K ca H0 P0 x C dx c δ σ H ns xs ws) (e : ExB x H H') (h : H' x = some (.ins C dx (fieldsOf ns' ws'))) (o : ObjI K C ns' xs') (r : Reps K ca H' P0 xs' ws' []) : IEnv K ca H0 P0 x C dx c δ σ H' ns' xs' ws' :=
  ⟨⟨s.env.len, fun i d q => let ⟨v, h1, h2⟩ := s.env.at_ i d q; ⟨v, h1, h2.exo (e.exo s.at_ s.px) (fun a z => .inl z) rfl⟩⟩, s.self, s.cls, h, o, r, s.px, e.trk s.trk h, s.exb.trans e⟩
theorem put_new {f : Str} {v : V} : ∀ {fs : List (Str × V)}, (∀ g ∈ fs.map (·.1), g ≠ f) → putF f v fs = fs ++ [(f, v)]
  | [], _ => rfl
  | (g, y) :: r, h => by
    rw [putF, if_neg (h g (by simp)), put_new fun z m => h z (by simp at m ⊢; exact .inr m)]
    rfl
theorem zip_snoc {α β : Type} : ∀ {a : List α} {b : List β} {x : α} {y : β}, a.length = b.length → (a ++ [x]).zip (b ++ [y]) = a.zip b ++ [(x, y)]
  | [], [], _, _, _ => rfl
  | _ :: _, _ :: _, _, _, h => by simp only [List.cons_append, List.zip_cons_cons]; rw [zip_snoc (by simpa using h)]
  | [], _ :: _, _, _, h => by simp at h
  | _ :: _, [], _, _, h => by simp at h
theorem fields_put {f : String} {v : V} (hl : ns.length = ws.length) (hn : f ∉ ns) : putF (Str.ofString f) v (fieldsOf ns ws) = fieldsOf (ns ++ [f]) (ws ++ [v]) := by
  rw [put_new]
  · unfold fieldsOf
    rw [List.map_append]
    exact (zip_snoc (by simpa using hl)).symm
  · intro g m e
    unfold fieldsOf at m
    rw [List.map_fst_zip (by simp [hl])] at m
    obtain ⟨n, hm, en⟩ := List.mem_map.mp m
    exact hn (ofString_inj (en.trans e) ▸ hm)
end
section
variable {X : Cx} {ca : String → Option Addr} {G : Gam} {W : WE} {pos p p2 p3 apos : Pos} {sts : List Stmt} {r : List I}
theorem sn_nil : PSs X [] (tN X.K ca G W []) := PSs.imp pss_nil fun D σ H ⟨H0, P0, δ, x, C, dx, c, ns, xs, ws, s, h⟩ => by
  rw [exN] at h
  exact h H ws s.exb s.at_ s.ok s.reps
theorem sn_doc {y : Str} {j : Nat} (h : PSs X sts (tN X.K ca G W r)) : PSs X (.Expr (.Constant (.str y) j p) pos :: sts) (tN X.K ca G W r) := PSs.imp (pss_cons ps_doc h) fun D σ H q => q
theorem sn_chk {t : Expr} {t' : E} {e : String} {y m : Str} {j : Nat} {pr p4 : Pos} (hc : X.calm = true) (F : ExB' X.K X.mg ca e y) (tk : Takes X (wx ca W)) (ht : STt X ca G W t t') (h : PSs X sts (tN X.K ca G W r)) (hg : Gl X y := by rfl) (hdb : (y == ("__debug__" : Str)) = false := by decide) :
    PSs X (.If t [.Raise (some (.Call (.Name y p) [.Constant (.str m) j p2] [] p3)) none pr] [] p4 :: sts) (tN X.K ca G W (.chk t' e :: r)) := by
  refine PSs.imp (pss_cons (ps_if ht (pss_one (raise_core hc F tk hg hdb)) pss_nil) h) fun D σ H ⟨H0, P0, δ, x, C, dx, c, ns, xs, ws, s, h⟩ => ?_
  rw [exN] at h
  refine ⟨δ, P0, s.env, s.trk, ?_⟩
  cases q : ev G δ t' with
  | st => rw [q] at h; exact h
  | er c => rw [q] at h; exact fun H' ex => h H' _ (s.ext ex).exb (s.ext ex).at_
  | ok d =>
    rw [q] at h
    cases d with
    | bl b =>
      intro H' ex
      cases b with
      | true => rw [if_pos rfl]; exact h H' _ (s.ext ex).exb (s.ext ex).at_
      | false => rw [if_neg Bool.false_ne_true]; exact ⟨H0, P0, δ, x, C, dx, c, ns, xs, ws, s.ext ex, h⟩
    | _ => exact h.elim
theorem sn_setf {f : String} {fs : Str} {value : Expr} {e' : E} {pos' : Pos} {ys : Str} (FB : FdB X.K ca G) (he : SE X ca G W value e') (h : PSs X sts (tN X.K ca G W r)) (hfs : fs = Str.ofString f := by rfl) (hN : X.N[0]? = some ys := by rfl) (hv : Vis X.env.scope ys := by first | exact Or.inl rfl | exact Or.inr (Or.inl rfl) | exact Or.inr (Or.inr rfl))
    (hd : (ys == ("__debug__" : Str)) = false := by decide) (hcd : (ys == ("__classdict__" : Str)) = false := by decide) (hs : swapsWith value (some (.Attribute (.Name ys p) fs pos')) pos.line X.env = pure false := by rfl) :
    PSs X (.Assign [.Attribute (.Name ys p) fs pos'] value pos :: sts) (tN X.K ca G W (.setf f e' :: r)) := by
  subst hfs
  refine PSs.imp (pss_cons (ps_fld (pe_var hN hv hd hcd) he hs) h) fun D σ H ⟨H0, P0, δ, x, C, dx, c, ns, xs, ws, s, h⟩ => ?_
  rw [exN] at h
  refine ⟨δ, P0, s.env, s.trk, ?_⟩
  cases q : ev G δ e' with
  | st => rw [q] at h; exact h
  | er c => rw [q] at h; exact fun H' ex => h H' _ (s.ext ex).exb (s.ext ex).at_
  | ok d =>
    rw [q] at h
    simp only [Res.bind] at h
    split at h
    · rename_i cc
      simp only [Bool.and_eq_true, Bool.not_eq_true', decide_eq_true_eq] at cc
      obtain ⟨⟨c1, c2⟩, c3⟩ := cc
      intro v H1 F ex n fr rv
      have s1 := s.ext ex
      have hl : ns.length = ws.length := s.ok.len.trans s.reps.length
      have nm : f ∉ ns := by simpa using c2
      obtain ⟨i, hi, hf⟩ : ∃ i, G.ci c = some i ∧ f ∈ i.fields := by
        cases q : G.ci c with
        | none => rw [q] at c1; cases c1
        | some i => rw [q] at c1; exact ⟨i, rfl, by simpa using c1⟩
      have na := FB.ok c C i f s.cls hi hf
      refine ⟨_, s.self, x, C, dx, _, rfl, s1.at_, s.ok.cl, na, ?_, ?_⟩
      · unfold fieldsOf
        rw [List.length_zip, List.length_map, hl, Nat.min_self]
        omega
      · rw [fields_put hl nm]
        have ed : ExB x H1 (upd H1 x (.ins C dx (fieldsOf (ns ++ [f]) (ws ++ [v])))) := fun a o na ha => by rw [upd_ne na]; exact ha
        refine ⟨H0, P0, δ, x, C, dx, c, ns ++ [f], xs ++ [share d], ws ++ [v], s1.step ed upd_same ⟨s.ok.cl, ?_, ?_, ?_, ?_⟩ ?_, h⟩
        · intro g hg
          rcases List.mem_append.mp hg with m | m
          · exact s.ok.no g m
          · rw [List.mem_singleton.mp m]; exact na
        · rw [List.length_append, List.length_append, s.ok.len]; rfl
        · rw [List.length_append]; show ns.length + 1 < 1000; omega
        · exact List.nodup_append.mpr ⟨s.ok.nd, by simp, fun a m b m' e => nm (by rw [← List.mem_singleton.mp m', ← e]; exact m)⟩
        · have rd : Rep X.K ca H1 P0 (share d) v [] := rv.shr (fun a z => .inl z) (off_of s.trk fr)
          have r1 : Reps X.K ca H1 P0 [share d] [v] [] := .cons (F := []) (F' := []) rd .nil
          exact (s1.reps.append r1).updI s1.at_ s.px
    · exact h.elim
theorem sn_sup {fk : String} {y ys : Str} {e : Expr} {es : List Expr} {as' : E} {k : Nat} {pos2 : Pos} {pl : Sem Bool} (B : SupB X.prog X.w X.K X.mg X.base ca (G.cf fk) y k) (hr : Room k X.A) (eo : ErOk ca G) (tk : Takes X (wx ca W)) (ha : SA X ca G W (e :: es) as') (h : PSs X sts (tN X.K ca G W r))
    (hg : Gl X y := by rfl) (hdb : (y == ("__debug__" : Str)) = false := by decide) (hN : X.N[0]? = some ys := by rfl) (hv : Vis X.env.scope ys := by first | exact Or.inl rfl | exact Or.inr (Or.inl rfl) | exact Or.inr (Or.inr rfl)) (hd : (ys == ("__debug__" : Str)) = false := by decide) (hcd : (ys == ("__classdict__" : Str)) = false := by decide)
    (hst0 : starEach (.Name ys p2 :: e :: es) X.env = (false, eval (.Name ys p2) X.env) :: starEach (e :: es) X.env := by rfl) (hpl : (backTo pos (starEach (e :: es) X.env)).any (·.1) = false := by rfl)
    (ht : eval (.Call (.Attribute (.Name y p) "__init__" apos) (.Name ys p2 :: e :: es) [] pos) X.env = (do
      let ov ← eval (.Name y p) X.env
      standAt apos.atName
      let (f, first) ← holding [ov] (getMethod ov "__init__" pl)
      callWith pos f first (backTo pos (starEach (.Name ys p2 :: e :: es) X.env)) (backToKw pos (keywordEach [] X.env))) := by rfl)
    (hs : swapsWith (.Call (.Attribute (.Name y p) "__init__" apos) (.Name ys p2 :: e :: es) [] pos) none pos2.line X.env = pure false := by rfl) :
    PSs X (.Expr (.Call (.Attribute (.Name y p) "__init__" apos) (.Name ys p2 :: e :: es) [] pos) pos2 :: sts) (tN X.K ca G W (.sup fk as' :: r)) := by
  obtain ⟨C0, f, fd, ps, hm, hsp, hrd, hfc, F, hk, hb, ar⟩ := B.ex
  have pe : PE X (.Call (.Attribute (.Name y p) "__init__" apos) (.Name ys p2 :: e :: es) [] pos) (fun σ H Q => tCons (tVar 0) (tA X.K ca G W as') σ H fun vs H1 => spN X.K ca (G.cf fk) ps.length vs H1 Q fun cls d H' => wx ca W cls d σ H') := by
    refine ⟨fun pins s σ H Q I h => ?_⟩
    refine PySem.W.methodCall_KW (pl := pl) (ld_glob I hg hm ?_ hdb) ht
    refine PySem.W.method_cls I.kIn hsp (PySem.W.cls_value I.kIn hrd hfc rfl ?_)
    have I2 : Inv X pins σ H { s with toks := s.toks + 1 } := I.tok _
    refine PySem.W.callWith_K (first := []) (h₀ := X.base) I2.ok.mod.kin hk ?_ hst0 hpl
    refine thn ((pa_cons (pe_var hN hv hd hcd) ha hst0).run pos pins _ σ H _ I2 h) fun us s1 ⟨vs, H1, I1, rv, q⟩ => ⟨I1.kIn, ?_⟩
    exact run_fnSD (us := us) (vs := vs) (dvs := []) (ds := []) (E := fun σ cls d H => wx ca W cls d σ H) F hr hb .nil (passAt tk σ) I1 rv (by rw [List.append_nil]; exact q)
  refine PSs.imp (pss_cons (ps_expr pe hs) h) fun D σ H ⟨H0, P0, δ, x, C, dx, c, ns, xs, ws, s, h⟩ => ?_
  rw [exN] at h
  refine ⟨_, s.self, δ, P0, s.env, s.trk, ?_⟩
  cases q : evs G δ as' with
  | st => rw [q] at h; exact h
  | er c => rw [q] at h; exact fun H' ex => h H' _ (s.ext ex).exb (s.ext ex).at_
  | ok zs =>
    rw [q] at h
    simp only [Res.bind] at h
    intro vs H1 F1 ex n fr rv
    have s1 := s.ext ex
    have rs := rv.shr (P' := P0) (fun a z => .inl z) (off_of s.trk fr)
    have ns' : G.cf fk (.obj c ns xs :: shares zs) ≠ .st := fun z => by rw [z] at h; exact h
    refine ⟨?_, x, C, dx, vs, c, ns, xs, ws, shares zs, P0, rfl, s.cls, s1.at_, s.ok, s1.reps, rs, s.px, s1.trk, ?_⟩
    · rw [← ar _ ns', List.length_cons, List.length_cons, rs.length]
    · cases q2 : G.cf fk (.obj c ns xs :: shares zs) with
      | st => exact (ns' q2).elim
      | er e' =>
        rw [q2] at h
        obtain ⟨C', hC'⟩ := eo.er _ _ _ q2
        exact ⟨C', hC', fun H2 fs2 xb hx => ⟨e', C', hC', rfl, rfl, h H2 fs2 (s1.exb.trans xb) hx⟩⟩
      | ok o =>
        rw [q2] at h
        dsimp only at h
        split at h
        · rename_i c' ns2 xs2
          split at h
          · rename_i ec
            subst ec
            exact ⟨ns2, xs2, rfl, fun H2 ws2 xb hx oi rr => ⟨H0, P0, δ, x, C, dx, c', ns2, xs2, ws2, s1.step xb hx oi rr, h⟩⟩
          · exact h.elim
        · exact h.elim
end
end Ev
namespace Ev
open PySem L2

/-! ## Functions -/
inductive Def where
  | fn (np n : Nat) (b : S) | ini (np n : Nat) (i : List I)
def env0 (n : Nat) (ds : List D) : Env := ds.map some ++ List.replicate (n - ds.length) none
def outV : Out → Res D
  | .nx _ => .ok .non | .rt d => .ok d | .er c _ => .er c | _ => .st
noncomputable def callD (G : Gam) : Def → List D → Res D
  | .fn np n b, ds => if ds.length = np then outV (exec G b (env0 n ds)) else .st
  | .ini np n i, .obj c ns xs :: ds => if ds.length + 1 = np then (exN G (none :: (env0 (n - 1) ds)) c i ns xs).bind fun p => .ok (.obj c p.1 p.2) else .st
  | _, _ => .st
/-- exceptions of known classes alone -/
def chkE (kn : String → Bool) : Res D → Res D
  | .er c => if kn c then .er c else .st
  | r => r
/-- each of the defs may call those behind it in the list -/
noncomputable def cfOf (kn : String → Bool) (G : Gam) : List (String × Def) → String → List D → Res D
  | [], _, _ => .st
  | (n, d) :: r, f, ds => if f = n then chkE kn (callD { G with cf := cfOf kn G r } d ds) else cfOf kn G r f ds
noncomputable def withD (kn : String → Bool) (G : Gam) (l : List (String × Def)) : Gam := { G with cf := cfOf kn G l }
def WX0 (ca : String → Option Addr) (E : XK) : WE := fun c _ H => ∃ C, ca c = some C ∧ E (.ref C) none H
section
variable {P : Program} {w : World} {K : PySem.W.Frag} {mg : Str → Option Value} {base : Heap} {ca : String → Option Addr} {G : Gam}
theorem take_len {N ps : List Str} (h : N.take ps.length = ps) : ps.length ≤ N.length := by
  have := congrArg List.length h
  rw [List.length_take] at this
  omega
theorem entry {H : Hp} {Pp : Addr → Prop} {ds : List D} {vs : List V} {N : List Str} {np : Nat} (hn : ds.length = np) (hN : np ≤ N.length) (r : Reps K ca H Pp ds vs []) (t : Trk Pp H) : SEnv K ca H Pp (fun _ => False) (env0 N.length ds) (L2.start N vs) H [] [] (fun _ => []) [] := by
  have l := r.length
  refine ⟨?_, fun i d h => ?_, fun _ => List.nodup_nil, fun _ _ _ _ m => by simp at m, fun _ _ m => by simp at m, fun _ _ m => by simp at m, .nil, List.nodup_nil, fun _ _ m => by simp at m, fun _ m => by simp at m, ExO.refl _ _, t, fun _ z => z.elim⟩
  · unfold env0 L2.start
    simp [l]
  · unfold env0 at h
    have hi : ds[i]? = some d := by
      rw [List.getElem?_append] at h
      split at h
      · rw [List.getElem?_map] at h
        cases q : ds[i]? with
        | none => rw [q] at h; cases h
        | some d' => rw [q] at h; cases h; rfl
      · rw [List.getElem?_replicate] at h
        split at h <;> cases h
    obtain ⟨v, hv, rv⟩ := r.get hi
    refine ⟨v, ?_, rv.forb fun a z => ?_⟩
    · unfold L2.start
      rw [List.getElem?_append_left (by rw [List.length_map]; exact (List.getElem?_eq_some_iff.mp hv).1), List.getElem?_map, hv]
      rfl
    · rcases z with z | ⟨j, z⟩ | z
      · exact .inl z
      · simp at z
      · simp at z
theorem takesW {X : Cx} {E : XK} (tk : Takes X (fun cls d _ H => E cls d H)) : Takes X (wx ca (WX0 ca E)) := tk.imp fun cls d σ H ⟨c, C, h1, h2, h3, C', h4, h5⟩ => by
  rw [h1] at h4; cases h4
  rw [h2, h3]; exact h5
/-- a def does what its statements do -/
theorem fn_ok {x qual : Str} {st : Stmt} {f : Addr} {fd : FuncData} {N ps : List Str} {k : Nat} {b : S} (F : Fun K x qual st f fd) (Sc : FnScope N ps (defScope st))
    (hb : ∀ (cdv : Value) (A : Around) (outer : List PySem.Env) (s : Shared) (H : Hp) (E : XK), Room k (A.deeper (PyProof.Rows.envOfC qual (defScope st) s.heap.objs.size f cdv)) → Takes (cxOf (L2.CX P w) P w K mg base N qual (defScope st) f cdv A outer s H E) (wx ca (WX0 ca E)) →
      SSs (cxOf (L2.CX P w) P w K mg base N qual (defScope st) f cdv A outer s H E) ca G (WX0 ca E) (defBody st) b) :
    FnOk P w K mg base (L2.CX P w) (k + 1) f fd ps (spF K ca (callD G (.fn ps.length N.length b)) ps.length) := by
  refine F.okX Sc (fun vs H Q E h => h.1) fun cdv A outer s H vs Q E hr h => ?_
  obtain ⟨hl, ds, Pp, r, t, h⟩ := h
  refine ⟨_, hb cdv A outer s H E hr (takesW (takes_of rfl rfl rfl rfl)), ?_⟩
  have ln : ds.length = ps.length := r.length.trans hl
  rw [callD, if_pos ln] at h
  refine ⟨H, Pp, fun _ => False, env0 N.length ds, fun _ => [], entry ln (take_len Sc.pre) r t, ?_⟩
  have ex : ∀ {H'}, ExO (fun _ => False) H H' → Ex H H' := fun e a o q => e a o q (.inl id)
  cases q : exec G b (env0 N.length ds) with
  | nx δ =>
    rw [q] at h
    exact fun σ' H' own s' => h .non H' [] (ex s'.exo) List.nodup_nil (by simp) .non
  | rt d =>
    rw [q] at h
    exact fun v H' F e n fr rv => h v H' F (ex e) n (fun a m => (fr a m).elim False.elim id) rv
  | er c δ =>
    rw [q] at h
    obtain ⟨C, h1, h2⟩ := h
    exact fun σ' H' own s' => ⟨C, h1, h2 H' (ex s'.exo)⟩
  | st => rw [q] at h; exact h
  | bk δ => rw [q] at h; exact h.elim
  | ct δ => rw [q] at h; exact h.elim
/-- an __init__ -/
theorem ini_ok {x qual : Str} {st : Stmt} {f : Addr} {fd : FuncData} {N ps : List Str} {k : Nat} {b : List I} (F : Fun K x qual st f fd) (Sc : FnScope N ps (defScope st))
    (hb : ∀ (cdv : Value) (A : Around) (outer : List PySem.Env) (s : Shared) (H : Hp) (E : XK), Room k (A.deeper (PyProof.Rows.envOfC qual (defScope st) s.heap.objs.size f cdv)) → Takes (cxOf (L2.CX P w) P w K mg base N qual (defScope st) f cdv A outer s H E) (wx ca (WX0 ca E)) →
      PSs (cxOf (L2.CX P w) P w K mg base N qual (defScope st) f cdv A outer s H E) (defBody st) (tN K ca G (WX0 ca E) b)) :
    FnOk P w K mg base (L2.CX P w) (k + 1) f fd ps (spN K ca (callD G (.ini ps.length N.length b)) ps.length) := by
  refine F.okX Sc (fun vs H Q E h => h.1) fun cdv A outer s H vs Q E hr h => ?_
  obtain ⟨hl, x', C, dx, rest, c, ns, xs, ws, ds, Pp, rfl, hc, hx, oi, rx, rs, px, t, h⟩ := h
  refine ⟨_, hb cdv A outer s H E hr (takesW (takes_of rfl rfl rfl rfl)), ?_⟩
  have lr := rs.length
  have l1 : ds.length + 1 = ps.length := by rw [← hl, lr]; rfl
  rw [callD, if_pos l1] at h
  have hN := take_len Sc.pre
  refine ⟨H, Pp, none :: env0 (N.length - 1) ds, x', C, dx, c, ns, xs, ws, ⟨⟨?_, fun i d q => ?_⟩, rfl, hc, hx, oi, rx, px, t, fun a o _ q => q⟩, ?_⟩
  · unfold env0 L2.start
    simp [lr]
    omega
  · cases i with
    | zero => cases q
    | succ i =>
      have q' : (env0 (N.length - 1) ds)[i]? = some (some d) := q
      unfold env0 at q'
      have hi : ds[i]? = some d := by
        rw [List.getElem?_append] at q'
        split at q'
        · rw [List.getElem?_map] at q'
          cases q2 : ds[i]? with
          | none => rw [q2] at q'; cases q'
          | some d' => rw [q2] at q'; cases q'; rfl
        · rw [List.getElem?_replicate] at q'
          split at q' <;> cases q'
      obtain ⟨v, hv, rv⟩ := rs.get hi
      refine ⟨v, ?_, rv⟩
      unfold L2.start
      rw [List.getElem?_append_left (by rw [List.length_map, List.length_cons]; exact Nat.succ_lt_succ (List.getElem?_eq_some_iff.mp hv).1), List.getElem?_map, List.getElem?_cons_succ, hv]
      rfl
  · cases q : exN G (none :: env0 (N.length - 1) ds) c b ns xs with
    | st => rw [q] at h; exact h
    | er e =>
      rw [q] at h
      obtain ⟨C', h1, h2⟩ := h
      exact fun H' fs' xb hx' => ⟨C', h1, h2 H' fs' xb hx'⟩
    | ok p =>
      rw [q] at h
      obtain ⟨ns', xs', e, h2⟩ := h
      cases e
      exact fun H' ws' xb hx' oi' rr => h2 H' ws' xb hx' oi' rr
end
/-- the law's def: over the script -/
theorem law_sp {K : PySem.W.Frag} {ca : String → Option Addr} {cf : List D → Res D} {H : Hp} {a : Addr} {ns : List Int} {E : XK} (hO : Only H) (hS : SqL K H a (ns.map V.int)) (h : cf [.scr ns] = .ok (.bl true)) : spF K ca cf 1 [.ref a] H (fun v _ => v = .bl true) E := by
  refine ⟨rfl, [.scr ns], fun _ => False, .cons (F := []) (F' := []) (.scr ?_) .nil, fun _ z => z.elim, ?_⟩
  · rcases hS with (hS | hS) | hS
    · rcases hO a with z | ⟨o, xs, z⟩
      · rw [z] at hS; cases hS
      · rw [z] at hS; cases hS
    · exact .inl hS
    · exact .inr (.inr hS)
  · rw [h]
    intro v H' F _ _ _ r
    cases r
    rfl
end Ev
namespace Ev
open PySem L2

/-! ## The program's defs together -/
abbrev TB := String → Option (Addr × FuncData × List Str × Bool)
def spB (K : PySem.W.Frag) (ca : String → Option Addr) (b : Bool) (cf : List D → Res D) (np : Nat) : Sp := if b then spN K ca cf np else spF K ca cf np
section
variable {P : Program} {w : World} {K : PySem.W.Frag} {mg : Str → Option Value} {base : Heap} {ca : String → Option Addr} {G0 : Gam} {kn : String → Bool} {tb : TB} {l : List (String × Def)} {k : Nat}
theorem spF_imp {cf cf' : List D → Res D} {np : Nat} (h : ∀ ds, cf' ds = cf ds ∨ cf' ds = .st) : ∀ vs H Q E, spF K ca cf' np vs H Q E → spF K ca cf np vs H Q E := fun vs H Q E ⟨h1, ds, Pp, h2, h3, h4⟩ => ⟨h1, ds, Pp, h2, h3, by
  rcases h ds with e | e
  · rw [← e]; exact h4
  · rw [e] at h4; exact h4.elim⟩
theorem spN_imp {cf cf' : List D → Res D} {np : Nat} (h : ∀ ds, cf' ds = cf ds ∨ cf' ds = .st) : ∀ vs H Q E, spN K ca cf' np vs H Q E → spN K ca cf np vs H Q E := fun vs H Q E ⟨h1, x, C, dx, rest, c, ns, xs, ws, ds, Pp, a1, a2, a3, a4, a5, a6, a7, a8, h4⟩ => ⟨h1, x, C, dx, rest, c, ns, xs, ws, ds, Pp, a1, a2, a3, a4, a5, a6, a7, a8, by
  rcases h (.obj c ns xs :: ds) with e | e
  · rw [← e]; exact h4
  · rw [e] at h4; exact h4.elim⟩
theorem spB_imp {b : Bool} {cf cf' : List D → Res D} {np : Nat} (h : ∀ ds, cf' ds = cf ds ∨ cf' ds = .st) : ∀ vs H Q E, spB K ca b cf' np vs H Q E → spB K ca b cf np vs H Q E := by
  cases b
  · exact spF_imp h
  · exact spN_imp h
theorem chkE_or (r : Res D) : chkE kn r = r ∨ chkE kn r = .st := by
  cases r with
  | er c =>
    unfold chkE
    dsimp only
    split
    · exact .inl rfl
    · exact .inr rfl
  | _ => exact .inl rfl
structure AllF (P : Program) (w : World) (K : PySem.W.Frag) (mg : Str → Option Value) (base : Heap) (ca : String → Option Addr) (kn : String → Bool) (G0 : Gam) (tb : TB) (l : List (String × Def)) (k : Nat) : Prop where
  ok : ∀ fk f fd ps b, tb fk = some (f, fd, ps, b) → FnOk P w K mg base (L2.CX P w) k f fd ps (spB K ca b (cfOf kn G0 l fk) ps.length)
  ar : ∀ fk f fd ps b, tb fk = some (f, fd, ps, b) → ∀ ds, cfOf kn G0 l fk ds ≠ .st → ds.length = ps.length
theorem AllF.nil : AllF P w K mg base ca kn G0 tb [] 0 :=
  ⟨fun fk f fd ps b _ => by
    have no : ∀ vs H Q E, ¬ spB K ca b (cfOf kn G0 [] fk) ps.length vs H Q E := fun vs H Q E h => by
      cases b
      · obtain ⟨_, _, _, _, _, h⟩ := h; exact h
      · obtain ⟨_, _, _, _, _, _, _, _, _, _, _, _, _, _, _, _, _, _, _, h⟩ := h; exact h
    exact ⟨fun vs H Q E h => (no _ _ _ _ h).elim, fun A outer s H args us vs Q E _ _ _ _ h => (no _ _ _ _ h).elim⟩, fun _ _ _ _ _ _ ds h => (h rfl).elim⟩
def Def.np : Def → Nat
  | .fn np _ _ => np | .ini np _ _ => np
theorem callD_ar {G : Gam} {d : Def} {ds : List D} (h : callD G d ds ≠ .st) : ds.length = d.np := by
  cases d with
  | fn np n b =>
    rw [callD] at h
    split at h
    · rename_i e; exact e
    · exact (h rfl).elim
  | ini np n i =>
    match ds, h with
    | [], h => exact (h rfl).elim
    | x :: r, h =>
      cases x <;> try exact (h rfl).elim
      rw [callD] at h
      split at h
      · rename_i e; exact e
      · exact (h rfl).elim
theorem AllF.cons {fk : String} {f : Addr} {fd : FuncData} {ps : List Str} {b : Bool} {d : Def} (A : AllF P w K mg base ca kn G0 tb l k) (ht : tb fk = some (f, fd, ps, b)) (hn : d.np = ps.length)
    (F : FnOk P w K mg base (L2.CX P w) (k + 1) f fd ps (spB K ca b (callD (withD kn G0 l) d) ps.length)) : AllF P w K mg base ca kn G0 tb ((fk, d) :: l) (k + 1) := by
  have e1 : ∀ ds, cfOf kn G0 ((fk, d) :: l) fk ds = chkE kn (callD (withD kn G0 l) d ds) := fun ds => by rw [cfOf, if_pos rfl]; rfl
  have e2 : ∀ g, g ≠ fk → ∀ ds, cfOf kn G0 ((fk, d) :: l) g ds = cfOf kn G0 l g ds := fun g h ds => by rw [cfOf, if_neg h]
  refine ⟨fun g f' fd' ps' b' h => ?_, fun g f' fd' ps' b' h ds q => ?_⟩
  · by_cases e : g = fk
    · subst e
      rw [ht] at h; cases h
      exact F.imp (spB_imp fun ds => by rw [e1]; exact chkE_or _)
    · exact ((A.ok g f' fd' ps' b' h).mono (Nat.le_succ k)).imp (spB_imp fun ds => .inl (e2 g e ds))
  · by_cases e : g = fk
    · subst e
      rw [ht] at h; cases h
      rw [e1] at q
      rw [← hn]
      refine callD_ar (G := withD kn G0 l) fun z => ?_
      rw [z] at q
      exact q rfl
    · rw [e2 g e] at q
      exact A.ar g f' fd' ps' b' h ds q
/-- what stands fast of the text -/
structure Stat (K : PySem.W.Frag) (mg : Str → Option Value) (ca : String → Option Addr) (kn : String → Bool) (G0 : Gam) (tb : TB) : Prop where
  keep : ∀ fk f fd ps b, tb fk = some (f, fd, ps, b) → PySem.W.keepIn K (.ref f) = true ∧ Binds K fd ps []
  me : ∀ c i m fk, G0.ci c = some i → i.meths.lookup m = some fk → ∃ C f fd ps, ca c = some C ∧ Meth K C (Str.ofString m) f ∧ tb fk = some (f, fd, ps, false)
  fdb : FdB K ca G0
  kn : ∀ c, kn c = true → ∃ C, ca c = some C
theorem AllF.er (S : Stat K mg ca kn G0 tb) : ErOk ca (withD kn G0 l) := ⟨fun f ds c h => by
  have h' : cfOf kn G0 l f ds = .er c := h
  clear h
  induction l with
  | nil => cases h'
  | cons p r ih =>
    obtain ⟨n, d⟩ := p
    rw [cfOf] at h'
    split at h'
    · cases q : callD { G0 with cf := cfOf kn G0 r } d ds with
      | er c' =>
        rw [q] at h'
        unfold chkE at h'
        dsimp only at h'
        split at h'
        · rename_i hk; cases h'; exact S.kn _ hk
        · cases h'
      | ok _ => rw [q] at h'; cases h'
      | st => rw [q] at h'; cases h'
    · exact ih h'⟩
theorem AllF.mt (S : Stat K mg ca kn G0 tb) (A : AllF P w K mg base ca kn G0 tb l k) : MtB P w K mg base ca (withD kn G0 l) k := ⟨fun c i m fk h1 h2 => by
  obtain ⟨C, f, fd, ps, h3, h4, h5⟩ := S.me c i m fk h1 h2
  exact ⟨C, f, fd, ps, h3, h4, A.ok fk f fd ps false h5, (S.keep _ _ _ _ _ h5).2, A.ar fk f fd ps false h5⟩⟩
/-- a function of the module, by its name -/
structure GlF (mg : Str → Option Value) (tb : TB) (fk : String) (x : Str) : Prop where
  ex : ∃ f fd ps, tb fk = some (f, fd, ps, false) ∧ mg x = some (.ref f)
theorem AllF.fn (S : Stat K mg ca kn G0 tb) (A : AllF P w K mg base ca kn G0 tb l k) {fk : String} {x : Str} (g : GlF mg tb fk x) : FnB P w K mg base ca ((withD kn G0 l).cf fk) x k := by
  obtain ⟨f, fd, ps, h1, h2⟩ := g.ex
  exact ⟨f, fd, ps, A.ok fk f fd ps false h1, h2, (S.keep _ _ _ _ _ h1).1, (S.keep _ _ _ _ _ h1).2, A.ar fk f fd ps false h1⟩
structure GlC (K : PySem.W.Frag) (mg : Str → Option Value) (ca : String → Option Addr) (G0 : Gam) (tb : TB) (c : String) (x : Str) : Prop where
  ex : ∃ i C f fd ps, G0.ci c = some i ∧ ca c = some C ∧ Mk K C f ∧ Cls K C ∧ mg x = some (.ref C) ∧ tb i.init = some (f, fd, ps, true)
theorem AllF.mkr (S : Stat K mg ca kn G0 tb) (A : AllF P w K mg base ca kn G0 tb l k) {c : String} {x : Str} (g : GlC K mg ca G0 tb c x) : MkB P w K mg base ca (withD kn G0 l) c x k := by
  obtain ⟨i, C, f, fd, ps, h1, h2, h3, h4, h5, h6⟩ := g.ex
  exact ⟨i, C, f, fd, ps, h1, h2, h3, h4, h5, A.ok _ f fd ps true h6, (S.keep _ _ _ _ _ h6).2, A.ar _ f fd ps true h6⟩
structure GlS (K : PySem.W.Frag) (mg : Str → Option Value) (tb : TB) (fk : String) (x : Str) : Prop where
  ex : ∃ C f fd ps, mg x = some (.ref C) ∧ PySem.W.specialIn K (.ref C) "__getattribute__" = some (some (.builtin "type.__getattribute__")) ∧ PySem.W.readsIn K C (.type "type") = true ∧ PySem.W.findCls K (.ref C) (.type "type") "__init__" = some (.val (.ref f)) ∧ tb fk = some (f, fd, ps, true)
theorem AllF.sup (S : Stat K mg ca kn G0 tb) (A : AllF P w K mg base ca kn G0 tb l k) {fk : String} {x : Str} (g : GlS K mg tb fk x) : SupB P w K mg base ca ((withD kn G0 l).cf fk) x k := by
  obtain ⟨C, f, fd, ps, h1, h2, h3, h4, h5⟩ := g.ex
  exact ⟨C, f, fd, ps, h1, h2, h3, h4, A.ok fk f fd ps true h5, (S.keep _ _ _ _ _ h5).1, (S.keep _ _ _ _ _ h5).2, A.ar fk f fd ps true h5⟩
/-- an __init__ answers with the instance -/
theorem ini_obj {G : Gam} {np n : Nat} {i : List I} {c : String} {ns : List String} {xs ds : List D} {d : D} (h : callD G (.ini np n i) (.obj c ns xs :: ds) = .ok d) : ∃ ns' xs', d = .obj c ns' xs' := by
  rw [callD] at h
  split at h
  · cases q : exN G (none :: env0 (n - 1) ds) c i ns xs with
    | ok p => rw [q] at h; cases h; exact ⟨_, _, rfl⟩
    | er e => rw [q] at h; cases h
    | st => rw [q] at h; cases h
  · cases h
def isIni : Def → Bool
  | .ini _ _ _ => true | _ => false
theorem cfOf_ini : ∀ {l : List (String × Def)} {fk : String} {c : String} {ds : List D} {d : D}, (l.all fun p => if p.1 = fk then isIni p.2 else true) = true → cfOf kn G0 l fk (.obj c [] [] :: ds) = .ok d → ∃ ns xs, d = .obj c ns xs
  | [], _, _, _, _, _, h => by cases h
  | (n, e) :: r, fk, c, ds, d, ha, h => by
    rw [List.all_cons, Bool.and_eq_true] at ha
    rw [cfOf] at h
    split at h
    · rename_i en
      have h1 := ha.1
      dsimp only at h1
      rw [if_pos en.symm] at h1
      cases e with
      | fn _ _ _ => cases h1
      | ini np n i =>
        have h2 : callD { G0 with cf := cfOf kn G0 r } (.ini np n i) (.obj c [] [] :: ds) = .ok d := by
          rcases chkE_or (kn := kn) (callD { G0 with cf := cfOf kn G0 r } (.ini np n i) (.obj c [] [] :: ds)) with z | z
          · rw [← z]; exact h
          · rw [z] at h; cases h
        exact ini_obj h2
    · exact cfOf_ini ha.2 h
theorem lookup_all {α : Type} {Q : String → α → Prop} : ∀ {l : List (String × α)}, (∀ p ∈ l, Q p.1 p.2) → ∀ c i, l.lookup c = some i → Q c i
  | [], _, _, _, h => by cases h
  | (n, a) :: r, hq, c, i, h => by
    rw [List.lookup_cons] at h
    split at h
    · rename_i e
      cases h
      rw [beq_iff_eq.mp e]
      exact hq _ (List.mem_cons_self ..)
    · exact lookup_all (fun p m => hq p (List.mem_cons_of_mem _ m)) c i h
end
end Ev
namespace Ev
open PySem L2
section
variable {X : Cx} {ca : String → Option Addr} {G : Gam} {W : WE}
variable {a b c e : Expr} {es : List Expr} {a' b' c' as' : E} {pos p : Pos}
theorem bl_len (hm : X.mg "len" = none) (ha : SA X ca G W [e] as') (hg : Gl X "len" := by rfl) (he : starEach [e] X.env = (false, eval e X.env) :: starEach [] X.env := by rfl) : SE X ca G W (.Call (.Name "len" p) [e] [] pos) (.blt .len as') := se_bltB call_len does_len hm PyProof.Rows.Boot.«len» ha hg (by decide) (by decide) he
theorem bl_sorted (hm : X.mg "sorted" = none) (ha : SA X ca G W [e] as') (hg : Gl X "sorted" := by rfl) (he : starEach [e] X.env = (false, eval e X.env) :: starEach [] X.env := by rfl) : SE X ca G W (.Call (.Name "sorted" p) [e] [] pos) (.blt .sorted as') := se_bltB cr_sortedI does_sorted hm PyProof.Rows.Boot.«sorted» ha hg (by decide) (by decide) he
theorem bl_sum (hc : X.calm = true) (hm : X.mg "sum" = none) (ha : SA X ca G W [e] as') (hg : Gl X "sum" := by rfl) (he : starEach [e] X.env = (false, eval e X.env) :: starEach [] X.env := by rfl) : SE X ca G W (.Call (.Name "sum" p) [e] [] pos) (.blt .sum as') := se_bltB (cr_sum hc) does_sum hm PyProof.Rows.Boot.«sum» ha hg (by decide) (by decide) he
theorem bl_all (hc : X.calm = true) (hm : X.mg "all" = none) (ha : SA X ca G W [e] as') (hg : Gl X "all" := by rfl) (he : starEach [e] X.env = (false, eval e X.env) :: starEach [] X.env := by rfl) : SE X ca G W (.Call (.Name "all" p) [e] [] pos) (.blt .all as') := se_bltB (cr_all hc) does_all hm PyProof.Rows.Boot.«all» ha hg (by decide) (by decide) he
theorem bl_abs (hm : X.mg "abs" = none) (ha : SA X ca G W [e] as') (hg : Gl X "abs" := by rfl) (he : starEach [e] X.env = (false, eval e X.env) :: starEach [] X.env := by rfl) : SE X ca G W (.Call (.Name "abs" p) [e] [] pos) (.blt .abs as') := se_bltB call_abs does_abs hm PyProof.Rows.Boot.«abs» ha hg (by decide) (by decide) he
theorem bl_max (hc : X.calm = true) (hm : X.mg "max" = none) (ha : SA X ca G W (e :: es) as') (hg : Gl X "max" := by rfl) (he : starEach (e :: es) X.env = (false, eval e X.env) :: starEach es X.env := by rfl) (hpl : (backTo pos (starEach es X.env)).any (·.1) = false := by rfl) : SE X ca G W (.Call (.Name "max" p) (e :: es) [] pos) (.blt .max as') := se_bltB ((call_max2 hc).or (cr_max hc)) does_max hm PyProof.Rows.Boot.«max» ha hg (by decide) (by decide) he hpl
theorem bl_min (hc : X.calm = true) (hm : X.mg "min" = none) (ha : SA X ca G W (e :: es) as') (hg : Gl X "min" := by rfl) (he : starEach (e :: es) X.env = (false, eval e X.env) :: starEach es X.env := by rfl) (hpl : (backTo pos (starEach es X.env)).any (·.1) = false := by rfl) : SE X ca G W (.Call (.Name "min" p) (e :: es) [] pos) (.blt .min as') := se_bltB ((call_min2 hc).or (cr_min hc)) does_min hm PyProof.Rows.Boot.«min» ha hg (by decide) (by decide) he hpl
theorem bl_str (hm : X.mg "str" = none) (ha : SA X ca G W [e] as') (hg : Gl X "str" := by rfl) (he : starEach [e] X.env = (false, eval e X.env) :: starEach [] X.env := by rfl) : SE X ca G W (.Call (.Name "str" p) [e] [] pos) (.blt .str as') := se_bltT call_str_int does_str hm PyProof.Rows.Boot.«str» ha hg (by decide) (by decide) he
theorem bl_int (hm : X.mg "int" = none) (ha : SA X ca G W [e] as') (hg : Gl X "int" := by rfl) (he : starEach [e] X.env = (false, eval e X.env) :: starEach [] X.env := by rfl) : SE X ca G W (.Call (.Name "int" p) [e] [] pos) (.blt .int as') := se_bltT (call_int1.or call_int_str) does_int hm PyProof.Rows.Boot.«int» ha hg (by decide) (by decide) he
theorem bl_list (hm : X.mg "list" = none) (ha : SA X ca G W [e] as') (hg : Gl X "list" := by rfl) (he : starEach [e] X.env = (false, eval e X.env) :: starEach [] X.env := by rfl) : SE X ca G W (.Call (.Name "list" p) [e] [] pos) (.blt .list as') := se_bltT call_list_of does_list hm PyProof.Rows.Boot.«list» ha hg (by decide) (by decide) he
theorem bl_is {d : Expr} (L : IsL X.K ca G) (T : TyOk ca) (hm : X.mg "isinstance" = none) (ha : SA X ca G W [e, d] as') (hg : Gl X "isinstance" := by rfl) (he : starEach [e, d] X.env = (false, eval e X.env) :: starEach [d] X.env := by rfl) (hpl : (backTo pos (starEach [d] X.env)).any (·.1) = false := by rfl) : SE X ca G W (.Call (.Name "isinstance" p) [e, d] [] pos) (.blt .isinst as') := se_bltB (call_is L) (does_isinst L T) hm PyProof.Rows.Boot.«isinstance» ha hg (by decide) (by decide) he hpl
/-- a class of the program, by its name -/
structure GlK (mg : Str → Option Value) (ca : String → Option Addr) (c : String) (x : Str) : Prop where
  ex : ∃ C, ca c = some C ∧ mg x = some (.ref C)
theorem se_cls {c : String} {x : Str} (g : GlK X.mg ca c x) (h : G.cst c = some (.cls c) := by rfl) (hg : Gl X x := by rfl) (hd : (x == ("__debug__" : Str)) = false := by decide) : SE X ca G W (.Name x pos) (.cst c) := by
  obtain ⟨C, h1, h2⟩ := g.ex
  exact se_cst (v := .ref C) (u := .ref C) hg h2 rfl (fun d e H P => by rw [h] at e; cases e; exact .cls h1) hd
theorem ty_int (hm : X.mg "int" = none) (h : G.cst "int" = some (.ty "int") := by rfl) (hg : Gl X "int" := by rfl) : SE X ca G W (.Name "int" pos) (.cst "int") := se_ty hg hm PyProof.Rows.Boot.«int» (fun d e => by rw [h] at e; cases e; rfl)
theorem ty_bool (hm : X.mg "bool" = none) (h : G.cst "bool" = some (.ty "bool") := by rfl) (hg : Gl X "bool" := by rfl) : SE X ca G W (.Name "bool" pos) (.cst "bool") := se_ty hg hm PyProof.Rows.Boot.«bool» (fun d e => by rw [h] at e; cases e; rfl)
theorem ty_str (hm : X.mg "str" = none) (h : G.cst "str" = some (.ty "str") := by rfl) (hg : Gl X "str" := by rfl) : SE X ca G W (.Name "str" pos) (.cst "str") := se_ty hg hm PyProof.Rows.Boot.«str» (fun d e => by rw [h] at e; cases e; rfl)
theorem ty_list (hm : X.mg "list" = none) (h : G.cst "list" = some (.ty "list") := by rfl) (hg : Gl X "list" := by rfl) : SE X ca G W (.Name "list" pos) (.cst "list") := se_ty hg hm PyProof.Rows.Boot.«list» (fun d e => by rw [h] at e; cases e; rfl)
theorem ty_tuple (hm : X.mg "tuple" = none) (h : G.cst "tuple" = some (.ty "tuple") := by rfl) (hg : Gl X "tuple" := by rfl) : SE X ca G W (.Name "tuple" pos) (.cst "tuple") := se_ty hg hm PyProof.Rows.Boot.«tuple» (fun d e => by rw [h] at e; cases e; rfl)
theorem ty_VE (hm : X.mg "ValueError" = none) (h : G.cst "ValueError" = some (.ty "ValueError") := by rfl) (hg : Gl X "ValueError" := by rfl) : SE X ca G W (.Name "ValueError" pos) (.cst "ValueError") := se_ty hg hm PyProof.Rows.Boot.«ValueError» (fun d e => by rw [h] at e; cases e; rfl)
theorem hu_r {k : Nat} {A : Around} (r : Room k A) : A.units + 64 < cLine := by have := r.un; omega
theorem hu_s {k : Nat} {A : Around} (r : Room k A) : A.units + 65 < cLine := by have := r.un; omega
theorem nm_ok (i : Nat) {x : Str} (hN : X.N[i]? = some x := by rfl) (hv : Vis X.env.scope x := by first | exact Or.inl rfl | exact Or.inr (Or.inl rfl) | exact Or.inr (Or.inr rfl)) (hd : (x == ("__debug__" : Str)) = false := by decide) (hcd : (x == ("__classdict__" : Str)) = false := by decide) : NmOk X x i := ⟨hN, hv, hd, hcd⟩
end
section
variable {P : Program} {w : World} {K : PySem.W.Frag} {mg : Str → Option Value} {base : Heap} {ca : String → Option Addr} {G0 : Gam} {kn : String → Bool} {tb : TB} {l : List (String × Def)} {k : Nat}
theorem AllF.mono {k' : Nat} (A : AllF P w K mg base ca kn G0 tb l k) (h : k ≤ k') : AllF P w K mg base ca kn G0 tb l k' := ⟨fun fk f fd ps b q => (A.ok fk f fd ps b q).mono h, A.ar⟩
theorem new_ok {c ini : String} (h : (G0.ci c).map (·.init) = some ini) (hl : (l.all fun p => if p.1 = ini then isIni p.2 else true) = true) : ∀ i, (withD kn G0 l).ci c = some i → ∀ ds d, (withD kn G0 l).cf i.init (.obj c [] [] :: ds) = .ok d → ∃ ns xs, d = .obj c ns xs := fun i hi ds d hd => by
  have hi' : G0.ci c = some i := hi
  rw [hi'] at h
  have e : i.init = ini := Option.some.inj h
  subst e
  exact cfOf_ini hl hd
theorem kit_cls {K : PySem.W.Frag} {t : Value} {C : Addr} {b : Bool} (h2 : PySem.W.isClsIn K C = true) (h3 : PySem.W.typeIn K (.ref C) = some (.type "type")) (h5 : PySem.W.subIn K (.ref C) (.ref C) = some true) (h4 : PySem.W.subIn K t (.ref C) = some b) : PySem.W.kitOne K t (.ref C) = some b := by
  unfold PySem.W.kitOne
  by_cases e : t = .ref C
  · subst e
    rw [h5] at h4
    cases h4
    rw [if_pos (beq_self_eq_true _)]
  · rw [if_neg (by simpa using e)]
    have h2' : (PySem.W.clsIn K C).isSome = true := h2
    unfold PySem.W.kitCls
    simp only [h2', h3, beq_self_eq_true, Bool.and_self, if_true]
    exact h4
theorem kit_tyR {K : PySem.W.Frag} {C : Addr} {T : String} {b : Bool} (h1 : PySem.W.kitMeta T = true) (h4 : PySem.W.subIn K (.ref C) (.type T) = some b) : PySem.W.kitOne K (.ref C) (.type T) = some b := by
  unfold PySem.W.kitOne PySem.W.kitCls
  rw [if_neg (by simp)]
  simp only [h1, if_true]
  exact h4
/-- THE END: the law's def answers True to every script -/
theorem walk_law {l : PySem.W.OpenLaw} {n k : Nat} {q : Program} {loose : List Str} {XP : (Str → Option Value) → Heap → Prop} {YP : World → Heap → Prop} {d : DefRec} {K : Params → PySem.W.Frag} {x : Str} {cf : List D → Res D}
    (hn : l.most = some n) (hn2 : n ≤ sizeLine) (hdf : d.params.defaults = []) (hr : Room k callerA) (hY : ∀ (w : World) (h : Heap), YP w h → (K w.params).In h)
    (F : ∀ (w : World) (mg : Str → Option Value) (fa : Addr) (h : Heap), (K w.params).In h → h.Ns mainGlobals mg → mg d.name = some (.ref fa) →
      ∃ (fd : FuncData) (ca : String → Option Addr), (∀ (s : Shared) (u : Value), BindsTo s fd ⟨[u], []⟩ [(x, u)]) ∧
        ∀ base : Heap, (K w.params).In base → base.Ns mainGlobals mg → FnOk l.prog w (K w.params) mg base (L2.CX l.prog w) k fa fd [x] (spF (K w.params) ca cf 1))
    (hv : ∀ ns : List Int, ns.length ≤ n → (∀ z ∈ ns, Builtin.Int.intBits z ≤ 1048576) → cf [.scr ns] = .ok (.bl true)) :
    PySem.W.WalkO q loose XP YP l.row.toRowW d [] (fun f vs => PySem.call f vs) :=
  L2.walk_ofB (n := n) (k := k) (x := x) (CX := fun w => L2.CX l.prog w) (sp := fun w => fun vs H Q E => vs.length = 1 ∧ ∃ a ns, vs = [.ref a] ∧ SqL (K w.params) H a (ns.map V.int) ∧ Only H ∧ ns.length ≤ n ∧ (∀ z ∈ ns, Builtin.Int.intBits z ≤ 1048576) ∧ Q = (fun v _ => v = .bl true)) hn hn2 hdf hr hY
    (fun w mg fa h h1 h2 h3 => let ⟨fd, ca, b, f⟩ := F w mg fa h h1 h2 h3; ⟨fd, b, fun base h4 h5 => (f base h4 h5).imp fun vs H Q E ⟨_, a, ns, e, hS, hO, hl, hb, eQ⟩ => by
      subst e eQ
      exact law_sp hO hS (hv ns hl hb)⟩)
    (fun w H a ns hl hb hO hS => ⟨rfl, a, ns, rfl, hS, hO, hl, hb, rfl⟩) fun w H s e s' ⟨_, _, _, _, _, _, _, _, _, _, _, _, z⟩ => z
end
end Ev
namespace Ev
open PySem L2

/-! ## A def whose last parameter has the default None -/
section
variable {P : Program} {w : World} {K : PySem.W.Frag} {mg : Str → Option Value} {base : Heap} {ca : String → Option Addr} {G : Gam}
theorem fn_okD {x qual : Str} {st : Stmt} {dvs : List V} {kws : List (Str × V)} {f : Addr} {fd : FuncData} {N ps : List Str} {k : Nat} {b : S} (F : FunD K x qual (defArgs st) (defBody st) (defScope st) dvs kws f fd) (Sc : FnScope N ps (defScope st))
    (hb : ∀ (cdv : Value) (A : Around) (outer : List PySem.Env) (s : Shared) (H : Hp) (E : XK), Room k (A.deeper (PyProof.Rows.envOfC qual (defScope st) s.heap.objs.size f cdv)) → Takes (cxOf (L2.CX P w) P w K mg base N qual (defScope st) f cdv A outer s H E) (wx ca (WX0 ca E)) →
      SSs (cxOf (L2.CX P w) P w K mg base N qual (defScope st) f cdv A outer s H E) ca G (WX0 ca E) (defBody st) b) :
    FnOk P w K mg base (L2.CX P w) (k + 1) f fd ps (spF K ca (callD G (.fn ps.length N.length b)) ps.length) := by
  refine F.ok Sc (fun vs H Q E h => h.1) fun cdv A outer s H vs Q E hr h => ?_
  obtain ⟨hl, ds, Pp, r, t, h⟩ := h
  refine ⟨_, hb cdv A outer s H E hr (takesW (takes_of rfl rfl rfl rfl)), ?_⟩
  have ln : ds.length = ps.length := r.length.trans hl
  rw [callD, if_pos ln] at h
  refine ⟨H, Pp, fun _ => False, env0 N.length ds, fun _ => [], entry ln (take_len Sc.pre) r t, ?_⟩
  have ex : ∀ {H'}, ExO (fun _ => False) H H' → Ex H H' := fun e a o q => e a o q (.inl id)
  cases q : exec G b (env0 N.length ds) with
  | nx δ =>
    rw [q] at h
    exact fun σ' H' own s' => h .non H' [] (ex s'.exo) List.nodup_nil (by simp) .non
  | rt d =>
    rw [q] at h
    exact fun v H' F e n fr rv => h v H' F (ex e) n (fun a m => (fr a m).elim False.elim id) rv
  | er c δ =>
    rw [q] at h
    obtain ⟨C, h1, h2⟩ := h
    exact fun σ' H' own s' => ⟨C, h1, h2 H' (ex s'.exo)⟩
  | st => rw [q] at h; exact h
  | bk δ => rw [q] at h; exact h.elim
  | ct δ => rw [q] at h; exact h.elim
theorem funD_mk {x qual : Str} {st : Stmt} {f T : Addr} {oc : Value} {od an : Option Addr} {osl : Array (Option Value)} {kV doc pm cdv ct : Value} {o : Obj} {n : Nat} (l : K.lookup f = some ⟨oc, od, .func (PySem.W.fnOf x qual (defArgs st) (defBody st) (defScope st) (.ref T) kV doc pm an cdv ct), osl⟩)
    (c : PySem.W.codeIn K cdv qual = true) (k : PySem.W.keepIn K (.ref f) = true) (t : K.lookup T = some o) (u : o.data = .seq [Value.none].toArray n) : FunD K x qual (defArgs st) (defBody st) (defScope st) [.non] [] f (PySem.W.fnOf x qual (defArgs st) (defBody st) (defScope st) (.ref T) kV doc pm an cdv ct) :=
  ⟨⟨oc, od, .ref T, kV, doc, pm, an, cdv, ct, osl, rfl, l, c, .inr ⟨by simp, T, o, [.none], n, rfl, t, u, .cons rfl .nil⟩, .inl rfl⟩, k⟩
/-- f(), with the default None -/
structure FnB0 (P : Program) (w : World) (K : PySem.W.Frag) (mg : Str → Option Value) (base : Heap) (ca : String → Option Addr) (cf : List D → Res D) (x : Str) (k : Nat) : Prop where
  ex : ∃ f fd ps us, FnOk P w K mg base (L2.CX P w) k f fd ps (spF K ca cf ps.length) ∧ mg x = some (.ref f) ∧ PySem.W.keepIn K (.ref f) = true ∧ Binds K fd ps us ∧ Vals [V.non] us ∧ ∀ ds, cf ds ≠ .st → ds.length = ps.length
structure GlF0 (K : PySem.W.Frag) (mg : Str → Option Value) (tb : TB) (fk : String) (x : Str) : Prop where
  ex : ∃ f fd ps us, tb fk = some (f, fd, ps, false) ∧ mg x = some (.ref f) ∧ Binds K fd ps us ∧ Vals [V.non] us
variable {G0 : Gam} {kn : String → Bool} {tb : TB} {l : List (String × Def)} {k : Nat}
theorem AllF.fn0 (S : Stat K mg ca kn G0 tb) (A : AllF P w K mg base ca kn G0 tb l k) {fk : String} {x : Str} (g : GlF0 K mg tb fk x) : FnB0 P w K mg base ca ((withD kn G0 l).cf fk) x k := by
  obtain ⟨f, fd, ps, us, h1, h2, h3, h4⟩ := g.ex
  exact ⟨f, fd, ps, us, A.ok fk f fd ps false h1, h2, (S.keep _ _ _ _ _ h1).1, h3, h4, A.ar fk f fd ps false h1⟩
end
section
variable {X : Cx} {ca : String → Option Addr} {G : Gam} {W : WE} {pos p : Pos} {k : Nat}
theorem se_callN {fk : String} {x : Str} (F : FnB0 X.prog X.w X.K X.mg X.base ca (G.cf fk) x k) (hr : Room k X.A) (eo : ErOk ca G) (tk : Takes X (wx ca W))
    (hg : Gl X x := by rfl) (hd : (x == ("__debug__" : Str)) = false := by decide) : SE X ca G W (.Call (.Name x p) [] [] pos) (.call fk (.cons .non .nil)) := by
  obtain ⟨f, fd, ps, us, F, hm, hk, hb, hv, ar⟩ := F.ex
  refine ⟨fun pins s σ H Q I ⟨ρ, P, hB, hP, h⟩ => ?_⟩
  rw [ev, evs, ev, evs] at h
  have h' : Post X.K ca W σ H P (G.cf fk [.non]) Q := h
  refine wpAny_Call_Name_kw (ld_glob I hg hm ?_ hd)
  refine PySem.W.callWith_K0 I.kIn hk (run_fnSD (us := []) (vs := []) (E := fun σ cls d H => wx ca W cls d σ H) F hr hb hv (passAt tk σ) I .nil ?_)
  show spF _ _ _ _ [V.non] H Q _
  have nst : G.cf fk [.non] ≠ .st := fun e => by rw [e] at h'; exact h'
  exact ⟨ar _ nst, [.non], P, .cons (F := []) (F' := []) .non .nil, hP, h'.toX fun c e => eo.er _ _ c e⟩
end
end Ev
namespace Ev
open PySem L2 PySem.W PyProof.Rows
/-- a tuple of seven classes, none of them the exception's -/
theorem exm_seven {M : Model} {K : PySem.W.Frag} {c1 c2 c3 c4 c5 c6 c7 cls : Value} {tp e : Addr} {h : Heap} (X : K.In h) (LT : Looks M h (typeOf (.ref e)) cls) (hp : h.get? tp = some { cls := .type "tuple", data := .seq [c1, c2, c3, c4, c5, c6, c7].toArray })
    (x1 : exmOne K cls c1 = some false) (x2 : exmOne K cls c2 = some false) (x3 : exmOne K cls c3 = some false) (x4 : exmOne K cls c4 = some false) (x5 : exmOne K cls c5 = some false) (x6 : exmOne K cls c6 = some false) (x7 : exmOne K cls c7 = some false) :
    Looks M h (excMatches (.ref e) (.ref tp)) false := by
  intro A Q E s k₀ q
  obtain ⟨hh, g, d, tk, os⟩ := s
  have k : ∀ b o, h.get? b = some o → hh.get? b = some o := k₀
  have LT0 : Looks M h (isInstance (.ref tp) (.type "tuple")) true := ((Looks.ld hp).andThen .now).andThen (Looks.of_pure isSubtype_tuple_tuple)
  obtain ⟨e1, S1⟩ := PySem.W.exm_cls (M := M) X x1
  obtain ⟨e2, S2⟩ := PySem.W.exm_cls (M := M) X x2
  obtain ⟨e3, S3⟩ := PySem.W.exm_cls (M := M) X x3
  obtain ⟨e4, S4⟩ := PySem.W.exm_cls (M := M) X x4
  obtain ⟨e5, S5⟩ := PySem.W.exm_cls (M := M) X x5
  obtain ⟨e6, S6⟩ := PySem.W.exm_cls (M := M) X x6
  obtain ⟨e7, S7⟩ := PySem.W.exm_cls (M := M) X x7
  have e1 := e1.keeps k
  have S1 := S1.keeps k
  have e2 := e2.keeps k
  have S2 := S2.keeps k
  have e3 := e3.keeps k
  have S3 := S3.keeps k
  have e4 := e4.keeps k
  have S4 := S4.keeps k
  have e5 := e5.keeps k
  have S5 := S5.keeps k
  have e6 := e6.keeps k
  have S6 := S6.keeps k
  have e7 := e7.keeps k
  have S7 := S7.keeps k
  have LT := LT.keeps k
  have LT0 := LT0.keeps k
  have hp' := k _ _ hp
  unfold excMatches
  refine wpAny_bind (LT0.at ?_)
  dsimp only
  rw [if_pos rfl]
  first
    | refine wpAny_bind (wpAny_seqItems hp' rfl ?_)
    | refine wpAny_bind (wpAny_bind (wpAny_seqItems hp' rfl (wpAny_pure ?_)))
  dsimp only [Option.getD_some, Option.getD]
  ((repeat (first | simp only [List.forIn_cons, List.forIn_nil, Bool.not_true, Bool.false_eq_true, if_false, if_true] | lk)); exact q)
end Ev
namespace Ev
open PySem L2

/-! ## try -/
section
variable {X : Cx} {pins : List (Addr × Obj)} {σ : L2.St} {H : Hp} {s : Shared} {a : Addr} {cls : Value} {oe : Obj} {vs : Array Value}
/-- a caught exception, new since the entry, is tracked from here on -/
theorem track (I : Inv X pins σ H s) (h0 : X.s_0.heap.get? a = none) (na : H a = none) (he : s.heap.get? a = some oe) (z : Zc cls none oe) (hd : oe.data = .fields vs) (nL : a ≠ X.env.locals) (np : ∀ p ∈ X.pn ++ pins, p.1 ≠ a) : Inv X pins σ (upd H a (ExT cls a)) s where
  ok := I.ok
  os := I.os
  bare := I.bare
  base := ⟨I.base.keep, I.base.slot, fun b o e n x => by rw [upd_ne fun w => by rw [w, h0] at e; cases e]; exact I.base.free b o e n x, I.base.there, fun b xs e => by have q := I.base.tups b xs e; rw [upd_ne (ne_of_none q na)]; exact q,
    fun b o u e => by have q := I.base.frzs b o u e; rw [upd_ne (ne_of_none q na)]; exact q, fun b ps e => by
      obtain ⟨more, q⟩ := I.base.tbls b ps e
      exact ⟨more, by rw [upd_ne (ne_of_none q na)]; exact q⟩⟩
  loc := I.loc
  cell := I.cell
  free := by rw [upd_ne (Ne.symm nL)]; exact I.free
  freeC := fun x c e => by
    by_cases w : c = a
    · exfalso
      obtain ⟨v, o, e1, e2⟩ := I.cell x c e
      rw [w, he] at e1
      have e3 := Option.some.inj e1
      subst e3
      simp [hd] at e2
    · rw [upd_ne w]; exact I.freeC x c e
  pin := fun p hp => by
    obtain ⟨p1, p2, p3⟩ := I.pin p hp
    exact ⟨p1, by rw [upd_ne (np p hp)]; exact p2, p3⟩
  hok := I.hok.laidN (fun _ _ q => q) na (exT_ok he z hd)
  len := I.len
end
/-- a context's except suite, the caught one not pinned -/
theorem Cx.inSuite {X : Cx} {pins : List (Addr × Obj)} {σ : L2.St} {H : Hp} {s : Shared} (a : Addr) (I : Inv X pins σ H s) : Inv (X.suite a (X.pn ++ pins)) [] σ H s where
  ok := I.ok.suite a _
  os := I.os
  bare := I.bare
  base := I.base
  loc := I.loc
  cell := I.cell
  free := I.free
  freeC := I.freeC
  pin := fun p hp => I.pin p (by rw [List.append_nil] at hp; exact hp)
  hok := I.hok
  len := I.len
theorem Cx.outSuite {X : Cx} {pins pn' : List (Addr × Obj)} {σ : L2.St} {H : Hp} {s : Shared} {a : Addr} (ok : X.Ok) (I : Inv (X.suite a (X.pn ++ pins)) pn' σ H s) : Inv X pins σ H s where
  ok := ok
  os := I.os
  bare := I.bare
  base := I.base
  loc := I.loc
  cell := I.cell
  free := I.free
  freeC := I.freeC
  pin := fun p hp => I.pin p (List.mem_append_left _ hp)
  hok := I.hok
  len := I.len
/-- which exceptions a clause catches -/
structure ExM (K : PySem.W.Frag) (ca : String → Option Addr) (G : Gam) (n : String) (v : Value) : Prop where
  ok : ∀ t b C, G.isT t n = some b → ca t = some C → PySem.W.exmOne K (.ref C) v = some b
/-- except clauses and what they do -/
inductive HdOk (X : Cx) (ca : String → Option Addr) (G : Gam) : List ExceptHandler → S → Prop
  | nil : HdOk X ca G [] .skip
  | one {x : Str} {n : String} {v : Value} {st : Stmt} {sts : List Stmt} {np p' : Pos} {hds : List ExceptHandler} {s r : S} (hc : Names X x v) (hm : ExM X.K ca G n v) (hs : ∀ (a : Addr) (pn : List (Addr × Obj)), SSs (X.suite a pn) ca G WF (st :: sts) s) (hr : HdOk X ca G hds r) :
      HdOk X ca G (.ExceptHandler (some (.Name x np)) none (st :: sts) p' :: hds) (.hnd [n] none s r)
  | as_ {x y : Str} {i : Nat} {n : String} {v : Value} {st : Stmt} {sts : List Stmt} {np p' : Pos} {hds : List ExceptHandler} {s r : S} (hN : X.N.Nodup) (hi : X.N[i]? = some y) (hl : X.env.kindOf y = some .local) (hc : Names X x v) (hm : ExM X.K ca G n v)
      (hs : ∀ (a : Addr) (pn : List (Addr × Obj)), SSs (X.suite a pn) ca G WF (st :: sts) s) (hr : HdOk X ca G hds r) :
      HdOk X ca G (.ExceptHandler (some (.Name x np)) (some y) (st :: sts) p' :: hds) (.hnd [n] (some i) s r)
  | tup {x1 x2 x3 x4 x5 x6 x7 : Str} {n1 n2 n3 n4 n5 n6 n7 : String} {v1 v2 v3 v4 v5 v6 v7 : Value} {np1 np2 np3 np4 np5 np6 np7 tp : Pos} {kk : Nat} {st : Stmt} {sts : List Stmt} {p' : Pos} {hds : List ExceptHandler} {r : S}
      (h1 : Names X x1 v1) (h2 : Names X x2 v2) (h3 : Names X x3 v3) (h4 : Names X x4 v4) (h5 : Names X x5 v5) (h6 : Names X x6 v6) (h7 : Names X x7 v7)
      (m1 : ExM X.K ca G n1 v1) (m2 : ExM X.K ca G n2 v2) (m3 : ExM X.K ca G n3 v3) (m4 : ExM X.K ca G n4 v4) (m5 : ExM X.K ca G n5 v5) (m6 : ExM X.K ca G n6 v6) (m7 : ExM X.K ca G n7 v7) (hr : HdOk X ca G hds r) :
      HdOk X ca G (.ExceptHandler (some (.Tuple [.Name x1 np1, .Name x2 np2, .Name x3 np3, .Name x4 np4, .Name x5 np5, .Name x6 np6, .Name x7 np7] kk tp)) none (st :: sts) p' :: hds) (.hnd [n1, n2, n3, n4, n5, n6, n7] none (.hnd [] none .skip .skip) r)
section
variable {K : PySem.W.Frag} {ca : String → Option Addr} {G : Gam} {H0 H : Hp} {P0 Mm : Addr → Prop} {δ : Env} {σ : L2.St} {own : Nat → List Addr}
/-- the caught exception stands in the heap -/
theorem SEnv.caught {a C : Addr} (s : SEnv K ca H0 P0 Mm δ σ H [] [] own []) (na : H a = none) : SEnv K ca H0 P0 Mm δ σ (upd H a (ExT (.ref C) a)) [] [] own [] := s.ext (Ex.new na)
/-- a slot is emptied, in the frame, too -/
theorem SEnv.unset (s : SEnv K ca H0 P0 Mm δ σ H [] [] own []) (i : Nat) : SEnv K ca H0 P0 Mm (δ.set i none) (σ.set i none) H [] [] (setO own i []) [] := by
  have t := s.drop_ i
  refine { t with len := by rw [List.length_set, List.length_set]; exact s.len, rep := fun j d h => ?_ }
  obtain ⟨v, h1, h2⟩ := t.rep j d h
  rcases set_at h with ⟨_, z, _⟩ | ⟨n, z⟩
  · cases z
  · exact ⟨v, by rw [List.getElem?_set_ne (Ne.symm n)]; exact h1, h2⟩
theorem OutP.noEr {W : WE} {D : Ends} {o : Out} (h : OutP K ca W H0 P0 Mm D (Ev.noEr o)) : OutP K ca WF H0 P0 Mm D o := by
  cases o with
  | er c δ => exact h.elim
  | nx δ => exact h
  | bk δ => exact h
  | ct δ => exact h
  | rt d => exact h
  | st => exact h
theorem handle_skip {c : String} {δ : Env} : handle G .skip c δ = .er c δ := by unfold handle; rfl
theorem catch7 {n1 n2 n3 n4 n5 n6 n7 c : String} (h : catchB G [n1, n2, n3, n4, n5, n6, n7] c = some false) : G.isT c n1 = some false ∧ G.isT c n2 = some false ∧ G.isT c n3 = some false ∧ G.isT c n4 = some false ∧ G.isT c n5 = some false ∧ G.isT c n6 = some false ∧ G.isT c n7 = some false := by
  unfold catchB at h
  simp only [List.foldr] at h
  have one : ∀ {n : String} {r : Option Bool}, (match G.isT c n, r with | some b, some r => some (b || r) | _, _ => none) = some false → G.isT c n = some false ∧ r = some false := by
    intro n r h
    cases q : G.isT c n with
    | none => rw [q] at h; cases h
    | some b => 
      cases r with
      | none => rw [q] at h; cases h
      | some d =>
        rw [q] at h
        have h' : (b || d) = false := Option.some.inj h
        rw [Bool.or_eq_false_iff] at h'
        rw [h'.1, h'.2]
        exact ⟨rfl, rfl⟩
  obtain ⟨a1, h⟩ := one h
  obtain ⟨a2, h⟩ := one h
  obtain ⟨a3, h⟩ := one h
  obtain ⟨a4, h⟩ := one h
  obtain ⟨a5, h⟩ := one h
  obtain ⟨a6, h⟩ := one h
  obtain ⟨a7, h⟩ := one h
  exact ⟨a1, a2, a3, a4, a5, a6, a7⟩
theorem catch1 {n c : String} {b : Bool} (h : G.isT c n = some b) : catchB G [n] c = some b := by
  unfold catchB
  simp [h]
end
section
variable {X : Cx} {ca : String → Option Addr} {G : Gam} {W : WE}
theorem flyingZ_keeps {base : Heap} {l : List PySem.Env} {e : Addr} {Z : Obj → Prop} {h h' : Heap} (R : PySem.HandSPX.FlyingZ base l e Z h) (k : ∀ b o, h.get? b = some o → h'.get? b = some o) : PySem.HandSPX.FlyingZ base l e Z h' := by
  obtain ⟨f1, f2, f3, oe, vs, T, oT, ts, he, hz, hd, h1, hn, hne, hT, hdT, h3⟩ := R
  exact ⟨fun b o q => k b o (f1 b o q), f2, f3.of_keeps fun b o q _ => ⟨o, k b o q, rfl⟩, oe, vs, T, oT, ts, k _ _ he, hz, hd, h1, hn, hne, k _ _ hT, hdT, h3⟩
theorem ss_try {body : List Stmt} {hd1 : ExceptHandler} {hds : List ExceptHandler} {b h : S} {pos : Pos} (hst : X.stack = X.env :: X.outer) (hfl : X.env.frame = some X.env.locals) (hex : X.ex = []) (tk : Takes X (wx ca W))
    (hb : ∀ (W1 : WE) (pn : List (Addr × Obj)) (xe : Value → Shared → Prop), Takes (X.tr pn xe) (wx ca W1) → PassesOwn (model X.prog X.w) X.A X.env xe → SSs (X.tr pn xe) ca G W1 body b) (hh : HdOk X ca G (hd1 :: hds) h) : SS X ca G W (.Try body (hd1 :: hds) [] [] pos) (.tri b h) := by
  refine ⟨fun pins s σ H D I ⟨H0, P0, Mm, δ, own, e0, hyp⟩ => ?_⟩
  have okX := I.ok
  have frames : X.A.frames = some (X.env :: X.outer) := okX.frames.trans (congrArg some hst)
  rw [exec] at hyp
  let W1 : WE := fun c σ H => ∃ H0 P0 Mm δ own, SEnv X.K ca H0 P0 Mm δ σ H [] [] own [] ∧ OutP X.K ca W H0 P0 Mm D (handle G h c δ)
  have pre : tS X.K ca G W1 b D σ H := by
    refine ⟨H0, P0, Mm, δ, own, e0, ?_⟩
    cases q : exec G b δ with
    | er c δ1 =>
      rw [q] at hyp
      exact fun σ1 H1 own1 e1 => ⟨H0, P0, Mm, δ1, own1, e1, hyp⟩
    | nx δ1 => rw [q] at hyp; exact hyp
    | bk δ1 => rw [q] at hyp; exact hyp
    | ct δ1 => rw [q] at hyp; exact hyp
    | rt d => rw [q] at hyp; exact hyp
    | st => rw [q] at hyp; exact hyp
  refine wpAny_Try_except (wpAny_mono ((hb W1 (X.pn ++ pins) (fun u t1 => wpAny (model X.prog X.w) X.A (noteFrame u X.env) (fun _ t2 => wpAny (model X.prog X.w) X.A (setFlight u none) (fun _ t3 => wpAny (model X.prog X.w) X.A (handleBy u X.env (hd1 :: hds)) (SP X pins D) X.xe t3) X.xe t2) X.xe t1) (fun u s1 xx => ?_) PassesOwn.looking).run [] s σ H D (I.toTry _) pre) (fun f s1 q => ?_) fun u t q => q)
  · obtain ⟨a, B, sI, pins1, σ1, H1, cls, d, rfl, J1, nb, up, sky, na, os, ag, c, C, hcC, rfl, rfl, hW⟩ := xx
    have J : Inv X pins σ1 H1 sI := J1.ofTry okX
    have skyE : Sky B (X.env :: X.outer) a (Zc (.ref C) none) X.env.locals s1.heap := hst ▸ sky
    show wpAny _ X.A (noteFrame (.ref a) X.env) _ _ _
    refine Sky.land Zc.steady frames hfl skyE fun hpA flA upA => ?_
    have JA : Inv X pins σ1 H1 { s1 with heap := hpA } := J.landed nb flA.1 (up.trans upA) os ag
    have noFr : ∀ {hp : Heap} {o : Obj} {vs : Array Value}, hp.FunFrames B (X.env :: X.outer) → hp.get? a = some o → o.data = .fields vs → a ∉ frs (X.env :: X.outer) := fun {hp o vs} ff e1 e2 m => by
      obtain ⟨_, o', e3, nf⟩ := ff.mem m
      rw [e1] at e3
      cases e3
      exact nf _ e2
    obtain ⟨oeA, vsA, atA, zA, fdA⟩ := flA.there
    have nFr := noFr flA.2.2.1 atA fdA
    have nLoc : a ≠ X.env.locals := fun w => nFr (List.mem_filterMap.mpr ⟨X.env, List.mem_cons_self, by rw [hfl, w]⟩)
    have newI : sI.heap.get? a = none := by
      cases w : sI.heap.get? a with
      | none => rfl
      | some o =>
        have w2 := nb a o w (by rw [hst]; exact nFr)
        rw [flA.2.1] at w2
        cases w2
    have new0 : X.s_0.heap.get? a = none := by
      cases w : X.s_0.heap.get? a with
      | none => rfl
      | some o =>
        obtain ⟨o', w2⟩ := J.base.there a o w (by rw [hex]; exact List.not_mem_nil)
        rw [newI] at w2
        cases w2
    have npin : ∀ p ∈ X.pn ++ pins, p.1 ≠ a := fun p hp w => by
      have w2 := (J.pin p hp).1
      rw [w, newI] at w2
      cases w2
    -- the clauses in turn
    have go : ∀ {hs : List ExceptHandler} {r : S}, HdOk X ca G hs r → ∀ hp3 : Heap, (∀ b o, hpA.get? b = some o → hp3.get? b = some o) → (∃ H0 P0 Mm δ own, SEnv X.K ca H0 P0 Mm δ σ1 H1 [] [] own [] ∧ OutP X.K ca W H0 P0 Mm D (handle G r c δ)) → wpAny (model X.prog X.w) X.A (handleBy (.ref a) X.env hs) (SP X pins D) X.xe { s1 with heap := hp3 } := by
      intro hs r hk
      induction hk with
      | nil =>
        intro hp3 kp
        have fl3 := flyingZ_keeps flA kp
        have upw := upA.trans (Heap.UpToSlots.of_keeps kp)
        have J3 : Inv X pins σ1 H1 { s1 with heap := hp3 } := J.landed nb fl3.1 (up.trans upw) os ag
        obtain ⟨oe3, vs3, at3, z3, fd3⟩ := fl3.there
        rintro ⟨H0, P0, Mm, δ, own, e1, w⟩
        rw [handle_skip] at w
        · have wW : W c σ1 H1 := w σ1 H1 own e1
          refine wpAny_handleBy_nil ?_
          obtain ⟨k1, k2, k3, o3, v3, T, oT, tsl, q1, q2, q3, q4, q5⟩ := id fl3
          unfold PySem.passOn
          refine wpAny_bind (wpAny_field q1 q3 q4 ?_)
          rw [if_neg (show ¬ ((Value.ref T == Value.none) = true) from by simp)]
          have fin : wpAny (model X.prog X.w) X.A (setFlight (.ref a) X.env.frame) (fun _ s4 => wpAny (model X.prog X.w) X.A (throw (.ref a) : Sem Flow) (SP X pins D) X.xe s4) X.xe { s1 with heap := hp3 } := by
            rw [hfl]
            exact HandSPX.setFlight_upZ fl3 fun hp4 held upx => wpAny_throw (tk _ _ ⟨a, B, sI, pins, σ1, H1, .ref C, none, rfl, J, nb, (up.trans upw).trans upx, .inr (.inr (by rw [hst]; exact held)), na, os, ag, c, C, hcC, rfl, rfl, wW⟩)
          first
            | exact wpAny_bind (wpAny_pure (wpAny_bind fin))
            | exact wpAny_bind fin
      | @one x n v st sts np p' hds s r hc hm hs hr ih =>
        intro hp3 kp
        have fl3 := flyingZ_keeps flA kp
        have upw := upA.trans (Heap.UpToSlots.of_keeps kp)
        have J3 : Inv X pins σ1 H1 { s1 with heap := hp3 } := J.landed nb fl3.1 (up.trans upw) os ag
        obtain ⟨oe3, vs3, at3, z3, fd3⟩ := fl3.there
        rintro ⟨H0, P0, Mm, δ, own, e1, w⟩
        rw [handle] at w
        have tst : ∀ {Q E : Value → Shared → Prop}, Q v { s1 with heap := hp3 } → wpAny (model X.prog X.w) (X.A.mark (some (.ref a))) (eval (.Name x np) X.env) (fun u t => Q u t) (fun u t => E u t) { s1 with heap := hp3 } := fun {Q E} q => by
          have SS3 := Cx.inSuite a J3
          obtain ⟨g1, g2, g3 | ⟨g3, g4, g5⟩⟩ := hc
          · exact ld_glob (X := X.suite a (X.pn ++ pins)) SS3 g1 g3 q g2
          · exact ld_blt (X := X.suite a (X.pn ++ pins)) SS3 g1 g3 g4 q g5 g2
        have looks : PySem.W.Looks (model X.prog X.w) hp3 (typeOf (.ref a)) (.ref C) := fun A Q E t kk q => wpAny_typeOf_ref (kk _ _ at3) (by rw [z3.1]; exact q)
        cases hT : G.isT c n with
        | none => 
          unfold catchB at w
          simp [hT] at w
          exact w.elim
        | some bb =>
          rw [catch1 hT] at w
          have mt := PySem.W.exm_one (M := model X.prog X.w) J3.kIn looks (hm.ok c bb C hT hcC)
          refine wpAny_handleBy_cons (codeAny_handlers_test (tst (mt.here ?_))) (by intro q; cases q)
          cases bb with
          | false => exact ih hp3 kp ⟨H0, P0, Mm, δ, own, e1, w⟩
          | true =>
            refine codeAny_handlers_suite (HandSPX.lands_againZ fl3 fun hp4 fl4 upx => ?_)
            have J4 : Inv X pins σ1 H1 { s1 with heap := hp4 } := J.landed nb fl4.1 ((up.trans upw).trans upx) os ag
            obtain ⟨oe4, vs4, at4, z4, fd4⟩ := fl4.there
            have J5 := Cx.inSuite a (track J4 new0 na at4 z4 fd4 nLoc npin)
            refine wpAny_mono ((hs a (X.pn ++ pins)).run [] _ σ1 _ D J5 ⟨H0, P0, Mm, δ, own, e1.caught na, OutP.noEr w⟩) (fun f t q => ?_) fun _ _ q => q.elim
            cases f with
            | next =>
              obtain ⟨σ6, H6, I6, q6⟩ := q
              exact ⟨σ6, H6, Cx.outSuite okX I6, q6⟩
            | brk =>
              obtain ⟨σ6, H6, I6, q6⟩ := q
              exact ⟨σ6, H6, Cx.outSuite okX I6, q6⟩
            | cont =>
              obtain ⟨σ6, H6, I6, q6⟩ := q
              exact ⟨σ6, H6, Cx.outSuite okX I6, q6⟩
            | ret u =>
              obtain ⟨v6, σ6, H6, I6, r6, q6⟩ := q
              exact ⟨v6, σ6, H6, Cx.outSuite okX I6, r6, q6⟩
      | @tup x1 x2 x3 x4 x5 x6 x7 n1 n2 n3 n4 n5 n6 n7 v1 v2 v3 v4 v5 v6 v7 np1 np2 np3 np4 np5 np6 np7 tp kk st sts p' hds r h1 h2 h3 h4 h5 h6 h7 m1 m2 m3 m4 m5 m6 m7 hr ih =>
        intro hp3 kp
        have fl3 := flyingZ_keeps flA kp
        have upw := upA.trans (Heap.UpToSlots.of_keeps kp)
        have J3 : Inv X pins σ1 H1 { s1 with heap := hp3 } := J.landed nb fl3.1 (up.trans upw) os ag
        obtain ⟨oe3, vs3, at3, z3, fd3⟩ := fl3.there
        rintro ⟨H0, P0, Mm, δ, own, e1, w⟩
        rw [handle] at w
        cases hcb : catchB G [n1, n2, n3, n4, n5, n6, n7] c with
        | none => rw [hcb] at w; exact w.elim
        | some bb =>
          rw [hcb] at w
          cases bb with
          | true => exact w.elim
          | false =>
            obtain ⟨q1, q2, q3, q4, q5, q6, q7⟩ := catch7 hcb
            have ld1 : ∀ {x : Str} {v : Value} {np : Pos} {Q E : Value → Shared → Prop}, Names X x v → Q v { s1 with heap := hp3 } → wpAny (model X.prog X.w) (X.A.mark (some (.ref a))) (eval (.Name x np) X.env) (fun u t => Q u t) (fun u t => E u t) { s1 with heap := hp3 } := fun {x v np Q E} hc q => by
              have SS3 := Cx.inSuite a J3
              obtain ⟨g1, g2, g3 | ⟨g3, g4, g5⟩⟩ := hc
              · exact ld_glob (X := X.suite a (X.pn ++ pins)) SS3 g1 g3 q g2
              · exact ld_blt (X := X.suite a (X.pn ++ pins)) SS3 g1 g3 g4 q g5 g2
            have kq : ∀ b o, hp3.get? b = some o → (hp3.push { cls := .type "tuple", data := .seq [v1, v2, v3, v4, v5, v6, v7].toArray }).get? b = some o := fun _ _ z => Heap.get?_push_of_some _ z
            have looks : PySem.W.Looks (model X.prog X.w) (hp3.push { cls := .type "tuple", data := .seq [v1, v2, v3, v4, v5, v6, v7].toArray }) (typeOf (.ref a)) (.ref C) := fun A Q E t kk q => wpAny_typeOf_ref (kk _ _ (kq _ _ at3)) (by rw [z3.1]; exact q)
            have mt := exm_seven (M := model X.prog X.w) (J3.kIn.keeps kq) looks (Heap.get?_push_size hp3 rfl) (m1.ok c false C q1 hcC) (m2.ok c false C q2 hcC) (m3.ok c false C q3 hcC) (m4.ok c false C q4 hcC) (m5.ok c false C q5 hcC) (m6.ok c false C q6 hcC) (m7.ok c false C q7 hcC)
            refine wpAny_handleBy_cons (codeAny_handlers_test ?_) (by intro q; cases q)
            refine wpAny_Tuple ?_
            refine wpAny_items_cons (ld1 h1 ?_)
            refine wpAny_items_cons (ld1 h2 ?_)
            refine wpAny_items_cons (ld1 h3 ?_)
            refine wpAny_items_cons (ld1 h4 ?_)
            refine wpAny_items_cons (ld1 h5 ?_)
            refine wpAny_items_cons (ld1 h6 ?_)
            refine wpAny_items_cons (ld1 h7 ?_)
            refine wpAny_items_nil ⟨by show 7 ≤ sizeLine; decide, ?_⟩
            exact mt.here (ih _ (fun b o z => kq b o (kp b o z)) ⟨H0, P0, Mm, δ, own, e1, w⟩)
      | @as_ x y i n v st sts np p' hds s r hN hi hl hc hm hs hr ih =>
        intro hp3 kp
        have fl3 := flyingZ_keeps flA kp
        have upw := upA.trans (Heap.UpToSlots.of_keeps kp)
        have J3 : Inv X pins σ1 H1 { s1 with heap := hp3 } := J.landed nb fl3.1 (up.trans upw) os ag
        obtain ⟨oe3, vs3, at3, z3, fd3⟩ := fl3.there
        rintro ⟨H0, P0, Mm, δ, own, e1, w⟩
        rw [handle] at w
        have tst : ∀ {Q E : Value → Shared → Prop}, Q v { s1 with heap := hp3 } → wpAny (model X.prog X.w) (X.A.mark (some (.ref a))) (eval (.Name x np) X.env) (fun u t => Q u t) (fun u t => E u t) { s1 with heap := hp3 } := fun {Q E} q => by
          have SS3 := Cx.inSuite a J3
          obtain ⟨g1, g2, g3 | ⟨g3, g4, g5⟩⟩ := hc
          · exact ld_glob (X := X.suite a (X.pn ++ pins)) SS3 g1 g3 q g2
          · exact ld_blt (X := X.suite a (X.pn ++ pins)) SS3 g1 g3 g4 q g5 g2
        have looks : PySem.W.Looks (model X.prog X.w) hp3 (typeOf (.ref a)) (.ref C) := fun A Q E t kk q => wpAny_typeOf_ref (kk _ _ at3) (by rw [z3.1]; exact q)
        cases hT : G.isT c n with
        | none => 
          unfold catchB at w
          simp [hT] at w
          exact w.elim
        | some bb =>
          rw [catch1 hT] at w
          have mt := PySem.W.exm_one (M := model X.prog X.w) J3.kIn looks (hm.ok c bb C hT hcC)
          refine wpAny_handleBy_cons (codeAny_handlers_test (tst (mt.here ?_))) (by intro q; cases q)
          cases bb with
          | false => exact ih hp3 kp ⟨H0, P0, Mm, δ, own, e1, w⟩
          | true =>
            dsimp only at w
            refine codeAny_handlers_suite_as (HandSPX.lands_againZ fl3 fun hp4 fl4 upx => ?_)
            have J4 : Inv X pins σ1 H1 { s1 with heap := hp4 } := J.landed nb fl4.1 ((up.trans upw).trans upx) os ag
            obtain ⟨oe4, vs4, at4, z4, fd4⟩ := fl4.there
            have J5 := Cx.inSuite a (track J4 new0 na at4 z4 fd4 nLoc npin)
            refine store_ok (X := X.suite a (X.pn ++ pins)) (v := .ref a) J5 hN hi (.inl hl) rfl (fun s5 J6 => ?_) (.inr hl)
            obtain ⟨own2, e2⟩ := (e1.caught (C := C) na).put0 i (d := .exc c) (v := .ref a) (.exc hcC upd_same)
            have gone : ∀ {σ6 : L2.St} {H6 : Hp} {s6 : Shared} {Q : Shared → Prop}, Inv (X.suite a (X.pn ++ pins)) [] σ6 H6 s6 → (∀ s7, Inv X pins (σ6.set i none) H6 s7 → Q s7) → wpAny (model X.prog X.w) X.A (do bindName X.env y .none; unbindBehindTheSuite X.env y p') (fun _ s7 => Q s7) X.xe s6 :=
              fun {σ6 H6 s6 Q} I6 hq => gone_ok (Cx.outSuite okX I6) hN hi hl hq
            let D2 : Ends := { nx := fun σ6 H6 => D.nx (σ6.set i none) H6, rt := D.rt, bk := fun σ6 H6 => D.bk (σ6.set i none) H6, ct := fun σ6 H6 => D.ct (σ6.set i none) H6 }
            have w2 : OutP X.K ca WF H0 P0 Mm D2 (exec G s (δ.set i (some (.exc c)))) := by
              cases q : exec G s (δ.set i (some (.exc c))) with
              | nx δ6 => rw [q] at w; exact fun σ6 H6 own6 e6 => w _ H6 _ (e6.unset i)
              | bk δ6 => rw [q] at w; exact fun σ6 H6 own6 e6 => w _ H6 _ (e6.unset i)
              | ct δ6 => rw [q] at w; exact fun σ6 H6 own6 e6 => w _ H6 _ (e6.unset i)
              | rt d => rw [q] at w; exact w
              | er c' δ6 => rw [q] at w; exact w.elim
              | st => rw [q] at w; exact w.elim
            refine wpAny_mono ((hs a (X.pn ++ pins)).run [] s5 _ _ D2 J6 ⟨H0, P0, Mm, _, own2, e2, w2⟩) (fun f t q => ?_) fun _ _ q => q.elim
            cases f with
            | next =>
              obtain ⟨σ6, H6, I6, q6⟩ := q
              exact gone I6 fun s7 J7 => ⟨_, H6, J7, q6⟩
            | brk =>
              obtain ⟨σ6, H6, I6, q6⟩ := q
              exact gone I6 fun s7 J7 => ⟨_, H6, J7, q6⟩
            | cont =>
              obtain ⟨σ6, H6, I6, q6⟩ := q
              exact gone I6 fun s7 J7 => ⟨_, H6, J7, q6⟩
            | ret u =>
              obtain ⟨v6, σ6, H6, I6, r6, q6⟩ := q
              exact gone I6 fun s7 J7 => ⟨v6, _, H6, J7, r6, q6⟩
    exact go hh hpA (fun _ _ q => q) hW
  · cases f with
    | next =>
      obtain ⟨σ1, H1, J1, q1⟩ := q
      exact wpAny_execs_nil ⟨σ1, H1, J1.ofTry okX, q1⟩
    | brk =>
      obtain ⟨σ1, H1, J1, q1⟩ := q
      exact ⟨σ1, H1, J1.ofTry okX, q1⟩
    | cont =>
      obtain ⟨σ1, H1, J1, q1⟩ := q
      exact ⟨σ1, H1, J1.ofTry okX, q1⟩
    | ret u =>
      obtain ⟨v, σ1, H1, J1, r, q1⟩ := q
      exact ⟨v, σ1, H1, J1.ofTry okX, r, q1⟩
end
/-- an except clause's class, by its name -/
structure CatB (K : PySem.W.Frag) (mg : Str → Option Value) (ca : String → Option Addr) (G0 : Gam) (n : String) (x : Str) : Prop where
  ex : ∃ v, mg x = some v ∧ ExM K ca G0 n v
section
variable {X : Cx} {ca : String → Option Addr} {G0 : Gam} {n : String} {x : Str}
noncomputable def catV (h : CatB X.K X.mg ca G0 n x) : Value := h.ex.choose
theorem nms (h : CatB X.K X.mg ca G0 n x) (hg : Gl X x := by rfl) (hd : (x == ("__debug__" : Str)) = false := by decide) : Names X x (catV h) := ⟨hg, hd, .inl h.ex.choose_spec.1⟩
theorem exms {kn : String → Bool} {l : List (String × Def)} (h : CatB X.K X.mg ca G0 n x) : ExM X.K ca (withD kn G0 l) n (catV h) := ⟨h.ex.choose_spec.2.ok⟩
theorem exm_cls {K : PySem.W.Frag} {t : Value} {C : Addr} {b : Bool} (h1 : PySem.W.subIn K (.ref C) (.type "BaseException") = some true) (h2 : PySem.W.isClsIn K C = true) (h3 : PySem.W.typeIn K (.ref C) = some (.type "type")) (h4 : PySem.W.subIn K t (.ref C) = some b) : PySem.W.exmOne K t (.ref C) = some b := by
  have q : (PySem.W.clsIn K C).isSome = true := h2
  unfold PySem.W.exmOne PySem.W.kitCls
  simp only [h1, q, h3, beq_self_eq_true, Bool.and_self, if_true]
  exact h4
end
end Ev
namespace Ev
open PySem L2 PySem.W PyProof.Rows

/-! ## list(reversed(a list)) -/
section
variable {prog : Program} {w : World} {A : Around} {R : Result → Shared → Prop} {s : Shared}
theorem ext_lri {it l S : Addr} {xs : Array Value} {c₀ : Nat} (res : Value) (hA : A.in1.handled = none) (qi : s.heap.IsRevIter it l ((xs.size : Int) - 1)) (ql : s.heap.IsList l xs) (nli : l ≠ it) (nSi : S ≠ it) (nSl : S ≠ l) (few : xs.size ≤ sizeLine)
    (qS : s.heap.get? S = some { cls := .type "list", data := .seq #[] c₀ })
    (K : ∀ t ys c, Moved [S, it] (fun a b => b = a) s t → t.heap.get? S = some { cls := .type "list", dict := none, data := .seq ys c, slots := #[] } → ItemsOf (fun i v => xs[xs.size - 1 - i]? = some v) ys xs.size → R (.ok (.ret res)) t) :
    wpAny (model prog w) A.in1 (Builtin.List.listExtendWith (.ref S) (.ref it) res) (fun fin t => match fin with | .done f => R (.ok f) t | .again c' => c'.quiet = true ∧ codeAny (model prog w) A c' R t) (fun e t => R (.error e) t) s := by
  have WW := (Walks.listRev (prog := prog) (w := w) (A := A.in1) hA it l nli xs).toS
  have nS : S ∉ [it, l] := by simp only [List.mem_cons, List.not_mem_nil, or_false, not_or]; exact ⟨nSi, nSl⟩
  have ty : s.TypeIs (.ref it) "list_reverseiterator" := Heap.IsRevIter.typeIs (s := s) qi
  have ns : Builtin.List.listSameRef (.ref S) (.ref it) = false := by simp [Builtin.List.listSameRef, nSi]
  unfold Builtin.List.listExtendWith
  refine wpAny_bind (wpAny_typeOf ty ?_)
  rw [if_neg (by rw [ns]; decide)]
  refine wpAny_bind (wpAny_pyIter_revIter qi ?_)
  refine wpAny_bind (wpAny_holding ?_)
  unfold Builtin.List.listLengthHint
  refine wpAny_bind (wpAny_specialOf ty RT.nolen_lri ?_)
  show wpAny _ A.in1 (specialOf (.ref it) (Str.ofString "__length_hint__") >>= _) _ _ _
  refine wpAny_bind (wpAny_specialOf ty RT.hint_lri ?_)
  generalize hf : ("list_reverseiterator.__length_hint__" : String) = f0
  wp_delta
  rw [show splitId f0 = some ("list_reverseiterator", "__length_hint__") from by subst hf; decide +kernel]
  subst hf
  refine wpAny_bind (wpAny_isInstance (b := true) ty (by rw [isSubtype_type]; kernel_rfl) ?_)
  refine wpAny_pure ?_
  rw [if_neg (by decide)]
  have z : ((xs.size : Nat) : Int) - 1 - ((0 : Nat) : Int) = (xs.size : Int) - 1 := by omega
  exact wpAny_pure ⟨plainId_quiet F.plain_extend_loop _, codeAny_extend_loopS WW few _ nS _ xs.size 0 _ _ _ rfl (Nat.zero_le _) ⟨Nat.zero_le _, by rw [z]; exact qi, ql⟩ qS (ItemsOf.nil _) fun t ys c m q h => K t ys c m q h⟩
end
section
variable {prog : Program} {w : World} {A : Around} {E : Value → Shared → Prop} {s : Shared}
theorem list_of_rev {it l : Addr} {xs : Array Value} {Q : Value → Shared → Prop} (hA : A.handled = none) (qi : s.heap.IsRevIter it l ((xs.size : Int) - 1)) (ql : s.heap.IsList l xs) (nli : l ≠ it) (few : xs.size ≤ sizeLine)
    (K : ∀ (h2 : Heap) (tk c : Nat) (ys : Array Value), (∀ b o, b ≠ it → s.heap.get? b = some o → h2.get? b = some o) → h2.get? s.heap.objs.size = some { cls := .type "list", dict := none, data := .seq ys c, slots := #[] } → ItemsOf (fun i v => xs[xs.size - 1 - i]? = some v) ys xs.size →
      Q (.ref s.heap.objs.size) { s with heap := h2, toks := tk }) : wpAny (model prog w) A (call (.type "list") [.ref it]) Q E s := by
  obtain ⟨oi, hoi, _⟩ := id qi
  obtain ⟨ol, hol, _⟩ := id ql
  have nSi : s.heap.objs.size ≠ it := Nat.ne_of_gt (Heap.lt_size hoi)
  have nSl : s.heap.objs.size ≠ l := Nat.ne_of_gt (Heap.lt_size hol)
  refine callType_codes (Q₁ := fun v t => v = .ref s.heap.objs.size ∧ t = { s with heap := s.heap.push { cls := .type "list", data := .seq #[] } }) F.called_list (F.typeCall_list_1 _) F.entry_list_init (code_list_new _ ⟨rfl, rfl⟩) fun v t q => ?_
  obtain ⟨rfl, rfl⟩ := q
  have h0 : (s.heap.push { cls := .type "list", data := .seq #[] }).get? s.heap.objs.size = some { cls := .type "list", data := .seq #[] } := Heap.get?_push_size _ rfl
  refine ⟨⟨_, h0, rfl⟩, F.args_list_init_2 _ _, ?_⟩
  show wpAny _ _ (do let was ← Builtin.List.listItems (.ref s.heap.objs.size); Builtin.List.listUpdate (.ref s.heap.objs.size) (fun _ => #[]); letGo was.toList.reverse; Builtin.List.listExtendWith (.ref s.heap.objs.size) (.ref it) .none) _ _ _
  refine wpAny_bind ?_
  unfold Builtin.List.listItems
  refine wpAny_bind (wpAny_seqItems h0 rfl (wpAny_pure ?_))
  show wpAny _ _ (updateSeq s.heap.objs.size (fun _ => #[]) >>= fun _ => letGo (#[] : Array Value).toList.reverse >>= fun _ => Builtin.List.listExtendWith (.ref s.heap.objs.size) (.ref it) .none) _ _ _
  refine wpAny_bind (wpAny_updateSeq h0 rfl ?_)
  have h1 := Heap.get?_update_self (Obj.mapSeq (fun _ => (#[] : Array Value))) h0 rfl
  have kp : ∀ b o, s.heap.get? b = some o → ((s.heap.push { cls := .type "list", data := .seq #[] }).update s.heap.objs.size (Obj.mapSeq (fun _ => (#[] : Array Value)))).get? b = some o := fun b o e =>
    (Heap.get?_update_other _ _ (Nat.ne_of_gt (Heap.lt_size e))).trans (Heap.get?_push_of_some _ e)
  refine wpAny_bind (wpAny_letGo ?_)
  refine ext_lri (c₀ := _) .none hA (qi.at fun o e => kp _ _ e) (let ⟨o, ho, r⟩ := ql; ⟨o, kp _ _ ho, r⟩) nli nSi nSl few h1 fun t ys c m q h => ?_
  rw [Moved.eq_with m]
  refine ⟨rfl, K t.heap t.toks c ys (fun b o nb e => m.heap b o (fun mem => ?_) (kp b o e)) q h⟩
  rcases List.mem_cons.mp mem with e' | mem
  · exact absurd (Heap.lt_size e) (by rw [e']; exact Nat.lt_irrefl _)
  · exact nb (List.mem_singleton.mp mem)
end
/-- list(reversed(x)), x a list: a new list -/
def tListRev (K : PySem.W.Frag) (te : TE) : TE := fun σ H Q => te σ H fun v H1 => ∃ (a : Addr) (xs : List V), v = .ref a ∧ SqL K H1 a xs ∧ ∀ q, H1 q = none → Q (.ref q) (upd H1 q (.lst xs.reverse))
theorem pe_listRev {X : Cx} {e : Expr} {te : TE} {p p2 pos pos2 : Pos} (hc : X.calm = true) (hg : Gl X "list") (hm : X.mg "list" = none) (hg2 : Gl X "reversed") (hm2 : X.mg "reversed" = none) (he : PE X e te)
    (hs : starEach [e] X.env = (false, eval e X.env) :: starEach [] X.env := by rfl)
    (hs2 : starEach [.Call (.Name "reversed" p2) [e] [] pos2] X.env = (false, eval (.Call (.Name "reversed" p2) [e] [] pos2) X.env) :: starEach [] X.env := by rfl) :
    PE X (.Call (.Name "list" p) [.Call (.Name "reversed" p2) [e] [] pos2] [] pos) (tListRev X.K te) := by
  refine ⟨fun pins s σ H Q I h => ?_⟩
  refine Call_ (ld_blt I hg hm PyProof.Rows.Boot.«list» (PyProof.Rows.callWith_type1 (args_cons (Call_ (ld_blt I hg2 hm2 PyProof.Rows.boot_reversed (PyProof.Rows.callWith_type1 (args_cons (thn (he.run pins s σ H _ I h) fun u s1 ⟨v, H1, I1, r1, q1⟩ => args_nil ?_) hs) hs rfl))) hs2) hs2 rfl))
  obtain ⟨a, xs, ev, hq, q⟩ := q1
  subst ev
  obtain rfl : u = Value.ref a := r1
  obtain ⟨its, rv, pl, hz⟩ := I1.list hq
  have hl := pl.isList
  refine call_reversed_list hl (args_nil ?_)
  have I2 : Inv X pins σ H1 { s1 with heap := s1.heap.push (revObj a ((its.toArray.size : Int) - 1)) } := I1.kept (t' := s1.toks) fun b o e => Heap.get?_push_of_some _ e
  have fp := I1.fpOk (H' := H1) (b := s1.heap.objs.size) (Nat.le_refl _) (I1.hok.fresh (Nat.le_refl _))
  obtain ⟨ol, hol, _⟩ := id hl
  have few : its.toArray.size ≤ sizeLine := by rw [List.size_toArray, ← rv.length]; exact hz
  refine list_of_rev (s := { s1 with heap := s1.heap.push (revObj a ((its.toArray.size : Int) - 1)) }) (I1.ok.hd hc) ⟨_, Heap.get?_push_size _ rfl, rfl, rfl⟩ (hl.push _) (Nat.ne_of_lt (Heap.lt_size hol)) few fun h2 tk c ys hk hS hi => ?_
  exact ⟨.ref (s1.heap.push (revObj a ((its.toArray.size : Int) - 1))).objs.size, upd H1 (s1.heap.push (revObj a ((its.toArray.size : Int) - 1))).objs.size (.lst xs.reverse), I2.turnedNew (t' := tk) (ch := [s1.heap.objs.size]) (fun b o nb e => hk b o (fun z => nb (by simp [z])) e) (fun b hb => by
      have e : b = s1.heap.objs.size := by simpa using hb
      subst e
      exact fp) (Nat.le_refl _) (show ObjOk X.prog X.w _ _ _ (.lst xs.reverse) from ⟨by rw [List.length_reverse]; exact hz, ys.toList, c, RT.vals_rev rv hi, by rw [Array.toArray_toList]; exact hS⟩), rfl, q _ (I2.hok.fresh (Nat.le_refl _))⟩
section
variable {X : Cx} {ca : String → Option Addr} {G : Gam} {W : WE} {e : Expr} {a' : E} {pos pos2 p p2 : Pos}
theorem se_listrev (hc : X.calm = true) (hm : X.mg "list" = none) (hm2 : X.mg "reversed" = none) (ha : SE X ca G W e a') (hg : Gl X "list" := by rfl) (hg2 : Gl X "reversed" := by rfl)
    (hs : starEach [e] X.env = (false, eval e X.env) :: starEach [] X.env := by rfl)
    (hs2 : starEach [.Call (.Name "reversed" p2) [e] [] pos2] X.env = (false, eval (.Call (.Name "reversed" p2) [e] [] pos2) X.env) :: starEach [] X.env := by rfl) :
    SE X ca G W (.Call (.Name "list" p) [.Call (.Name "reversed" p2) [e] [] pos2] [] pos) (.blt .listrev (.cons a' .nil)) := by
  refine PE.imp (pe_listRev hc hg hm hg2 hm2 ha hs hs2) fun σ H Q ⟨ρ, P, hB, hP, h⟩ => ?_
  have eq : ev G ρ (.blt .listrev (.cons a' .nil)) = (ev G ρ a').bind fun d => listrevF [d] := by
    rw [ev, evs, evs]
    cases ev G ρ a' <;> rfl
  rw [eq] at h
  refine t_one hB hP h fun d v H1 P' F x g q => ?_
  have s1 := g.shr
  unfold listrevF at q
  split at q
  · rename_i o xs e2
    cases e2
    rw [share] at s1
    cases s1 with
    | frz h1 p1 r => exact ⟨_, _, rfl, .inl (.inl h1), fun l hl => q.newL r.reverse hl⟩
  · exact q.elim
end
end Ev
namespace Ev
open PySem L2

/-! ## A list within a tuple is emptied -/
section
variable {K : PySem.W.Frag} {ca : String → Option Addr} {H0 H : Hp} {P0 Mm P : Addr → Prop} {δ : Env} {σ : L2.St} {own : Nat → List Addr}
theorem reps_item : ∀ {ds : List D} {vs : List V} {F : List Addr} {j : Nat} {d : D}, Reps K ca H P ds vs F → ds[j]? = some d → ∃ v Fj, vs[j]? = some v ∧ Rep K ca H P d v Fj ∧ ∀ a ∈ Fj, a ∈ F
  | _, _, _, 0, _, .cons h r, e => by cases e; exact ⟨_, _, rfl, h, fun a m => List.mem_append_left _ m⟩
  | _, _, _, j + 1, _, .cons h r, e => by
    obtain ⟨v, Fj, e1, r1, sub⟩ := reps_item (j := j) r (by simpa using e)
    exact ⟨v, Fj, by simpa using e1, r1, fun a m => List.mem_append_right _ (sub a m)⟩
theorem SEnv.clrT {x j : Nat} (s : SEnv K ca H0 P0 Mm δ σ H [] [] own []) (h : ownT δ x j = true) :
    ∃ t ws a us, σ[x]? = some (some (.ref t)) ∧ SqT K H t ws ∧ ws[j]? = some (.ref a) ∧ H a = some (.lst us) ∧ SEnv K ca H0 P0 Mm (δ.set x none) σ (upd H a (.lst [])) [] [] (setO own x []) [] := by
  unfold ownT at h
  split at h
  · rename_i ds e1
    split at h
    · rename_i es e2
      obtain ⟨v, hv, r⟩ := s.rep x _ e1
      generalize eo : own x = Fo at r
      cases r with
      | tup hh rr =>
        obtain ⟨w, Fj, e3, r1, sub⟩ := reps_item rr e2
        cases r1 with
        | @own a _ us F2 g1 g2 =>
          have ax : a ∈ own x := by rw [eo]; exact sub a (List.mem_cons_self ..)
          refine ⟨_, _, a, us, hv, hh, e3, g1, ?_⟩
          have sb : ∀ b, ((∃ j, b ∈ setO own x [] j) ∨ b ∈ ([] : List Addr)) → ((∃ j, b ∈ own j) ∨ b ∈ ([] : List Addr)) := fun b z => z.imp (fun ⟨j, m⟩ => (setO_mem m).elim (fun z => absurd z.2 (by simp)) fun z => ⟨j, z.2⟩) id
          have pa : PAll P0 own [] a := .inr (.inl ⟨x, ax⟩)
          refine ⟨by rw [List.length_set]; exact s.len, fun i d q => ?_, fun i => ?_, fun i k b n m m' => ?_, fun i b m => ?_, fun i b m => ?_, .nil, List.nodup_nil, by simp, by simp, fun b o hb q => ?_, s.p0, s.md⟩
          · rcases set_at q with ⟨_, z, _⟩ | ⟨n, z⟩
            · cases z
            · obtain ⟨v, h1, h2⟩ := s.rep i d z
              refine ⟨v, h1, ?_⟩
              rw [setO_ne n]
              exact SEnv.low sb (h2.upd g1 pa fun m => s.dj i x a n m ax)
          · by_cases e : i = x
            · rw [e, setO_at]; exact List.nodup_nil
            · rw [setO_ne e]; exact s.nd i
          · rcases setO_mem m with ⟨_, z⟩ | ⟨n1, z⟩
            · simp at z
            · rcases setO_mem m' with ⟨_, z'⟩ | ⟨n2, z'⟩
              · simp at z'
              · exact s.dj i k b n z z'
          · rcases setO_mem m with ⟨_, z⟩ | ⟨n1, z⟩
            · simp at z
            · have ne : b ≠ a := fun e => by rw [e] at z; exact s.dj i x a n1 z ax
              obtain ⟨xs, hx, l⟩ := s.trk i b z
              exact ⟨xs, by rw [upd_ne ne]; exact hx, l⟩
          · rcases setO_mem m with ⟨_, z⟩ | ⟨n1, z⟩
            · simp at z
            · exact s.new i b z
          · have e := s.exo b o hb q
            by_cases c : b = a
            · subst c
              rcases q with q | q
              · rcases s.new x b ax with z | z
                · exact (q z).elim
                · rw [z] at hb; cases hb
              · rw [g1] at e
                cases e
                cases q
            · rw [upd_ne c]; exact e
    · cases h
  · cases h
end
section
variable {X : Cx} {ca : String → Option Addr} {G : Gam} {W : WE} {x : Str} {i j k : Nat} {p ip apos pos pos2 : Pos} {e : Expr} {e' : E}
theorem clrT_core {K : PySem.W.Frag} {D : Ends} {σ : L2.St} {H : Hp} (h : tS K ca G W (.clrT i j) D σ H) : tBM0 K "list" rClear (tOp (rIxT K) (tVar i) (tC (.int (j : Int)))) σ H fun _ H1 => D.nx σ H1 := by
  obtain ⟨H0, P0, Mm, δ, own, b, h⟩ := h
  rw [exec] at h
  split at h
  · rename_i ho
    obtain ⟨t, ws, a, us, h1, h2, h3, h4, h5⟩ := b.clrT ho
    refine ⟨_, h1, t, ws, (j : Int), .ref a, rfl, rfl, h2, by rw [atI_nat]; exact h3, .inl ⟨rfl, us, .inl (.inl h4)⟩, a, us, rfl, rfl, h4, h σ _ _ h5⟩
  · exact h.elim
theorem ss_clrT (n : NmOk X x i) (hbase : attributeBase (.Subscript (.Name x p) (.Constant (.int (j : Int)) k ip) pos) "clear" X.env (eval (.Subscript (.Name x p) (.Constant (.int (j : Int)) k ip) pos) X.env) = eval (.Subscript (.Name x p) (.Constant (.int (j : Int)) k ip) pos) X.env := by rfl) (hline : (apos.endLine == pos2.line) = true := by rfl) (hs : PlainIx (.Constant (.int (j : Int)) k ip) := by exact fun _ _ => rfl) {pos3 : Pos} (hsw : swapsWith (.Call (.Attribute (.Subscript (.Name x p) (.Constant (.int (j : Int)) k ip) pos) "clear" apos) [] [] pos2) none pos3.line X.env = pure false := by rfl) :
    SS X ca G W (.Expr (.Call (.Attribute (.Subscript (.Name x p) (.Constant (.int (j : Int)) k ip) pos) "clear" apos) [] [] pos2) pos3) (.clrT i j) :=
  PS.imp (ps_expr (pe_bm0 PySem.F.plainAttrs_list PySem.F.slot_list_clear PySem.F.type_list_clear (mt_clear (X := X)) (pe_ix ix_tup n.pe pe_int hs) hbase hline) hsw) fun D σ H h => clrT_core h
/-! ## A number is taken out of a list of numbers -/
theorem reps_intsF : ∀ {K : PySem.W.Frag} {H : Hp} {P : Addr → Prop} {ds : List D} {vs : List V} {F : List Addr} {ns : List Int}, Reps K ca H P ds vs F → intsOf ds = some ns → F = []
  | _, _, _, _, _, _, _, .nil, e => rfl
  | _, _, _, _, _, _, _, .cons h r, e => by
    cases h <;> try (simp [intsOf] at e; done)
    simp only [intsOf] at e
    obtain ⟨q, e1, e2⟩ := Option.map_eq_some_iff.mp e
    rw [reps_intsF r e1]; rfl
theorem rem_core {K : PySem.W.Frag} {D : Ends} {σ : L2.St} {H : Hp} (h : tS K ca G W (.rem i e') D σ H) : tBM K "list" rRemI (tVar i) (tCons (tE K ca G W e') tNil) σ H fun _ H1 => D.nx σ H1 := by
  obtain ⟨H0, P0, Mm, δ, own, b, h⟩ := h
  rw [exec] at h
  obtain ⟨ds, e0, h⟩ := own_of h
  obtain ⟨a0, hv, ty⟩ := b.ty e0
  refine ⟨_, hv, ty, ?_⟩
  refine go_E b h fun d v H' F x r' b' h' => ?_
  split at h'
  · rename_i kk
    cases r'
    split at h'
    · rename_i ns hn
      split at h'
      · rename_i jj hj
        obtain ⟨a, ws, Fx, h1, h2, h3, h4⟩ := b'.open_ e0
        rw [hv] at h1; cases h1
        have ew := reps_ints h4 hn
        rw [ew] at h3
        obtain ⟨hl, hp, hno⟩ := List.findIdx?_eq_some_iff_getElem.mp hj
        have hp : ns[jj] = kk := by simpa using hp
        refine ⟨_, ns, kk, jj, rfl, rfl, h3, by rw [List.getElem?_eq_getElem hl, hp], fun m hm q => ?_, h' σ _ _ (b'.put hv h2 h3 (Reps.ints _) List.nodup_nil (by simp) .nil List.nodup_nil (by simp) (by simp))⟩
        have := hno m hm
        obtain ⟨hl2, e2⟩ := List.getElem?_eq_some_iff.mp q
        rw [e2] at this
        simp at this
      · exact h'.elim
    · exact h'.elim
  · exact h'.elim
theorem ss_rem (n : NmOk X x i) (h : SE X ca G W e e')
    (hbase : attributeBase (.Name x p) "remove" X.env (eval (.Name x p) X.env) = eval (.Name x p) X.env := by rfl)
    (hfew : ((backTo pos (starEach [e] X.env)).all (fun x => !x.1) && (backToKw pos (keywordEach [] X.env)).all (fun x => x.1.isSome) && decide ([e].length + ([] : List Keyword).length + (if ([] : List Keyword).isEmpty then 0 else 1) < 30)) = true := by rfl)
    (hline : (apos.endLine == pos.line) = true := by rfl) (hs : starEach [e] X.env = (false, eval e X.env) :: starEach [] X.env := by rfl) (hpl : (backTo pos (starEach [] X.env)).any (·.1) = false := by rfl) (hsw : swapsWith (.Call (.Attribute (.Name x p) "remove" apos) [e] [] pos) none pos2.line X.env = pure false := by rfl) :
    SS X ca G W (.Expr (.Call (.Attribute (.Name x p) "remove" apos) [e] [] pos) pos2) (.rem i e') :=
  PS.imp (ps_expr (pe_bm PySem.F.plainAttrs_list PySem.F.slot_list_remove PySem.F.type_list_remove (mt_remove (X := X)) n.pe (pa_cons h pa_nil hs) hbase hfew hline hs hpl) hsw) fun D σ H h => rem_core h
end
end Ev
namespace Ev
open PySem L2 PyProof.Rows

/-! ## Dicts of whole numbers -/
theorem hu_1 {k : Nat} {A : Around} (r : Room k A) : A.units + 1 < cLine := by have := r.un; omega
theorem dkv_val : ∀ (kvs : List (Int × Int)) (k : Int), valV (dkv kvs) (Sum.inl k) = (valD kvs k).map V.int
  | [], _ => rfl
  | p :: r, k => by
    have ih := dkv_val r k
    by_cases e : p.1 = k
    · have : valD (p :: r) k = some p.2 := by simp [valD, List.find?_cons, e]
      rw [this]
      exact valV_pos (p := ((Sum.inl p.1 : Key), V.int p.2)) (by simp [e])
    · have : valD (p :: r) k = valD r k := by simp [valD, List.find?_cons, e]
      rw [this, ← ih]
      exact valV_neg (p := ((Sum.inl p.1 : Key), V.int p.2)) (by simpa using e)
theorem dkv_any (kvs : List (Int × Int)) (k : Int) : ((dkv kvs).any fun kv => decide (kv.1 = (Sum.inl k : Key))) = kvs.any fun p => decide (p.1 = k) := by
  unfold dkv
  rw [List.any_map]
  congr 1
  funext p
  simp
theorem dkv_put (kvs : List (Int × Int)) (k v : Int) : putK (dkv kvs) (Sum.inl k) (V.int v) = dkv (putD kvs k v) := by
  unfold putK putD
  rw [dkv_any]
  by_cases q : (kvs.any fun p => decide (p.1 = k)) = true
  · rw [if_pos q, if_pos q]
    unfold dkv
    rw [List.map_map, List.map_map]
    refine List.map_congr_left fun p _ => ?_
    by_cases e : p.1 = k <;> simp [e]
  · rw [if_neg q, if_neg q]
    unfold dkv
    rw [List.map_append]
    rfl
theorem dkv_merge : ∀ (more kvs : List (Int × Int)), mergeK (dkv kvs) (dkv more) = dkv (mergeD kvs more)
  | [], _ => rfl
  | p :: r, kvs => by
    have ih := dkv_merge r (putD kvs p.1 p.2)
    rw [← dkv_put] at ih
    exact ih
theorem dkv_len (kvs : List (Int × Int)) : (dkv kvs).length = kvs.length := by unfold dkv; rw [List.length_map]
section
variable {K : PySem.W.Frag} {ca : String → Option Addr} {H : Hp} {P P' : Addr → Prop} {W : WE} {σ : L2.St} {Q : VK}
theorem Post.newD {kvs : List (Int × Int)} {p : Addr} (h : Post K ca W σ H P (.ok (.dct true kvs)) Q) (hp : H p = none) : Q (.ref p) (upd H p (.dK (dkv kvs))) :=
  h _ _ [p] (Ex.new hp) (by simp) (by simpa using hp) (.dow upd_same)
theorem evs_two {G : Gam} {ρ : Env} {a b : E} {f : List D → Res D} : ((evs G ρ (.cons a (.cons b .nil))).bind f) = (ev G ρ a).bind fun d => (ev G ρ b).bind fun e => f [d, e] := by
  rw [evs, evs, evs]
  cases ev G ρ a <;> simp only [Res.bind]
  cases ev G ρ b <;> simp only [Res.bind]
/-- pairs of whole numbers in the heap -/
theorem reps_pairs : ∀ {P' : Addr → Prop} {ds : List D} {vs : List V} {F : List Addr} {ps : List (Int × Int)}, Reps K ca H P ds vs F → pairsOf ds = some ps → ds = ps.map pairD ∧ Reps K ca H P' (ps.map pairD) vs [] ∧ ∃ ts : List Addr, vs = ts.map V.ref ∧ Paired (fun t (kv : Key × V) => SqT K H t [kV kv.1, kv.2]) ts (dkv ps)
  | _, _, _, _, ps, .nil, e => by cases e; exact ⟨rfl, .nil, [], rfl, .nil⟩
  | P', _, _, _, ps, .cons h r, e => by
    cases h <;> try (simp [pairsOf] at e; done)
    rename_i a ds0 vs0 hh rr
    cases rr with
    | nil => simp [pairsOf] at e
    | cons h1 r1 =>
      cases r1 with
      | nil => cases h1 <;> simp [pairsOf] at e
      | cons h2 r2 =>
        cases r2 with
        | cons h3 r3 => cases h1 <;> cases h2 <;> simp [pairsOf] at e
        | nil =>
          cases h1 <;> try (simp [pairsOf] at e; done)
          cases h2 <;> try (simp [pairsOf] at e; done)
          rename_i i j
          simp only [pairsOf] at e
          obtain ⟨qs, e1, e2⟩ := Option.map_eq_some_iff.mp e
          subst e2
          obtain ⟨g1, g2, ts, g3, g4⟩ := reps_pairs (P' := P') r e1
          refine ⟨by rw [g1]; rfl, .cons (F := []) (F' := []) (.tup hh (.cons (F := []) (F' := []) (.int i) (.cons (F := []) (F' := []) (.int j) .nil))) g2, a :: ts, by rw [g3]; rfl, .cons hh g4⟩
end
section
variable {X : Cx} {ca : String → Option Addr} {G : Gam} {W : WE} {pos p p2 : Pos} {e a b : Expr} {a' b' as' : E} {i : Nat}
theorem se_dnew : SE X ca G W (.Dict [] [] pos) (.blt .dnew .nil) := PE.imp pe_dnewK fun σ H Q ⟨ρ, P, hB, hP, h⟩ => by
  intro p hp
  have h' : Post X.K ca W σ H P (.ok (.dct true [])) Q := h
  exact h'.newD hp
theorem se_dget (hu : X.A.units + 1 < cLine) (ha : SE X ca G W a a') (hb : SE X ca G W b b') (hs : NoSl b := by exact fun _ _ => rfl) : SE X ca G W (.Subscript a b pos) (.blt .dget (.cons a' (.cons b' .nil))) := by
  refine PE.imp (pe_dget hu ha hb hs) fun σ H Q ⟨ρ, P, hB, hP, h⟩ => ?_
  rw [ev, evs_two] at h
  refine t_two hB hP h fun d e v u H2 P' F1 F2 x g1 g2 q => ?_
  simp only [bltF, dgetF] at q
  split at q
  · rename_i o kvs k hk
    cases hk
    split at q
    · rename_i w hw
      cases g2.rep
      have g := g1.rep
      have key : ∀ {t : Addr}, H2 t = some (.dK (dkv kvs)) → DGet H2 t (.int k) (some (.int w)) := fun {t} h1 => by
        have := DGet.k (k := Sum.inl k) h1
        rw [dkv_val, hw] at this
        exact this
      cases g with
      | dow h1 => exact ⟨_, _, rfl, key h1, q.int⟩
      | dfz h1 _ => exact ⟨_, _, rfl, key h1, q.int⟩
    · exact q.elim
  · exact q.elim
theorem does_dict : DoesA X ca (fun xs H Q => ∃ (a : Addr) (ps : List Addr) (kvs : List (Key × V)), xs = [.ref a] ∧ SqL X.K H a (ps.map V.ref) ∧ Paired (fun p kv => SqT X.K H p [kV kv.1, kv.2]) ps kvs ∧
    ∀ p, H p = none → Q (.ref p) (upd H p (.dK (mergeK [] kvs)))) (bltF G .dict) := by
  intro W σ H P ds vs F Q g hP h
  have r := g.rep
  simp only [bltF] at h
  unfold dictF at h
  split at h
  · obtain ⟨v, rfl, r1⟩ := reps1 r
    obtain ⟨a, ws, F', rfl, ha, rr⟩ := rep_lst r1
    split at h
    · rename_i ps hn
      obtain ⟨_, _, ts, e, pr⟩ := reps_pairs (P' := P) rr hn
      subst e
      refine ⟨_, ts, dkv ps, rfl, .inl (.inl ha), pr, fun p hp => ?_⟩
      have := dkv_merge ps []
      rw [show mergeK [] (dkv ps) = dkv (mergeD [] ps) from this]
      exact h.newD hp
    · exact h.elim
  · exact h.elim
theorem bl_dict (hc : X.calm = true) (hm : X.mg "dict" = none) (ha : SA X ca G W [e] as') (hg : Gl X "dict" := by rfl) (he : starEach [e] X.env = (false, eval e X.env) :: starEach [] X.env := by rfl) : SE X ca G W (.Call (.Name "dict" p) [e] [] pos) (.blt .dict as') := se_bltT (call_dictP hc) does_dict hm PyProof.Rows.Boot.«dict» ha hg (by decide) (by decide) he
/-! ## Pairs of whole numbers, in order -/
theorem leP_iff {p q : Int × Int} : leP p q = true ↔ p.1 < q.1 ∨ (p.1 = q.1 ∧ p.2 ≤ q.2) := by unfold leP; rw [decide_eq_true_eq]
theorem insP_perm (p : Int × Int) : ∀ xs, (insP p xs).Perm (p :: xs)
  | [] => List.Perm.refl _
  | q :: r => by
    rw [insP]
    split
    · exact List.Perm.refl _
    · exact ((insP_perm p r).cons q).trans (List.Perm.swap p q r)
theorem sortP_perm : ∀ xs, (sortP xs).Perm xs
  | [] => List.Perm.refl _
  | x :: r => (insP_perm x (sortP r)).trans ((sortP_perm r).cons x)
theorem insP_sorted (p : Int × Int) : ∀ xs, xs.Pairwise (fun a b => leP a b = true) → (insP p xs).Pairwise fun a b => leP a b = true
  | [], _ => List.pairwise_singleton _ _
  | q :: r, h => by
    rw [insP]
    have h' := List.pairwise_cons.mp h
    split
    · rename_i l
      exact List.pairwise_cons.mpr ⟨fun z m => by
        rcases List.mem_cons.mp m with e | m
        · rw [e]; exact l
        · have a := leP_iff.mp l
          have b := leP_iff.mp (h'.1 z m)
          exact leP_iff.mpr (by omega), h⟩
    · rename_i l
      refine List.pairwise_cons.mpr ⟨fun z m => ?_, insP_sorted p r h'.2⟩
      rcases List.mem_cons.mp ((insP_perm p r).mem_iff.mp m) with e | m
      · rw [e]
        have a : ¬ (p.1 < q.1 ∨ (p.1 = q.1 ∧ p.2 ≤ q.2)) := fun z => l (leP_iff.mpr z)
        exact leP_iff.mpr (by omega)
      · exact h'.1 z m
theorem sortP_sorted : ∀ xs, (sortP xs).Pairwise fun a b => leP a b = true
  | [] => .nil
  | x :: r => insP_sorted x _ (sortP_sorted r)
theorem sortedP_eq : ∀ {xs ys : List (Int × Int)}, xs.Perm ys → xs.Pairwise (fun a b => leP a b = true) → ys.Pairwise (fun a b => leP a b = true) → xs = ys
  | [], ys, p, _, _ => (List.nil_perm.mp p).symm
  | x :: xs, [], p, _, _ => (List.not_perm_cons_nil p).elim
  | x :: xs, y :: ys, p, h, q => by
    have h' := List.pairwise_cons.mp h
    have q' := List.pairwise_cons.mp q
    have e : x = y := by
      rcases List.mem_cons.mp (p.mem_iff.mp (List.mem_cons_self (a := x))) with e | m
      · exact e
      · rcases List.mem_cons.mp (p.mem_iff.mpr (List.mem_cons_self (a := y))) with e | m'
        · exact e.symm
        · have a := leP_iff.mp (q'.1 x m)
          have b := leP_iff.mp (h'.1 y m')
          exact Prod.ext (by omega) (by omega)
    subst e
    rw [sortedP_eq (List.Perm.cons_inv p) h'.2 q'.2]
def rSortedPT (K : PySem.W.Frag) (ca : String → Option Addr) (P : Addr → Prop) : List V → Hp → VK → Prop := fun vs H Q => ∃ (a : Addr) (xs : List V) (ps : List (Int × Int)), vs = [V.ref a] ∧ SqL K H a xs ∧ Reps K ca H P (ps.map pairD) xs [] ∧
  ∀ ys p, Reps K ca H P ((sortP ps).map pairD) ys [] → H p = none → Q (.ref p) (upd H p (.lst ys))
theorem rep_pair {K : PySem.W.Frag} {H : Hp} {P : Addr → Prop} {q : Int × Int} {v : V} {F : List Addr} (r : Rep K ca H P (pairD q) v F) : ∃ t, v = .ref t ∧ SqT K H t [.int q.1, .int q.2] := by
  unfold pairD at r
  cases r with
  | tup hh rr =>
    cases rr with
    | cons h1 r1 =>
      cases r1 with
      | cons h2 r2 =>
        cases r2
        cases h1
        cases h2
        exact ⟨_, rfl, hh⟩
open Classical in
theorem cr_sortedPT {P : Addr → Prop} : CallR X (.builtin "sorted") (rSortedPT X.K ca P) := by
  intro pins s σ H vs us Q I r h
  obtain ⟨a, xs, ps, rfl, hs, hx, q⟩ := h
  obtain ⟨its, rv, hl, hz⟩ := I.list hs
  obtain ⟨u, rfl, ru⟩ := vals1 r
  obtain rfl : u = Value.ref a := ru
  obtain ⟨len, at_⟩ := Reps.nil_iff.mp hx
  rw [List.length_map] at len
  have item : ∀ (i : Nat) (x : V), xs[i]? = some x → ∃ p, ps[i]? = some p ∧ ∃ t, x = .ref t ∧ SqT X.K H t [.int p.1, .int p.2] := fun i x hi => by
    have hil : i < ps.length := by rw [len]; exact (List.getElem?_eq_some_iff.mp hi).1
    have hp : ps[i]? = some ps[i] := by simp [hil]
    exact ⟨ps[i], hp, rep_pair (at_ i (pairD ps[i]) x (by rw [List.getElem?_map, hp]; rfl) hi)⟩
  let k : V → Int × Int := fun x => if h : ∃ p : Int × Int, ∃ t, x = .ref t ∧ SqT X.K H t [.int p.1, .int p.2] then h.choose else (0, 0)
  have kx : ∀ (p : Int × Int) (x : V) (t : Addr), x = .ref t → SqT X.K H t [.int p.1, .int p.2] → k x = p := fun p x t e ht => by
    have hex : ∃ p : Int × Int, ∃ t, x = .ref t ∧ SqT X.K H t [.int p.1, .int p.2] := ⟨p, t, e, ht⟩
    have : k x = hex.choose := dif_pos hex
    rw [this]
    obtain ⟨t', e', ht'⟩ := hex.choose_spec
    rw [e] at e'
    cases e'
    have := I.tuple_inj ht' ht
    simp at this
    exact Prod.ext this.1 this.2
  have hmem : ∀ x ∈ xs, ∃ t, x = V.ref t ∧ SqT X.K H t [.int (k x).1, .int (k x).2] := fun x m => by
    obtain ⟨i, hi⟩ := List.mem_iff_getElem?.mp m
    obtain ⟨p, _, t, e, ht⟩ := item i x hi
    exact ⟨t, e, by rw [kx p x t e ht]; exact ht⟩
  have hps : xs.map k = ps := by
    refine List.ext_getElem? fun i => ?_
    rw [List.getElem?_map]
    cases hi : xs[i]? with
    | none =>
      have : ps[i]? = none := by
        rw [List.getElem?_eq_none_iff] at hi ⊢
        omega
      rw [this]; rfl
    | some x =>
      obtain ⟨p, hp, t, e, ht⟩ := item i x hi
      rw [hp]
      show some (k x) = some p
      rw [kx p x t e ht]
  obtain ⟨e1, e2⟩ := refs_back rv fun x m => by
    obtain ⟨t, e, _⟩ := hmem x m
    exact ⟨t, e⟩
  refine SrtO.sorted_pairsO (k := fun u => k (backV u)) hl.isList (by rw [← rv.length]; exact hz) (fun v hv => ?_) fun h' d out h1 h2 kp hd hn => ?_
  · obtain ⟨t, rfl⟩ := e2 v hv
    have hm : V.ref t ∈ xs := by rw [e1]; exact List.mem_map.mpr ⟨_, hv, rfl⟩
    obtain ⟨t', e, ht⟩ := hmem _ hm
    cases e
    obtain ⟨its2, r2, ⟨o, ho, hc, n, hd⟩, _⟩ := I.tuple ht
    obtain ⟨u1, u2, e3, ri, rj⟩ := vals2 r2
    obtain ⟨t1, rfl⟩ := ri
    obtain ⟨t2, rfl⟩ := rj
    exact ⟨t, o, t1, t2, n, rfl, ho, hc, by rw [hd, e3]; rfl⟩
  · have h3 : ∀ u ∈ out, ∃ a, u = Value.ref a := fun u hu => e2 u (h2.perm.mem_iff.mp hu)
    obtain ⟨n, hn⟩ := hn
    have hb : SrtO.Stb (ltP k) (out.map backV) xs := by
      rw [e1]
      exact SrtO.Stb.map (ltP_swo k) backV h2
    have srt : SrtO.Srtd (ltP k) (out.map backV) := SrtO.srtd_map h1
    refine ⟨.ref d, upd H d (.lst (out.map backV)), I.laid (t' := s.toks) kp hd ⟨?_, out, n, vals_back h3, hn⟩, rfl, q _ d ?_ (I.hok.fresh hd)⟩
    · rw [hb.len]
      exact hz
    · have eq : (out.map backV).map k = sortP ps := by
        refine sortedP_eq ?_ ?_ (sortP_sorted ps)
        · rw [← hps]
          exact ((hb.perm.map k)).trans (sortP_perm _).symm
        · refine List.Pairwise.map _ (fun x y h => ?_) srt
          have := SrtO.lexB_no.mp h
          exact leP_iff.mpr (by omega)
      rw [← eq]
      refine Reps.nil_iff.mpr ⟨by simp, fun i dd v a b => ?_⟩
      rw [List.getElem?_map, List.getElem?_map, b] at a
      cases a
      obtain ⟨t, e, ht⟩ := hmem v (hb.perm.mem_iff.mp (List.mem_iff_getElem?.mpr ⟨i, b⟩))
      rw [e] at ht ⊢
      exact .tup ht (.cons (F := []) (F' := []) (.int _) (.cons (F := []) (F' := []) (.int _) .nil))
theorem does_sortp : ∀ (W : WE) (σ : L2.St) (H : Hp) (P : Addr → Prop) (ds : List D) (vs : List V) (F : List Addr) (Q : VK),
    GotA X.K ca H P (fun a => P a ∨ a ∈ F) ds vs F → Trk P H → Post X.K ca W σ H P (bltF G .sortp ds) Q → rSortedPT X.K ca P vs H Q := by
  intro W σ H P ds vs F Q g hP h
  have r := g.rep
  simp only [bltF] at h
  unfold sortpF at h
  split at h
  · obtain ⟨v, rfl, r1⟩ := reps1 r
    obtain ⟨a, ws, F', rfl, ha, rr⟩ := rep_lst r1
    split at h
    · rename_i ps hn
      obtain ⟨_, rp, _⟩ := reps_pairs (P' := P) rr hn
      exact ⟨_, ws, ps, rfl, .inl (.inl ha), rp, fun ys p rs hp => h.newL rs hp⟩
    · exact h.elim
  · exact h.elim
def rSortedPA (K : PySem.W.Frag) (ca : String → Option Addr) : List V → Hp → VK → Prop := fun vs H Q => ∃ P, rSortedPT K ca P vs H Q
theorem cr_sortedPA : CallR X (.builtin "sorted") (rSortedPA X.K ca) := fun pins s σ H vs us Q I r ⟨P, h⟩ => cr_sortedPT (P := P) pins s σ H vs us Q I r h
theorem bl_sortp (hm : X.mg "sorted" = none) (ha : SA X ca G W [e] as') (hg : Gl X "sorted" := by rfl) (he : starEach [e] X.env = (false, eval e X.env) :: starEach [] X.env := by rfl) : SE X ca G W (.Call (.Name "sorted" p) [e] [] pos) (.blt .sortp as') :=
  se_bltB (cr_sortedPA (ca := ca)) (fun W σ H P ds vs F Q g hP h => ⟨P, does_sortp W σ H P ds vs F Q g hP h⟩) hm PyProof.Rows.Boot.«sorted» ha hg (by decide) (by decide) he
theorem does_sortd : DoesA X ca (fun xs H Q => ∃ (a : Addr) (kvs : List (Key × V)) (ks : List Int), xs = [.ref a] ∧ Rd H a (.dK kvs) ∧ kvs.map (·.1) = ks.map Sum.inl ∧ ks.length < 64 ∧
    ∀ (ys : List Int) (p : Addr), ys.Perm ks → ys.Pairwise (· ≤ ·) → H p = none → Q (.ref p) (upd H p (.lst (ys.map V.int)))) (bltF G .sortd) := by
  intro W σ H P ds vs F Q g hP h
  have r := g.rep
  simp only [bltF] at h
  unfold sortdF at h
  split at h
  · rename_i o kvs
    obtain ⟨v, rfl, r1⟩ := reps1 r
    split at h
    · rename_i hl
      have key : ∀ {a : Addr}, H a = some (.dK (dkv kvs)) → v = .ref a → ∃ (a : Addr) (kvs : List (Key × V)) (ks : List Int), [v] = [V.ref a] ∧ Rd H a (.dK kvs) ∧ kvs.map (·.1) = ks.map Sum.inl ∧ ks.length < 64 ∧
          ∀ (ys : List Int) (p : Addr), ys.Perm ks → ys.Pairwise (· ≤ ·) → H p = none → Q (.ref p) (upd H p (.lst (ys.map V.int))) := fun {a} ha e => by
        refine ⟨a, _, kvs.map (·.1), by rw [e], .inl ha, by unfold dkv; rw [List.map_map, List.map_map]; rfl, by rw [List.length_map]; exact hl, fun ys p pm ps hp => ?_⟩
        have es : ys = sortI (kvs.map (·.1)) := sorted_eq (pm.trans (sortI_perm _).symm) ps (sortI_sorted _)
        subst es
        exact h.newL (Reps.ints _) hp
      cases r1 with
      | dow ha => exact key ha rfl
      | dfz ha _ => exact key ha rfl
    · exact h.elim
  · exact h.elim
theorem bl_sortd (hc : X.calm = true) (hm : X.mg "sorted" = none) (ha : SA X ca G W [e] as') (hg : Gl X "sorted" := by rfl) (he : starEach [e] X.env = (false, eval e X.env) :: starEach [] X.env := by rfl) : SE X ca G W (.Call (.Name "sorted" p) [e] [] pos) (.blt .sortd as') :=
  se_bltB (call_sortedDI hc) does_sortd hm PyProof.Rows.Boot.«sorted» ha hg (by decide) (by decide) he
/-! ## A dict's value is set -/
theorem SEnv.putD {K : PySem.W.Frag} {H0 H : Hp} {P0 Mm : Addr → Prop} {δ : Env} {σ : L2.St} {own : Nat → List Addr} {x : Nat} {kvs kvs' : List (Int × Int)} (s : SEnv K ca H0 P0 Mm δ σ H [] [] own []) (h : δ[x]? = some (some (.dct true kvs))) :
    ∃ a, σ[x]? = some (some (.ref a)) ∧ H a = some (.dK (dkv kvs)) ∧ SEnv K ca H0 P0 Mm (δ.set x (some (.dct true kvs'))) σ (upd H a (.dK (dkv kvs'))) [] [] own [] := by
  obtain ⟨v, hv, r⟩ := s.rep x _ h
  generalize eo : own x = Fo at r
  cases r with
  | @dow a _ h1 =>
    have ax : a ∈ own x := by rw [eo]; exact List.mem_singleton.mpr rfl
    have pa : PAll P0 own [] a := .inr (.inl ⟨x, ax⟩)
    refine ⟨a, hv, h1, ?_⟩
    refine ⟨by rw [List.length_set]; exact s.len, fun i d q => ?_, s.nd, s.dj, fun i b m => ?_, s.new, .nil, List.nodup_nil, by simp, by simp, fun b o hb q => ?_, s.p0, s.md⟩
    · rcases set_at q with ⟨e, z, hl⟩ | ⟨n, z⟩
      · subst e
        cases z
        refine ⟨.ref a, hv, ?_⟩
        rw [eo]
        exact .dow upd_same
      · obtain ⟨v, h2, h3⟩ := s.rep i d z
        exact ⟨v, h2, h3.updG h1 .d pa fun m => s.dj i x a n m ax⟩
    · by_cases c : b = a
      · rw [c]; exact ⟨_, upd_same, .d⟩
      · obtain ⟨o, ho, l⟩ := s.trk i b m
        exact ⟨o, by rw [upd_ne c]; exact ho, l⟩
    · have e := s.exo b o hb q
      by_cases c : b = a
      · subst c
        rcases q with q | q
        · rcases s.new x b ax with z | z
          · exact (q z).elim
          · rw [z] at hb; cases hb
        · rw [h1] at e
          cases e
          cases q
      · rw [upd_ne c]; exact e
theorem setd_core {K : PySem.W.Frag} {D : Ends} {σ : L2.St} {H : Hp} {k' v' : E} (h : tS K ca G W (.setd i k' v') D σ H) : sDPut (tVar i) (tE K ca G W k') (tE K ca G W v') D σ H := by
  obtain ⟨H0, P0, Mm, δ, own, b, h⟩ := h
  rw [exec] at h
  split at h
  · rename_i kvs e0
    refine go_E b h fun dv v H1 F x r1 b1 h1 => ?_
    obtain ⟨v0, hv, _⟩ := b1.rep i _ e0
    refine ⟨v0, hv, ?_⟩
    refine go_E b1 h1 fun dk u H2 F2 x2 r2 b2 h2 => ?_
    split at h2
    · rename_i n m
      cases r1
      cases r2
      split at h2
      · rename_i hl
        obtain ⟨a, ha, hd, b3⟩ := b2.putD (kvs' := putD kvs m n) e0
        rw [ha] at hv
        cases hv
        refine ⟨a, _, rfl, DPut.k (k := Sum.inl m) hd (by rw [dkv_len, sizeLine_eq]; exact hl), ?_⟩
        rw [dkv_put]
        exact h2 _ _ _ b3
      · exact h2.elim
    · exact h2.elim
  · exact h.elim
theorem ss_setd {x : Str} {k v : Expr} {k' v' : E} {pos3 : Pos} (n : NmOk X x i) (hu : X.A.units + 1 < cLine) (hk : SE X ca G W k k') (hv : SE X ca G W v v') (hs : swapsWith v (some (.Subscript (.Name x p) k pos2)) pos3.line X.env = pure false := by rfl) :
    SS X ca G W (.Assign [.Subscript (.Name x p) k pos2] v pos3) (.setd i k' v') :=
  PS.imp (ps_dput hu n.pe hk hv hs) fun D σ H h => setd_core h
end
end Ev
namespace Ev
open PySem L2

/-! ## What does not name a slot does the same whatever it holds -/
section
variable {i : Nat} {o : Option D} {G : Gam}
theorem set_get {δ : Env} {j : Nat} (h : (j != i) = true) : (δ.set i o)[j]? = δ[j]? := List.getElem?_set_ne (fun e => by rw [e] at h; simp at h)
theorem set_swap {δ : Env} {j : Nat} {p : Option D} (h : (j != i) = true) : (δ.set i o).set j p = (δ.set j p).set i o := List.set_comm _ _ (fun e => by rw [e] at h; simp at h)
theorem setAll_set : ∀ {ps : List (Nat × D)} {δ : Env}, (∀ p ∈ ps, (p.1 != i) = true) → setAll ps (δ.set i o) = (setAll ps δ).set i o
  | [], _, _ => rfl
  | (j, d) :: r, δ, h => by
    rw [setAll, setAll, set_swap (h (j, d) (List.mem_cons_self ..))]
    exact setAll_set fun p m => h p (List.mem_cons_of_mem _ m)
theorem bindS_set {is : List Nat} {ds : List D} {δ : Env} (h : is.contains i = false) : bindS is ds (δ.set i o) = (bindS is ds δ).map fun δ => δ.set i o := by
  unfold bindS
  split
  · rw [setAll_set fun p m => ?_]
    · rfl
    · have := (List.of_mem_zip m).1
      rw [bne_iff_ne]
      intro e
      rw [e] at this
      rw [List.contains_eq_mem] at h
      simp [this] at h
  · rfl
theorem bindT_set {t : Tg} {d : D} {δ : Env} (h : t.noV i = true) : bindT t d (δ.set i o) = (bindT t d δ).map fun δ => δ.set i o := by
  cases t with
  | nm j =>
    simp only [bindT, Option.map_some]
    rw [set_swap h]
  | tp is =>
    have h' : is.contains i = false := by simpa [Tg.noV] using h
    cases d <;> simp only [bindT, Option.map_none] <;> first | exact bindS_set h' | rfl
theorem shareE_set {δ : Env} : shareE (δ.set i o) = (shareE δ).set i (shareO o) := by unfold shareE; rw [List.map_set]
mutual
theorem ev_set : ∀ {e : E} {o : Option D} {ρ : Env}, e.noV i = true → ev G (ρ.set i o) e = ev G ρ e
  | .var j, _, _, h => by simp only [ev]; rw [set_get h]
  | .unt j, _, _, h => by simp only [ev]; rw [set_get h]
  | .int _, _, _, _ => by simp only [ev]
  | .str _, _, _, _ => by simp only [ev]
  | .bl _, _, _, _ => by simp only [ev]
  | .non, _, _, _ => by simp only [ev]
  | .cst _, _, _, _ => by simp only [ev]
  | .nop, _, _, _ => by simp only [ev]
  | .nil, _, _, _ => by simp only [ev]
  | .cons _ _, _, _, _ => by simp only [ev]
  | .bin _ a b, _, _, h => by
    simp only [E.noV, Bool.and_eq_true] at h
    simp only [ev]
    rw [ev_set h.1]
    congr 1
    funext d
    rw [ev_set h.2]
  | .neg a, _, _, h => by simp only [ev]; rw [ev_set (e := a) h]
  | .cmp _ a b, _, _, h => by
    simp only [E.noV, Bool.and_eq_true] at h
    simp only [ev]
    rw [ev_set h.1]
    congr 1
    funext d
    rw [ev_set h.2]
  | .chain _ _ a b c, _, _, h => by
    simp only [E.noV, Bool.and_eq_true] at h
    simp only [ev]
    rw [ev_set h.1]
    congr 1
    funext d
    rw [ev_set h.2.1]
    congr 1
    funext e
    rw [ev_set h.2.2]
  | .and a b, _, _, h => by
    simp only [E.noV, Bool.and_eq_true] at h
    simp only [ev]
    rw [ev_set h.1, ev_set h.2]
  | .or a b, _, _, h => by
    simp only [E.noV, Bool.and_eq_true] at h
    simp only [ev]
    rw [ev_set h.1, ev_set h.2]
  | .not a, _, _, h => by simp only [ev]; rw [ev_set (e := a) h]
  | .tup a, _, _, h => by simp only [ev]; rw [evs_set (e := a) h]
  | .lst a, _, _, h => by simp only [ev]; rw [evs_set (e := a) h]
  | .idx a b, _, _, h => by
    simp only [E.noV, Bool.and_eq_true] at h
    simp only [ev]
    rw [ev_set h.1]
    congr 1
    funext d
    rw [ev_set h.2]
  | .slc a b c, _, _, h => by
    simp only [E.noV, Bool.and_eq_true] at h
    simp only [ev]
    rw [ev_set h.1, ev_set h.2.1, ev_set h.2.2]
  | .fld a _, _, _, h => by simp only [ev]; rw [ev_set (e := a) h]
  | .call _ a, _, _, h => by simp only [ev]; rw [evs_set (e := a) h]
  | .meth o' m a, _, _, h => by
    simp only [E.noV, Bool.and_eq_true] at h
    simp only [ev]
    rw [ev_set h.1]
    congr 1
    funext d
    rw [evs_set h.2]
  | .new _ a, _, _, h => by simp only [ev]; rw [evs_set (e := a) h]
  | .blt _ a, _, _, h => by simp only [ev]; rw [evs_set (e := a) h]
  | .comp t k a c e, o, ρ, h => by
    simp only [E.noV, Bool.and_eq_true] at h
    have ht : Tg.noV i t = true := by cases t <;> exact h.1
    simp only [ev]
    rw [evs_set h.2.1]
    congr 1
    funext ds
    congr 1
    funext xs
    congr 3
    funext x
    rw [bindT_set ht]
    cases bindT t x ρ with
    | none => rfl
    | some ρ' =>
      simp only [Option.map_some]
      rw [ev_set h.2.2.1]
      congr 1
      funext b
      cases b <;> try rfl
      rename_i b
      cases b <;> try rfl
      simp only
      rw [ev_set h.2.2.2]
theorem evs_set : ∀ {e : E} {o : Option D} {ρ : Env}, e.noV i = true → evs G (ρ.set i o) e = evs G ρ e
  | .cons a b, _, _, h => by
    simp only [E.noV, Bool.and_eq_true] at h
    simp only [evs]
    rw [ev_set h.1]
    congr 1
    funext d
    rw [evs_set h.2]
  | .var _, _, _, _ => by simp only [evs]
  | .unt _, _, _, _ => by simp only [evs]
  | .int _, _, _, _ => by simp only [evs]
  | .str _, _, _, _ => by simp only [evs]
  | .bl _, _, _, _ => by simp only [evs]
  | .non, _, _, _ => by simp only [evs]
  | .cst _, _, _, _ => by simp only [evs]
  | .nop, _, _, _ => by simp only [evs]
  | .nil, _, _, _ => by simp only [evs]
  | .bin _ _ _, _, _, _ => by simp only [evs]
  | .neg _, _, _, _ => by simp only [evs]
  | .cmp _ _ _, _, _, _ => by simp only [evs]
  | .chain _ _ _ _ _, _, _, _ => by simp only [evs]
  | .and _ _, _, _, _ => by simp only [evs]
  | .or _ _, _, _, _ => by simp only [evs]
  | .not _, _, _, _ => by simp only [evs]
  | .tup _, _, _, _ => by simp only [evs]
  | .lst _, _, _, _ => by simp only [evs]
  | .idx _ _, _, _, _ => by simp only [evs]
  | .slc _ _ _, _, _, _ => by simp only [evs]
  | .fld _ _, _, _, _ => by simp only [evs]
  | .call _ _, _, _, _ => by simp only [evs]
  | .meth _ _ _, _, _, _ => by simp only [evs]
  | .new _ _, _, _, _ => by simp only [evs]
  | .blt _ _, _, _, _ => by simp only [evs]
  | .comp _ _ _ _ _, _, _, _ => by simp only [evs]
end
theorem frzAt_set : ∀ {vs : List Nat} {δ : Env}, vs.contains i = false → frzAt vs (δ.set i o) = (frzAt vs δ).set i o
  | [], _, _ => rfl
  | j :: r, δ, h => by
    have h' : i ≠ j ∧ r.contains i = false := by simpa [List.contains_cons] using h
    have hj : (j != i) = true := by rw [bne_iff_ne]; exact fun e => h'.1 e.symm
    rw [frzAt, frzAt, set_get hj, set_swap hj]
    exact frzAt_set h'.2
theorem maskE_set {vs : List Nat} {δ : Env} (h : vs.contains i = false) : maskE vs (δ.set i o) = maskE vs δ := by
  refine List.ext_getElem? fun j => ?_
  unfold maskE
  rw [List.getElem?_map, List.getElem?_map, List.getElem?_zipIdx, List.getElem?_zipIdx]
  by_cases e : j = i
  · subst e
    have h' : j ∉ vs := by rw [List.contains_eq_mem] at h; simpa using h
    cases q : δ[j]? with
    | none => rw [List.getElem?_eq_none (by rw [List.length_set]; exact List.getElem?_eq_none_iff.mp q)]
    | some w => rw [List.getElem?_set_self (List.getElem?_eq_some_iff.mp q).1]; simp [h']
  · rw [List.getElem?_set_ne (Ne.symm e)]
def mapR {α : Type} (i : Nat) (o : Option D) (r : Res (α × Env)) : Res (α × Env) := r.bind fun p => .ok (p.1, p.2.set i o)
mutual
theorem evM_set : ∀ {m : M} {δ : Env}, m.noV i = true → evM G (δ.set i o) m = mapR i o (evM G δ m)
  | .ex e, δ, h => by
    simp only [evM]
    rw [shareE_set, ev_set (e := e) h]
    cases ev G (shareE δ) e with
    | ok d => simp only [Res.bind]; split <;> rfl
    | er c => rfl
    | st => rfl
  | .exf vs e, δ, h => by
    have h' : vs.contains i = false := by simpa [M.noV] using h
    simp only [evM]
    rw [frzAt_set h', maskE_set h']
    cases ev G (maskE vs (frzAt vs δ)) e <;> rfl
  | .mv j, δ, h => by
    simp only [evM]
    rw [set_get h]
    cases δ[j]? with
    | none => rfl
    | some o' =>
      cases o' with
      | none => rfl
      | some d => simp only; rw [set_swap h]; rfl
  | .tp as, δ, h => by
    simp only [evM]
    rw [evMs_set (m := as) h]
    cases evMs G δ as with
    | ok p => simp only [Res.bind, mapR]; split <;> rfl
    | er c => rfl
    | st => rfl
  | .ls as, δ, h => by
    simp only [evM]
    rw [evMs_set (m := as) h]
    cases evMs G δ as with
    | ok p => simp only [Res.bind, mapR]; split <;> rfl
    | er c => rfl
    | st => rfl
  | .nil, _, _ => by simp only [evM]; rfl
  | .cons _ _, _, _ => by simp only [evM]; rfl
theorem evMs_set : ∀ {m : M} {δ : Env}, m.noV i = true → evMs G (δ.set i o) m = mapR i o (evMs G δ m)
  | .nil, _, _ => by simp only [evMs]; rfl
  | .cons a as, δ, h => by
    simp only [M.noV, Bool.and_eq_true] at h
    simp only [evMs]
    rw [evM_set h.1]
    cases evM G δ a with
    | er c => rfl
    | st => rfl
    | ok p =>
      simp only [Res.bind, mapR]
      rw [evMs_set h.2]
      cases evMs G p.2 as <;> rfl
  | .ex _, _, _ => by simp only [evMs]; rfl
  | .exf _ _, _, _ => by simp only [evMs]; rfl
  | .mv _, _, _ => by simp only [evMs]; rfl
  | .tp _, _, _ => by simp only [evMs]; rfl
  | .ls _, _, _ => by simp only [evMs]; rfl
end
/-- the slot i, whatever comes -/
def Out.put (i : Nat) (o : Option D) : Out → Out
  | .nx δ => .nx (δ.set i o)
  | .bk δ => .bk (δ.set i o)
  | .ct δ => .ct (δ.set i o)
  | .er c δ => .er c (δ.set i o)
  | .rt d => .rt d
  | .st => .st
theorem go_set {α : Type} {r : Res α} {δ : Env} {k k' : α → Out} (h : ∀ a, k' a = (k a).put i o) : r.go (δ.set i o) k' = (r.go δ k).put i o := by
  cases r with
  | ok a => exact h a
  | er c => rfl
  | st => rfl
theorem goM_set {α : Type} {r : Res (α × Env)} {δ : Env} {k k' : α × Env → Out} (h : ∀ p : α × Env, k' (p.1, p.2.set i o) = (k p).put i o) : (mapR i o r).go (δ.set i o) k' = (r.go δ k).put i o := by
  cases r with
  | ok p => exact h p
  | er c => rfl
  | st => rfl
theorem forL_set {b : Env → Out} {t : Tg} (ht : t.noV i = true) (hb : ∀ δ, b (δ.set i o) = (b δ).put i o) : ∀ {xs : List D} {δ : Env}, forL b t xs (δ.set i o) = (forL b t xs δ).put i o
  | [], _ => rfl
  | x :: r, δ => by
    rw [forL, forL, bindT_set ht]
    cases bindT t x δ with
    | none => rfl
    | some δ1 =>
      simp only [Option.map_some]
      rw [hb]
      cases b δ1 with
      | nx δ2 => exact forL_set ht hb
      | ct δ2 => exact forL_set ht hb
      | bk δ2 => rfl
      | rt d => rfl
      | er c δ2 => rfl
      | st => rfl
theorem exec_set : ∀ {s : S} {δ : Env}, s.noV i = true → exec G s (δ.set i o) = (exec G s δ).put i o
  | .skip, _, _ => by simp only [exec]; rfl
  | .seq a b, δ, h => by
    simp only [S.noV, Bool.and_eq_true] at h
    simp only [exec]
    rw [exec_set h.1]
    cases exec G a δ with
    | nx δ' => exact exec_set h.2
    | _ => rfl
  | .asg t m, δ, h => by
    simp only [S.noV, Bool.and_eq_true] at h
    simp only [exec]
    rw [evM_set h.2]
    refine goM_set fun p => ?_
    unfold bindG
    simp only
    rw [bindT_set h.1]
    cases bindT t p.1 p.2 <;> rfl
  | .app x m, δ, h => by
    simp only [S.noV, Bool.and_eq_true] at h
    simp only [exec, ownAt]
    rw [set_get h.1]
    split
    · rw [evM_set h.2]
      refine goM_set fun p => ?_
      simp only
      rw [set_get h.1]
      split
      · split
        · rw [set_swap h.1]; rfl
        · rfl
      · rfl
    · rfl
  | .aug j op e, δ, h => by
    simp only [S.noV, Bool.and_eq_true] at h
    simp only [exec]
    rw [set_get h.1]
    split
    · rw [shareE_set, ev_set h.2]
      refine go_set fun d => ?_
      cases d <;> try rfl
      refine go_set fun r => ?_
      rw [set_swap h.1]; rfl
    · rw [shareE_set, ev_set h.2]
      refine go_set fun d => ?_
      cases d <;> try rfl
      refine go_set fun r => ?_
      rw [set_swap h.1]; rfl
    · rfl
  | .exp e, δ, h => by
    simp only [exec]
    rw [shareE_set, ev_set (e := e) h]
    exact go_set fun d => rfl
  | .ife c a b, δ, h => by
    simp only [S.noV, Bool.and_eq_true] at h
    simp only [exec]
    rw [shareE_set, ev_set h.1]
    refine go_set fun d => ?_
    cases d <;> try rfl
    rename_i v
    cases v
    · exact exec_set h.2.2
    · exact exec_set h.2.1
  | .for_ t k none as b, δ, h => by
    simp only [S.noV, Bool.and_eq_true] at h
    simp only [exec]
    rw [shareE_set, evs_set h.2.1]
    refine go_set fun ds => ?_
    split
    · exact go_set fun xs => forL_set h.1 fun δ => exec_set h.2.2
    · rfl
  | .for_ t k (some vs) as b, δ, h => by
    simp only [S.noV, Bool.and_eq_true] at h
    have h' : vs.contains i = false := by simpa using h.2.1
    simp only [exec]
    rw [frzAt_set h', maskE_set h']
    exact go_set fun ds => go_set fun xs => forL_set h.1 fun δ => exec_set h.2.2
  | .ret m, δ, h => by
    simp only [exec]
    rw [evM_set (m := m) h]
    exact goM_set fun p => rfl
  | .retN, _, _ => by simp only [exec]; rfl
  | .rse _, _, _ => by simp only [exec]; rfl
  | .brk, _, _ => by simp only [exec]; rfl
  | .cnt, _, _ => by simp only [exec]; rfl
  | .pop _ _, _, h => by simp [S.noV] at h
  | .drp _, _, h => by simp [S.noV] at h
  | .ext _ _, _, h => by simp [S.noV] at h
  | .clr _, _, h => by simp [S.noV] at h
  | .rvs _, _, h => by simp [S.noV] at h
  | .clrT _ _, _, h => by simp [S.noV] at h
  | .setd _ _ _, _, h => by simp [S.noV] at h
  | .rem _ _, _, h => by simp [S.noV] at h
  | .ins _ _ _, _, h => by simp [S.noV] at h
  | .seti _ _ _, _, h => by simp [S.noV] at h
  | .stL _ _ _, _, h => by simp [S.noV] at h
  | .apAll _ _ _ _, _, h => by simp [S.noV] at h
  | .whl _ _, _, h => by simp [S.noV] at h
  | .forK _ _ _ _ _, _, h => by simp [S.noV] at h
  | .tri _ _, _, h => by simp [S.noV] at h
  | .hnd _ _ _ _, _, h => by simp [S.noV] at h
  | .tag _ _, _, h => by simp [S.noV] at h
  | .untg _, _, h => by simp [S.noV] at h
end

/-! ## A walk over what a name holds, that does not name it: the name holds it still -/
section
variable {K : PySem.W.Frag} {ca : String → Option Addr} {G : Gam} {W : WE} {H0 H H1 H' : Hp} {P0 Mm : Addr → Prop} {δ : Env} {σ : L2.St} {own : Nat → List Addr} {D0 : Ends} {i : Nat} {d0 : D} {s : S}
theorem rep_ref {P : Addr → Prop} {d : D} {v : V} {F : List Addr} (r : Rep K ca H P d v F) (h : refD d = true) : ∃ a, v = .ref a := by
  cases r <;> first | exact ⟨_, rfl⟩ | (simp [refD] at h)
/-- the slot is hidden, what it owns is forbidden -/
theorem SEnv.hide {a : Addr} (b : SEnv K ca H0 P0 Mm δ σ H [] [] own []) (hd : δ[i]? = some (some d0)) (hv : σ[i]? = some (some (.ref a))) :
    SEnv K ca H (fun x => P0 x ∨ x ∈ own i) (fun x => ∃ j, x ∈ setO own i [] j) (δ.set i (some (.hid a))) σ H [] [] (setO own i []) [] := by
  have hl : i < δ.length := (List.getElem?_eq_some_iff.mp hd).1
  refine ⟨by rw [List.length_set]; exact b.len, fun j d h => ?_, fun j => ?_, fun j k x n m m' => ?_, fun j x m => ?_, fun j x m => .inl ⟨j, m⟩, .nil, .nil, by simp, by simp, ExO.refl _ _, fun x z => ?_, fun x ⟨j, m⟩ z => ?_⟩
  · rcases set_at h with ⟨e, z, _⟩ | ⟨n, z⟩
    · cases z
      subst e
      exact ⟨_, hv, by rw [setO_at]; exact .hid a⟩
    · obtain ⟨v, h1, h2⟩ := b.rep j d z
      refine ⟨v, h1, ?_⟩
      rw [setO_ne n]
      refine h2.forb fun x z => .inl ?_
      rcases z with (z | z) | ⟨k, z⟩ | z
      · exact .inl z
      · exact .inr (.inl ⟨i, z⟩)
      · rcases setO_mem z with ⟨_, z⟩ | ⟨_, z⟩
        · simp at z
        · exact .inr (.inl ⟨k, z⟩)
      · simp at z
  · by_cases e : j = i
    · rw [e, setO_at]; exact List.nodup_nil
    · rw [setO_ne e]; exact b.nd j
  · rcases setO_mem m with ⟨_, z⟩ | ⟨n1, z⟩
    · simp at z
    · rcases setO_mem m' with ⟨_, z'⟩ | ⟨n2, z'⟩
      · simp at z'
      · exact b.dj j k x n z z'
  · rcases setO_mem m with ⟨_, z⟩ | ⟨n1, z⟩
    · simp at z
    · exact b.trk j x z
  · rcases z with z | z
    · exact b.p1 x z
    · intro n
      obtain ⟨o, h, _⟩ := b.trk i x z
      rw [h] at n; cases n
  · rcases setO_mem m with ⟨_, m⟩ | ⟨n1, m⟩
    · simp at m
    · rcases z with z | z
      · exact b.off m z
      · exact b.dj j i x n1 m z
/-- and holds again what it held -/
theorem SEnv.unhide {a : Addr} {δ' : Env} {σ' : L2.St} {own' : Nat → List Addr} {F : List Addr} (b : SEnv K ca H0 P0 Mm δ σ H1 [] [] own []) (hd : δ[i]? = some (some d0)) (hv : σ[i]? = some (some (.ref a))) (hF : F = [])
    (t : SEnv K ca H1 (fun x => P0 x ∨ x ∈ own i) (fun x => ∃ j, x ∈ setO own i [] j) (δ'.set i (some (.hid a))) σ' H' [] [] own' []) (hl : i < δ'.length) : ∃ own2, SEnv K ca H0 P0 Mm (δ'.set i (some d0)) σ' H' [] [] own2 [] := by
  obtain ⟨v, q1, q2⟩ := t.rep i (.hid a) (by rw [List.getElem?_set_self hl])
  have oi : own' i = [] ∧ v = .ref a := by
    generalize own' i = O at q2
    cases q2
    exact ⟨rfl, rfl⟩
  obtain ⟨oi, rfl⟩ := oi
  obtain ⟨v0, h1, h2⟩ := b.rep i d0 hd
  rw [hv] at h1
  cases h1
  have off : ∀ k x, x ∈ own' k → x ∉ own i := fun k x m m' => t.off m (.inr m')
  have nw : ∀ k x, x ∈ own' k → (∃ j, x ∈ own j) ∨ H1 x = none := fun k x m => (t.new k x m).imp (fun ⟨j, z⟩ => by
    rcases setO_mem z with ⟨_, z⟩ | ⟨_, z⟩
    · simp at z
    · exact ⟨j, z⟩) id
  have sub : ∀ x, PAll P0 (setO own' i (own i)) [] x → PAll (fun x => P0 x ∨ x ∈ own i) own' [] x := fun x z => by
    rcases z with z | ⟨k, z⟩ | z
    · exact .inl (.inl z)
    · rcases setO_mem z with ⟨_, z⟩ | ⟨_, z⟩
      · exact .inl (.inr z)
      · exact .inr (.inl ⟨k, z⟩)
    · simp at z
  have b' : SEnv K ca H1 P0 (fun x => ∃ j, x ∈ own j) δ σ H1 [] [] own [] := b.rebase
  have ex : ExO (fun x => ∃ j, x ∈ setO own i [] j) H1 H' := t.exo
  have r0 : Rep K ca H' (PAll P0 (setO own' i (own i)) []) d0 (.ref a) (own i) := by
    refine Rep.exoF (P := PAll P0 own []) ex (fun x ⟨j, z⟩ => ?_) (fun x z => ?_) (fun x m ⟨j, z⟩ => ?_) h2
    · rcases setO_mem z with ⟨_, z⟩ | ⟨n, z⟩
      · simp at z
      · exact .inr (.inl ⟨j, z⟩)
    · rcases z with z | ⟨k, z⟩ | z
      · exact .inl (.inl z)
      · rcases setO_mem z with ⟨_, z⟩ | ⟨_, z⟩
        · exact .inl (.inr (.inl ⟨i, z⟩))
        · exact (nw k x z).imp (fun z => .inr (.inl z)) id
      · simp at z
    · rcases setO_mem z with ⟨_, z⟩ | ⟨n, z⟩
      · simp at z
      · exact b.dj j i x n z m
  refine ⟨setO own' i (own i), b.back (t := ?_)⟩
  refine ⟨by rw [List.length_set]; have := t.len; rwa [List.length_set] at this, fun j d h => ?_, fun j => ?_, fun j k x n m m' => ?_, fun j x m => ?_, fun j x m => ?_, .nil, .nil, by simp, by simp, ?_, b'.p0, b'.md⟩
  · rcases set_at h with ⟨e, z, _⟩ | ⟨n, z⟩
    · cases z
      subst e
      exact ⟨_, q1, by rw [setO_at]; exact r0⟩
    · obtain ⟨v, h1, h2⟩ := t.rep j d (by rw [List.getElem?_set_ne (Ne.symm n)]; exact z)
      refine ⟨v, h1, ?_⟩
      rw [setO_ne n]
      exact h2.forb fun x z => .inl (sub x z)
  · by_cases e : j = i
    · rw [e, setO_at]; exact b.nd i
    · rw [setO_ne e]; exact t.nd j
  · rcases setO_mem m with ⟨e1, z⟩ | ⟨n1, z⟩
    · rcases setO_mem m' with ⟨e2, z'⟩ | ⟨n2, z'⟩
      · exact n (e1.trans e2.symm)
      · exact off k x z' z
    · rcases setO_mem m' with ⟨_, z'⟩ | ⟨n2, z'⟩
      · exact off j x z z'
      · exact t.dj j k x n z z'
  · rcases setO_mem m with ⟨e1, z⟩ | ⟨n1, z⟩
    · obtain ⟨o, h, l⟩ := b.trk i x z
      refine ⟨o, ex x o h (.inl fun ⟨j, z'⟩ => ?_), l⟩
      rcases setO_mem z' with ⟨_, z'⟩ | ⟨n, z'⟩
      · simp at z'
      · exact b.dj j i x n z' z
    · exact t.trk j x z
  · rcases setO_mem m with ⟨e1, z⟩ | ⟨n1, z⟩
    · exact .inl ⟨i, z⟩
    · exact nw j x z
  · exact ex.mono fun x ⟨j, z⟩ => by
      rcases setO_mem z with ⟨_, z⟩ | ⟨_, z⟩
      · simp at z
      · exact ⟨j, z⟩

/-- the walk itself -/
theorem forK_core {K : PySem.W.Frag} {H0 H1 : Hp} {P0 Mm P2 : Addr → Prop} {δ : Env} {σ : L2.St} {own : Nat → List Addr} {D : Ends} {ds xs : List Ev.D} {vs : List V} {J : It} {Gd : Hp → Prop} {Y : Nat → Hp → V → Hp → Prop} {t : Tg} (b : SEnv K ca H0 P0 Mm δ σ H1 [] [] own [])
    (hP : ∀ a, (∃ j, a ∈ own j) → P2 a) (h2 : ∀ a, P0 a → P2 a ∨ ∃ o, H1 a = some o ∧ LD o) (nf : noFrzs xs = true)
    (rs : Reps K ca H1 P2 (shares ds) vs []) (w : IsW K ca ds vs H1 J xs Gd Y) (h : OutP K ca W H0 P0 Mm D (forL (exec G s) t xs δ)) :
    ∃ U : Nat → Nat → L2.St → Hp → Prop, (∃ m, U 0 m σ H1) ∧ ∀ i m σ H, U i m σ H →
      (J.stop i H ∧ D.nx σ H) ∨ (J.go i H ∧ ∃ N : L2.St → Hp → Prop, (∀ σ' H', N σ' H' → ∃ m', m' < m ∧ U (i + 1) m' σ' H') ∧ ∀ x H', J.yld i H x H' → gT K t x σ H' fun σ2 H2 => tS K ca G W s { D with nx := N, ct := N, bk := D.nx } σ2 H2) := by
  refine for_it w.walk (fun i σ Hh => ∃ δ own', SEnv K ca H1 P0 (fun a => ∃ j, a ∈ own j) δ σ Hh [] [] own' [] ∧ OutP K ca W H1 P0 (fun a => ∃ j, a ∈ own j) D (forL (exec G s) t (xs.drop i) δ))
    ⟨δ, own, b.rebase, OutP.rebase b h⟩ (fun i σ Hh hi ⟨δ, own', b', h'⟩ => w.keep _ rs Hh (b'.exo.mono hP)) (fun i x σ Hh Hh' hi ⟨δ, own', b', h'⟩ y => ?_) (fun σ Hh ⟨δ, own', b', h'⟩ => ?_)
  · obtain ⟨x2, d, hd, rd⟩ := w.item _ rs i Hh x Hh' hi (b'.exo.mono hP) y
    have e : xs.drop i = d :: xs.drop (i + 1) := by
      obtain ⟨hl, he⟩ := List.getElem?_eq_some_iff.mp hd
      rw [← he]
      exact List.drop_eq_getElem_cons hl
    have nd : noFrz d = true := by
      have key : ∀ (xs : List Ev.D), noFrzs xs = true → d ∈ xs → noFrz d = true := by
        intro xs
        induction xs with
        | nil => intro _ m; cases m
        | cons a r ih =>
          intro n m
          simp only [noFrzs, Bool.and_eq_true] at n
          rcases List.mem_cons.mp m with e | m
          · rw [e]; exact n.1
          · exact ih n.2 m
      exact key xs nf (List.mem_of_getElem? hd)
    rw [e, forL] at h'
    have bx := b'.ext x2
    have r1 : Reps K ca Hh' (PAll P0 own' []) [d] [x] [] := .cons (F := []) (F' := []) (Rep.free (P := P2) (fun a z => by
      rcases z with z | ⟨j, z⟩ | z
      · rcases h2 a z with q | ⟨o, q, l⟩
        · exact .inl q
        · exact .inr (.inr ⟨o, bx.exo a o q (.inl fun m => bx.md a m z), l⟩)
      · exact .inr (.inr (bx.trk j a z))
      · simp at z) nd (rd _ fun a z => .inl z)) .nil
    have bh : SEnv K ca H1 P0 (fun a => ∃ j, a ∈ own j) δ σ Hh' [d] [x] own' [] := { b'.ext x2 with hand := r1 }
    cases q : bindT t d δ with
    | none => rw [q] at h'; exact h'.elim
    | some δ1 =>
      rw [q] at h'
      dsimp only at h'
      refine sgT bh q fun σ2 own2 b2 => ⟨H1, P0, _, δ1, own2, b2, ?_⟩
      cases q2 : exec G s δ1 with
      | nx δ2 => rw [q2] at h'; exact fun σ3 H3 own3 b3 => ⟨δ2, own3, b3, h'⟩
      | ct δ2 => rw [q2] at h'; exact fun σ3 H3 own3 b3 => ⟨δ2, own3, b3, h'⟩
      | bk δ2 => rw [q2] at h'; exact h'
      | rt d => rw [q2] at h'; exact h'
      | er c δ2 => rw [q2] at h'; exact h'
      | st => rw [q2] at h'; exact h'
  · rw [List.drop_length, forL] at h'
    exact h' σ Hh own' b'

theorem put_len {i : Nat} {o : Option D} {r : Out} : ∀ δ, r.put i o = .nx δ → ∃ δ', r = .nx δ' ∧ δ = δ'.set i o := fun δ h => by
  cases r <;> simp only [Out.put] at h <;> cases h
  exact ⟨_, rfl, rfl⟩
theorem forL_nobk {b : Env → Out} {t : Tg} : ∀ {xs : List D} {δ : Env}, (∀ δ', forL b t xs δ ≠ .bk δ') ∧ ∀ δ', forL b t xs δ ≠ .ct δ'
  | [], _ => ⟨fun _ h => (by cases h), fun _ h => (by cases h)⟩
  | x :: r, δ => by
    rw [forL]
    split
    · exact ⟨fun _ h => (by cases h), fun _ h => (by cases h)⟩
    · split
      · exact forL_nobk
      · exact forL_nobk
      · exact ⟨fun _ h => (by cases h), fun _ h => (by cases h)⟩
      · rename_i n1 n2 n3
        exact ⟨fun δ' h => n3 δ' h, fun δ' h => n2 δ' h⟩
/-- what comes of a walk with the slot hidden, of what comes with the slot kept -/
theorem OutP.unhide {a : Addr} {D : Ends} {r : Out} (b : SEnv K ca H0 P0 Mm δ σ H1 [] [] own []) (hd : δ[i]? = some (some d0)) (hv : σ[i]? = some (some (.ref a))) (hb : ∀ δ', r ≠ .bk δ') (hc : ∀ δ', r ≠ .ct δ') (h : OutP K ca W H0 P0 Mm D (keepO i d0 r)) :
    OutP K ca W H1 (fun x => P0 x ∨ x ∈ own i) (fun x => ∃ j, x ∈ setO own i [] j) D (r.put i (some (.hid a))) := by
  cases r with
  | nx δ' =>
    intro σ' H' own' t
    simp only [keepO] at h
    split at h
    · rename_i hl
      obtain ⟨_, u⟩ := SEnv.unhide (F := []) b hd hv rfl t hl
      exact h σ' H' _ u
    · exact h.elim
  | bk δ' => exact (hb δ' rfl).elim
  | ct δ' => exact (hc δ' rfl).elim
  | st => exact h
  | er c δ' =>
    intro σ' H' own' t
    simp only [keepO] at h
    split at h
    · rename_i hl
      obtain ⟨_, u⟩ := SEnv.unhide (F := []) b hd hv rfl t hl
      exact h σ' H' _ u
    · exact h.elim
  | rt d =>
    intro v H' F e n f r
    have sub : ∀ x, (∃ j, x ∈ setO own i [] j) → ∃ j, x ∈ own j := fun x ⟨j, z⟩ => by
      rcases setO_mem z with ⟨_, z⟩ | ⟨_, z⟩
      · simp at z
      · exact ⟨j, z⟩
    refine OutP.rebase b h v H' F (e.mono sub) n (fun x m => (f x m).imp (sub x) id) (r.forb fun x z => .inl ?_)
    rcases z with z | z
    · exact .inl (.inl z)
    · exact .inr z
theorem forK_all {K : PySem.W.Frag} {D : Ends} {σ : L2.St} {H : Hp} {t : Tg} {k : ItK} {as' : E} (h : tS K ca G W (.forK i t k as' s) D σ H) : tFor (tI K ca G W k as') (gT K t) (tS K ca G W s) D σ H := by
  obtain ⟨H0, P0, Mm, δ, own, b, h⟩ := h
  rw [exec] at h
  split at h
  · rename_i d0 hd
    split at h
    · rename_i hc
      simp only [Bool.and_eq_true] at hc
      obtain ⟨c1, c2, c3⟩ := hc
      have tp : Trk (PAll P0 (setO own i []) []) H := fun x z => b.pall x (by
        rcases z with z | ⟨j, z⟩ | z
        · exact .inl z
        · rcases setO_mem z with ⟨_, z⟩ | ⟨_, z⟩
          · simp at z
          · exact .inr (.inl ⟨j, z⟩)
        · simp at z)
      have be : BEnv K ca (maskE [i] (shareE δ)) σ H (PAll P0 (setO own i []) []) := by
        refine ⟨by unfold maskE shareE; simp [b.len], fun j d e => ?_⟩
        obtain ⟨m, e'⟩ := maskE_at e
        obtain ⟨d', e2, rfl⟩ := shareE_at e'
        obtain ⟨v, h1, h2⟩ := b.rep j d' e2
        have ej : j = i := by simpa using m
        subst ej
        refine ⟨v, h1, h2.shr (fun x z => ?_) fun x m z => ?_⟩
        · rcases z with z | ⟨k, z⟩ | z
          · exact .inl z
          · rcases setO_mem z with ⟨_, z⟩ | ⟨_, z⟩
            · simp at z
            · exact .inr (.inl ⟨k, z⟩)
          · simp at z
        · rcases z with z | ⟨k, z⟩ | z
          · exact b.off m z
          · rcases setO_mem z with ⟨_, z⟩ | ⟨n, z⟩
            · simp at z
            · exact b.dj k j x n z m
          · simp at z
      refine ⟨_, _, be, tp, ?_⟩
      cases q : evs G (maskE [i] (shareE δ)) as' with
      | st => rw [q] at h; exact h
      | er c => rw [q] at h; exact fun H' x => h σ H' own (b.ext x)
      | ok ds =>
        rw [q] at h
        simp only [Res.go] at h
        cases q2 : itemsF k ds with
        | st => rw [q2] at h; exact h.elim
        | er c => exact (items_er q2).elim
        | ok xs =>
          rw [q2] at h
          simp only at h
          split at h
          · rename_i nf
            refine ⟨xs, q2, fun vs H1 F x n f r J Gd Y w => ?_⟩
            have b1 := b.ext x
            obtain ⟨v, hv, rv⟩ := b1.rep i d0 hd
            obtain ⟨a, rfl⟩ := rep_ref rv c1
            have h' := OutP.unhide b1 hd hv (fun δ' => forL_nobk.1 δ') (fun δ' => forL_nobk.2 δ') h
            rw [← forL_set c2 fun δ => exec_set c3, List.set_set] at h'
            refine forK_core (P2 := PAll P0 (setO own i []) []) (SEnv.hide b1 hd hv) (fun x z => .inr (.inl z)) (fun x z => ?_) nf (r.shr (fun x z => .inl z) fun x m z => tp x z (f x m)) w h'
            exact z.imp (fun z => .inl z) fun z => b1.trk i x z
          · exact h.elim
    · exact h.elim
  · exact h.elim
end
section
variable {X : Cx} {ca : String → Option Addr} {G : Gam} {W : WE} {s : S} {pos : Pos}
theorem ss_forK {tg iter : Expr} {body : List Stmt} {t : Tg} {k : ItK} {as' : E} (i : Nat) (hp : PassesOwn (model X.prog X.w) X.A X.env X.xe) (hc : X.calm = true) (hi : SI X ca G W tg iter k as') (hg : PG X tg (gT X.K t)) (hb : SSs X ca G W body s)
    (hs : ∀ x, foldedSetIterable iter X.env x = pure x := by intro _; rfl) : SS X ca G W (.For tg iter body [] pos) (.forK i t k as' s) :=
  PS.imp (ps_for hp hc hi hg hb hs) fun D σ H h => forK_all h
end
end Ev
namespace Ev
open PySem L2

/-! ## A list that lies within a value -/
/-- where it lies: within a tuple, within a list of its own -/
inductive Fr where | tp (pre post : List D) | ls (pre post : List D)
def plug : List Fr → D → D
  | [], d => d
  | .tp p q :: r, d => .tup (p ++ plug r d :: q)
  | .ls p q :: r, d => .lst true (p ++ plug r d :: q)
/-- the way to it in the heap -/
inductive Way (K : PySem.W.Frag) (H : Hp) : List Fr → V → Addr → Prop
  | here {l : Addr} : Way K H [] (.ref l) l
  | tp {p q : List D} {r : List Fr} {t l : Addr} {us : List V} {v : V} (h : SqT K H t us) (e : us[p.length]? = some v) (n : us.length = p.length + 1 + q.length) (w : Way K H r v l) : Way K H (.tp p q :: r) (.ref t) l
  | ls {p q : List D} {r : List Fr} {a l : Addr} {us : List V} {v : V} (h : H a = some (.lst us)) (e : us[p.length]? = some v) (n : us.length = p.length + 1 + q.length) (w : Way K H r v l) : Way K H (.ls p q :: r) (.ref a) l
section
variable {K : PySem.W.Frag} {ca : String → Option Addr} {H0 H : Hp} {P0 Mm P : Addr → Prop} {δ : Env} {σ : L2.St} {own : Nat → List Addr}
theorem reps_mid {p q : List D} {d : D} {vs : List V} {F : List Addr} (r : Reps K ca H P (p ++ d :: q) vs F) :
    ∃ vp v vq Fp Fd Fq, vs = vp ++ v :: vq ∧ vp.length = p.length ∧ F = Fp ++ (Fd ++ Fq) ∧ Reps K ca H P p vp Fp ∧ Rep K ca H P d v Fd ∧ Reps K ca H P q vq Fq := by
  obtain ⟨vp, us, Fp, F2, e1, e2, r1, r2⟩ := Reps.split r
  cases r2 with
  | @cons _ v Fd _ vq Fq h r3 => exact ⟨vp, v, vq, Fp, Fd, Fq, e1, r1.length.symm, e2, r1, h, r3⟩
theorem rep_plug {ys : List D} : ∀ {fs : List Fr} {v : V} {F : List Addr}, Rep K ca H P (plug fs (.lst true ys)) v F → F.Nodup → (∀ a ∈ F, P a) →
    ∃ l zs Fl, Way K H fs v l ∧ H l = some (.lst zs) ∧ Reps K ca H P ys zs Fl ∧ l ∉ Fl ∧ l ∈ F ∧ (∀ a ∈ Fl, a ∈ F) ∧ (∀ a p q r, fs = .ls p q :: r → v = .ref a → a ≠ l) ∧ ∀ ys' zs', Reps K ca H P ys' zs' Fl → Rep K ca (upd H l (.lst zs')) P (plug fs (.lst true ys')) v F
  | [], v, F, r, nd, hP => by
    cases r with
    | @own l _ zs Fl h r =>
      have nd' := List.nodup_cons.mp nd
      refine ⟨l, zs, Fl, .here, h, r, nd'.1, List.mem_cons_self .., fun a m => List.mem_cons_of_mem _ m, (fun _ _ _ _ e => by cases e), fun ys' zs' r' => .own upd_same (r'.upd h (hP l (List.mem_cons_self ..)) nd'.1)⟩
  | .tp p q :: fs, v, F, r, nd, hP => by
    cases r with
    | @tup t _ us _ h r =>
      obtain ⟨vp, w, vq, Fp, Fd, Fq, rfl, lp, rfl, r1, r2, r3⟩ := reps_mid r
      have n1 := List.nodup_append.mp nd
      have n2 := List.nodup_append.mp n1.2.1
      obtain ⟨l, zs, Fl, wy, hl, rl, nl, ml, sub, _, up⟩ := rep_plug r2 n2.1 fun a m => hP a (List.mem_append_right _ (List.mem_append_left _ m))
      have pl := hP l (List.mem_append_right _ (List.mem_append_left _ ml))
      refine ⟨l, zs, Fl, .tp h (by rw [List.getElem?_append_right (by omega)]; simp [lp]) (by have := r3.length; simp [lp]; omega) wy, hl, rl, nl, List.mem_append_right _ (List.mem_append_left _ ml), fun a m => List.mem_append_right _ (List.mem_append_left _ (sub a m)), (fun _ _ _ _ e => by cases e), fun ys' zs' r' => ?_⟩
      refine .tup (sqt_upd hl .l h) ((r1.upd hl pl fun m => n1.2.2 l m l (List.mem_append_left _ ml) rfl).append (.cons (up ys' zs' r') (r3.upd hl pl fun m => n2.2.2 l ml l m rfl)))
  | .ls p q :: fs, v, F, r, nd, hP => by
    cases r with
    | @own a _ us F' h r =>
      obtain ⟨vp, w, vq, Fp, Fd, Fq, rfl, lp, rfl, r1, r2, r3⟩ := reps_mid r
      have n0 := List.nodup_cons.mp nd
      have n1 := List.nodup_append.mp n0.2
      have n2 := List.nodup_append.mp n1.2.1
      obtain ⟨l, zs, Fl, wy, hl, rl, nl, ml, sub, _, up⟩ := rep_plug r2 n2.1 fun a m => hP a (List.mem_cons_of_mem _ (List.mem_append_right _ (List.mem_append_left _ m)))
      have ne : a ≠ l := fun e => n0.1 (by rw [e]; exact List.mem_append_right _ (List.mem_append_left _ ml))
      have pl := hP l (List.mem_cons_of_mem _ (List.mem_append_right _ (List.mem_append_left _ ml)))
      refine ⟨l, zs, Fl, .ls h (by rw [List.getElem?_append_right (by omega)]; simp [lp]) (by have := r3.length; simp [lp]; omega) wy, hl, rl, nl, List.mem_cons_of_mem _ (List.mem_append_right _ (List.mem_append_left _ ml)), fun a m => List.mem_cons_of_mem _ (List.mem_append_right _ (List.mem_append_left _ (sub a m))), (fun b _ _ _ _ e => by cases e; exact ne), fun ys' zs' r' => ?_⟩
      refine .own (by rw [upd_ne ne]; exact h) ((r1.upd hl pl fun m => n1.2.2 l m l (List.mem_append_left _ ml) rfl).append (.cons (up ys' zs' r') (r3.upd hl pl fun m => n2.2.2 l ml l m rfl)))
/-- a list within what a slot holds is changed -/
theorem SEnv.inn {x : Nat} {fs : List Fr} {ys : List D} (s : SEnv K ca H0 P0 Mm δ σ H [] [] own []) (hx : δ[x]? = some (some (plug fs (.lst true ys)))) :
    ∃ v l zs Fl, σ[x]? = some (some v) ∧ Way K H fs v l ∧ H l = some (.lst zs) ∧ Reps K ca H (PAll P0 own []) ys zs Fl ∧ l ∈ own x ∧ (∀ a p q r, fs = .ls p q :: r → v = .ref a → a ≠ l) ∧ ∀ ys' zs', Reps K ca H (PAll P0 own []) ys' zs' Fl →
      SEnv K ca H0 P0 Mm (δ.set x (some (plug fs (.lst true ys')))) σ (upd H l (.lst zs')) [] [] own [] := by
  obtain ⟨v, hv, r⟩ := s.rep x _ hx
  obtain ⟨l, zs, Fl, wy, hl, rl, nl, ml, sub, nee, up⟩ := rep_plug r (s.nd x) fun a m => .inr (.inl ⟨x, m⟩)
  have pa : PAll P0 own [] l := .inr (.inl ⟨x, ml⟩)
  refine ⟨v, l, zs, Fl, hv, wy, hl, rl, ml, nee, fun ys' zs' r' => ?_⟩
  refine ⟨by rw [List.length_set]; exact s.len, fun i d q => ?_, s.nd, s.dj, fun i b m => ?_, s.new, .nil, List.nodup_nil, by simp, by simp, fun b o hb q => ?_, s.p0, s.md⟩
  · rcases set_at q with ⟨e, z, _⟩ | ⟨n, z⟩
    · cases z
      subst e
      exact ⟨v, hv, up ys' zs' r'⟩
    · obtain ⟨w, h1, h2⟩ := s.rep i d z
      exact ⟨w, h1, h2.upd hl pa fun m => s.dj i x l n m ml⟩
  · by_cases e : b = l
    · subst e
      exact ⟨_, upd_same, .l⟩
    · obtain ⟨o, ho, lo⟩ := s.trk i b m
      exact ⟨o, by rw [upd_ne e]; exact ho, lo⟩
  · have e := s.exo b o hb q
    by_cases c : b = l
    · subst c
      rcases q with q | q
      · rcases s.new x b ml with z | z
        · exact (q z).elim
        · rw [z] at hb; cases hb
      · rw [hl] at e
        cases e
        cases q
    · rw [upd_ne c]; exact e
theorem reps_setInt {a c : Int} : ∀ {ds : List D} {vs : List V} {F : List Addr} {j : Nat}, Reps K ca H P ds vs F → ds[j]? = some (.int a) → Reps K ca H P (ds.set j (.int c)) (vs.set j (.int c)) F
  | _, _, _, 0, .cons h r, e => by
    cases e
    cases h
    exact .cons (.int c) r
  | _, _, _, j + 1, .cons h r, e => .cons h (reps_setInt (j := j) r (by simpa using e))
  | _, _, _, _, .nil, e => by simp at e
end
theorem atI_end {α : Type} (xs : List α) (h : xs ≠ []) : atI xs (-1) = xs.getLast? := by
  have hp : 0 < xs.length := List.length_pos_iff.mpr h
  unfold atI ixN
  rw [if_neg (by omega), if_pos (by omega)]
  simp only [Option.bind_some]
  rw [List.getLast?_eq_getElem?]
  congr 1
  omega
theorem ixN_at {n j : Nat} (h : j < n) : ixN n (j : Int) = some j := by
  unfold ixN
  rw [if_pos (by omega)]
  simp [h]
/-- a number is put into the list that is the last thing of a list -/
theorem set_last {ds : List D} {es : List D} (h : ds.getLast? = some (.lst true es)) : D.lst true ds = plug [.ls ds.dropLast []] (.lst true es) := by
  have e := List.getLast?_eq_some_iff.mp h
  obtain ⟨ys, rfl⟩ := e
  simp [plug]
section
variable {X : Cx} {ca : String → Option Addr} {G : Gam} {W : WE} {x : Str} {i j k : Nat} {p ip ip2 apos pos pos2 pos3 : Pos} {e : Expr} {e' : E}
theorem stL_core {K : PySem.W.Frag} {D : Ends} {σ : L2.St} {H : Hp} (h : tS K ca G W (.stL i j e') D σ H) : tE K ca G W e' σ H fun v H1 => gSub (tOp (rIxL K) (tVar i) (tE K ca G WF (.neg (.int 1)))) (tC (.int (j : Int))) rSetL v σ H1 D.nx := by
  obtain ⟨H0, P0, Mm, δ, own, b, h⟩ := h
  rw [exec] at h
  split at h
  · rename_i ds hd
    refine go_E b h fun d v H1 F x1 r b1 h1 => ?_
    split at h1
    · rename_i c
      cases r
      split at h1
      · rename_i es hl
        split at h1
        · rename_i a ha
          rw [set_last hl] at hd
          obtain ⟨v, hv, _⟩ := b1.rep i _ hd
          refine ⟨_, hv, _, P0, b1.benv, b1.p1, ?_⟩
          intro v3 H3 F3 x3 n3 f3 r3
          cases r3
          obtain ⟨v', l, zs, Fl, hv', wy, hz, rl, ml, _, up⟩ := (b1.ext x3).inn hd
          rw [hv] at hv'
          cases hv'
          cases wy with
          | @ls _ _ _ a0 _ us w h2 e2 n2 wy =>
            cases wy
            have jl : j < zs.length := by rw [← rl.length]; exact (List.getElem?_eq_some_iff.mp ha).1
            refine ⟨a0, us, -1, .ref l, rfl, rfl, .inl (.inl h2), ?_, l, zs, (j : Int), j, rfl, rfl, hz, ixN_at jl, h1 σ _ _ (up _ _ (reps_setInt rl ha))⟩
            rw [atI_end _ (by intro e; rw [e] at n2; simp at n2), List.getLast?_eq_getElem?, n2]
            exact e2
        · exact h1.elim
      · exact h1.elim
    · exact h1.elim
  · exact h.elim
theorem ss_stL {k2 : Nat} {ip3 spos spos2 : Pos} (n : NmOk X x i) (h : SE X ca G W e e')
    (ha : ∀ v, assign (.Subscript (.Subscript (.Name x p) (.UnaryOp .USub (.Constant (.int 1) k ip) ip2) spos) (.Constant (.int (j : Int)) k2 ip3) spos2) X.env v = (do
      let ov ← holding [v] (eval (.Subscript (.Name x p) (.UnaryOp .USub (.Constant (.int 1) k ip) ip2) spos) X.env)
      let iv ← holding [v, ov] (eval (.Constant (.int (j : Int)) k2 ip3) X.env)
      standAt spos2
      holding [v, ov, iv] (setItem ov iv v)
      release [v, ov, iv] []) := by intro _; rfl)
    (hs : swapsWithSole [.Subscript (.Subscript (.Name x p) (.UnaryOp .USub (.Constant (.int 1) k ip) ip2) spos) (.Constant (.int (j : Int)) k2 ip3) spos2] e pos.line X.env = pure false := by rfl) (hw : swappedStores [.Subscript (.Subscript (.Name x p) (.UnaryOp .USub (.Constant (.int 1) k ip) ip2) spos) (.Constant (.int (j : Int)) k2 ip3) spos2] e X.env = pure none := by rfl)
    (h1 : (assignEach [.Subscript (.Subscript (.Name x p) (.UnaryOp .USub (.Constant (.int 1) k ip) ip2) spos) (.Constant (.int (j : Int)) k2 ip3) spos2] X.env).map (·.2) = [assign (.Subscript (.Subscript (.Name x p) (.UnaryOp .USub (.Constant (.int 1) k ip) ip2) spos) (.Constant (.int (j : Int)) k2 ip3) spos2) X.env] := by rfl) :
    SS X ca G W (.Assign [.Subscript (.Subscript (.Name x p) (.UnaryOp .USub (.Constant (.int 1) k ip) ip2) spos) (.Constant (.int (j : Int)) k2 ip3) spos2] e pos) (.stL i j e') :=
  PS.imp (ps_asg h (pg_sub (pe_ix ix_list n.pe (se_neg se_int) (by exact fun _ _ => rfl)) pe_int set_list ha) hs hw h1) fun D σ H h => stL_core h
end
end Ev
namespace Ev
open PySem L2

/-! ## To the end of a list in each tuple of a list a number is put -/
def tApT (K : PySem.W.Frag) (r j : Nat) (c : Int) : TS := tDrop (tBM K "list" rAppend (tOp (rIxT K) (tVar r) (tC (.int (j : Int)))) (tCons (tC (.int c)) tNil))
section
variable {X : Cx} {ca : String → Option Addr} {G : Gam} {W : WE}
theorem apT_at {j : Nat} {d : D} (h : isApT j d = true) : ∃ es ys, d = .tup es ∧ es[j]? = some (.lst true ys) ∧ ys.length < lineN := by
  unfold isApT at h
  split at h
  · rename_i es
    split at h
    · rename_i ys e
      exact ⟨es, ys, rfl, e, of_decide_eq_true h⟩
    · cases h
  · cases h
theorem split_at {α : Type} {xs : List α} {j : Nat} {x : α} (h : xs[j]? = some x) : xs = xs.take j ++ x :: xs.drop (j + 1) := by
  obtain ⟨hl, e⟩ := List.getElem?_eq_some_iff.mp h
  rw [← e, ← List.drop_eq_getElem_cons hl, List.take_append_drop]
theorem set_split {α : Type} {xs : List α} {j : Nat} {x y : α} (h : xs[j]? = some x) : xs.set j y = xs.take j ++ y :: xs.drop (j + 1) := by
  obtain ⟨hl, _⟩ := List.getElem?_eq_some_iff.mp h
  exact List.set_eq_take_append_cons_drop.trans (by rw [if_pos hl])
theorem set4 {α : Type} {l : List α} {i r : Nat} {a b c d : α} (ne : i ≠ r) : (((l.set i a).set r b).set i c).set r d = (l.set i c).set r d := by
  rw [List.set_comm a b ne, List.set_set, List.set_comm b c (Ne.symm ne), List.set_set]
theorem apAll_core {K : PySem.W.Frag} {D : Ends} {σ : L2.St} {H : Hp} {i r j : Nat} {c : Int} (h : tS K ca G W (.apAll i r j c) D σ H) : tFor (iList K (tVar i)) (gT K (.nm r)) (tApT K r j c) D σ H := by
  obtain ⟨H0, P0, Mm, δ, own, b, h⟩ := h
  rw [exec] at h
  split at h
  · rename_i ds hd
    split at h
    · rename_i hc
      simp only [Bool.and_eq_true, bne_iff_ne, List.all_eq_true, decide_eq_true_eq] at hc
      obtain ⟨ne, rlen, all⟩ := hc
      obtain ⟨a, us, Fx, hv, ho, ha, ra⟩ := b.open_ hd
      have lu : ds.length = us.length := ra.length
      refine ⟨_, hv, a, rfl, ⟨us, .inl (.inl ha)⟩, ?_⟩
      let A : Nat → Env := fun k => (δ.set i (some (.lst true ((ds.take k).map (apT j c) ++ ds.drop k)))).set r none
      refine ⟨fun k m σ' H' => m + k = ds.length ∧ σ'[i]? = some (some (.ref a)) ∧ H' a = some (.lst us) ∧ ∃ own', SEnv K ca H0 P0 Mm (A k) σ' H' [] [] own' [], ⟨ds.length, by omega, hv, ha, ?_⟩, ?_⟩
      · refine ⟨setO own r [], ?_⟩
        have e : A 0 = δ.set r none := by
          show (δ.set i (some (.lst true ((ds.take 0).map (apT j c) ++ ds.drop 0)))).set r none = _
          rw [List.take_zero, List.map_nil, List.nil_append, List.drop_zero]
          congr 1
          refine List.ext_getElem? fun k => ?_
          by_cases q : k = i
          · subst q
            rw [List.getElem?_set_self (List.getElem?_eq_some_iff.mp hd).1, hd]
          · rw [List.getElem?_set_ne (Ne.symm q)]
        rw [e]
        exact b.drop_ r
      · rintro k m σ' H' ⟨hm, hv', ha', own', b'⟩
        rcases Nat.lt_or_ge k ds.length with hk | hk
        · refine .inr ⟨⟨us, _, .inl (.inl ha'), List.getElem?_eq_getElem (by omega)⟩, fun σ2 H2 => (m - 1) + (k + 1) = ds.length ∧ σ2[i]? = some (some (.ref a)) ∧ H2 a = some (.lst us) ∧ ∃ own', SEnv K ca H0 P0 Mm (A (k + 1)) σ2 H2 [] [] own' [], fun σ2 H2 q => ⟨m - 1, by omega, q⟩, ?_⟩
          rintro x H2 ⟨rfl, hx⟩
          have hx := hx us (.inl (.inl ha'))
          have hdk : ds[k]? = some ds[k] := List.getElem?_eq_getElem hk
          obtain ⟨es, ys, ed, ej, ly⟩ := apT_at (all ds[k] (List.getElem_mem hk))
          rw [ed] at hdk
          have il : i < (A k).length := by
            show i < ((δ.set i _).set r none).length
            rw [List.length_set, List.length_set]
            exact (List.getElem?_eq_some_iff.mp hd).1
          have ep : ∀ zs : List Ev.D, plug [.ls ((ds.take k).map (apT j c)) (ds.drop (k + 1)), .tp (es.take j) (es.drop (j + 1))] (.lst true zs) = .lst true ((ds.take k).map (apT j c) ++ .tup (es.set j (.lst true zs)) :: ds.drop (k + 1)) := fun zs => by rw [set_split ej]; rfl
          have e3 : ds.drop k = .tup es :: ds.drop (k + 1) := by rw [List.drop_eq_getElem_cons hk, ed]
          have e4 : es.set j (.lst true ys) = es := by rw [set_split ej]; exact (split_at ej).symm
          have ei : (A k)[i]? = some (some (plug [.ls ((ds.take k).map (apT j c)) (ds.drop (k + 1)), .tp (es.take j) (es.drop (j + 1))] (.lst true ys))) := by
            show ((δ.set i _).set r none)[i]? = _
            rw [List.getElem?_set_ne (Ne.symm ne), List.getElem?_set_self (List.getElem?_eq_some_iff.mp hd).1, ep, e4, e3]
          obtain ⟨v1, l1, zs1, Fl1, g1, w1, _⟩ := b'.inn ei
          rw [hv'] at g1
          cases g1
          obtain ⟨t, rfl⟩ : ∃ t, x = .ref t := by
            cases w1 with
            | @ls _ _ _ _ _ us' w h2 e2 n2 wy =>
              rw [ha'] at h2
              cases h2
              have lk : ((ds.take k).map (apT j c)).length = k := by rw [List.length_map, List.length_take]; omega
              rw [lk, hx] at e2
              cases e2
              cases wy with
              | tp h3 e3 n3 wz => exact ⟨_, rfl⟩
          have bh : SEnv K ca H0 P0 Mm (A k) σ' H2 [.hid t] [.ref t] own' [] := { b' with hand := .cons (F := []) (F' := []) (.hid t) .nil }
          obtain ⟨F1, F2, eF, b2⟩ := bh.take r
          obtain ⟨rfl, rfl⟩ := List.append_eq_nil_iff.mp eF.symm
          show tApT K r j c _ (σ'.set r (some (.ref t))) H2
          have ei2 : ((A k).set r (some (.hid t)))[i]? = some (some (plug [.ls ((ds.take k).map (apT j c)) (ds.drop (k + 1)), .tp (es.take j) (es.drop (j + 1))] (.lst true ys))) := by rw [List.getElem?_set_ne (Ne.symm ne)]; exact ei
          have hv2 : (σ'.set r (some (.ref t)))[i]? = some (some (.ref a)) := by rw [List.getElem?_set_ne (Ne.symm ne)]; exact hv'
          obtain ⟨v, l, zs, Fl, g, w, hz, rl, ml, nel, up⟩ := b2.inn ei2
          rw [hv2] at g
          cases g
          have rl' : (σ'.set r (some (.ref t)))[r]? = some (some (.ref t)) := by
            have : r < σ'.length := by
              rw [← b'.len]
              show r < ((δ.set i _).set r none).length
              rw [List.length_set, List.length_set]
              exact rlen
            exact List.getElem?_set_self this
          cases w with
          | @ls _ _ _ _ _ us' w h2 e2 n2 wy =>
            rw [ha'] at h2
            cases h2
            have lk : ((ds.take k).map (apT j c)).length = k := by rw [List.length_map, List.length_take]; omega
            rw [lk, hx] at e2
            cases e2
            cases wy with
            | tp h3 e3' n3 wz =>
              cases wz
              have lj : (es.take j).length = j := by rw [List.length_take]; have := (List.getElem?_eq_some_iff.mp ej).1; omega
              rw [lj] at e3'
              refine ⟨_, rl', t, _, (j : Int), .ref l, rfl, rfl, h3, by rw [atI_nat]; exact e3', .inl ⟨rfl, zs, .inl (.inl hz)⟩, l, zs, .int c, rfl, rfl, hz, by rw [← rl.length]; exact ly, ?_⟩
              have rn : Reps K ca H2 (PAll P0 (setO own' r []) []) (ys ++ [.int c]) (zs ++ [.int c]) Fl := by
                have := rl.append (.cons (.int c) .nil)
                rwa [List.append_nil, List.append_nil] at this
              have b3 := (up _ _ rn).drop_ r
              refine ⟨by omega, hv2, ?_, setO (setO own' r []) r [], ?_⟩
              · rw [upd_ne (nel a _ _ _ rfl rfl)]; exact ha'
              · have e5 : A (k + 1) = (((A k).set r (some (.hid t))).set i (some (plug [.ls ((ds.take k).map (apT j c)) (ds.drop (k + 1)), .tp (es.take j) (es.drop (j + 1))] (.lst true (ys ++ [.int c]))))).set r none := by
                  rw [ep]
                  have e6 : (ds.take (k + 1)).map (apT j c) ++ ds.drop (k + 1) = (ds.take k).map (apT j c) ++ .tup (es.set j (.lst true (ys ++ [.int c]))) :: ds.drop (k + 1) := by
                    rw [List.take_succ_eq_append_getElem hk, List.map_append, List.append_assoc, ed]
                    simp only [List.map_cons, List.map_nil, apT, ej, List.cons_append, List.nil_append]
                  show (δ.set i (some (.lst true ((ds.take (k + 1)).map (apT j c) ++ ds.drop (k + 1))))).set r none = ((((δ.set i _).set r none).set r _).set i _).set r none
                  rw [e6, List.set_set]
                  exact (set4 ne).symm
                rw [e5]
                exact b3
        · refine .inl ⟨⟨us, .inl (.inl ha'), by omega⟩, ?_⟩
          refine h σ' H' own' ?_
          have e : A k = (δ.set i (some (.lst true (ds.map (apT j c))))).set r none := by
            show (δ.set i _).set r none = _
            rw [List.take_of_length_le hk, List.drop_of_length_le hk, List.append_nil]
          rw [← e]
          exact b'
    · exact h.elim
  · exact h.elim
theorem ss_apAll {x y : Str} {i r j k k2 : Nat} {c : Int} {p p2 p3 ip spos apos pos pos2 pos3 pos4 : Pos} (n : NmOk X x i) (nr : NmOk X y r) (hp : PassesOwn (model X.prog X.w) X.A X.env X.xe) (hc : X.calm = true) (hg : PG X (.Name y p2) (gT X.K (.nm r)))
    (hbase : attributeBase (.Subscript (.Name y p3) (.Constant (.int (j : Int)) k ip) spos) "append" X.env (eval (.Subscript (.Name y p3) (.Constant (.int (j : Int)) k ip) spos) X.env) = eval (.Subscript (.Name y p3) (.Constant (.int (j : Int)) k ip) spos) X.env := by rfl)
    (hfew : ((backTo pos (starEach [Expr.Constant (.int c) k2 pos4] X.env)).all (fun x => !x.1) && (backToKw pos (keywordEach [] X.env)).all (fun x => x.1.isSome) && decide ([Expr.Constant (.int c) k2 pos4].length + ([] : List Keyword).length + (if ([] : List Keyword).isEmpty then 0 else 1) < 30)) = true := by rfl)
    (hline : (apos.endLine == pos.line) = true := by rfl) (hs : starEach [Expr.Constant (.int c) k2 pos4] X.env = (false, eval (Expr.Constant (.int c) k2 pos4) X.env) :: starEach [] X.env := by rfl) (hpl : (backTo pos (starEach [] X.env)).any (·.1) = false := by rfl) (hsw : swapsWith (.Call (.Attribute (.Subscript (.Name y p3) (.Constant (.int (j : Int)) k ip) spos) "append" apos) [Expr.Constant (.int c) k2 pos4] [] pos) none pos2.line X.env = pure false := by rfl)
    (hf : ∀ x1, foldedSetIterable (.Name x p) X.env x1 = pure x1 := by intro _; rfl) :
    SS X ca G W (.For (.Name y p2) (.Name x p) [.Expr (.Call (.Attribute (.Subscript (.Name y p3) (.Constant (.int (j : Int)) k ip) spos) "append" apos) [Expr.Constant (.int c) k2 pos4] [] pos) pos2] [] pos3) (.apAll i r j c) :=
  PS.imp (ps_for hp hc (pi_list n.pe) hg (pss_one (ps_expr (pe_bm PySem.F.plainAttrs_list PySem.F.slot_list_append PySem.F.type_list_append (mt_append (X := X)) (pe_ix ix_tup nr.pe pe_int (by exact fun _ _ => rfl)) (pa_cons pe_int pa_nil hs) hbase hfew hline hs hpl) hsw)) hf) fun D σ H h => apAll_core h
end
end Ev
namespace Ev
open PySem L2

/-! ## Texts put together, and cut -/
section
variable {K : PySem.W.Frag} {ca : String → Option Addr} {H : Hp} {P : Addr → Prop}
theorem reps_strs : ∀ {ds : List D} {vs : List V} {F : List Addr} {ys : List Str}, Reps K ca H P ds vs F → strsOf ds = some ys → vs = ys.map V.str
  | _, _, _, ys, .nil, e => by cases e; rfl
  | _, _, _, ys, .cons h r, e => by
    cases h <;> try (simp [strsOf] at e; done)
    simp only [strsOf] at e
    obtain ⟨q, e1, e2⟩ := Option.map_eq_some_iff.mp e
    rw [reps_strs r e1, ← e2]
    rfl
theorem reps_str : ∀ (ys : List Str), Reps K ca H P (ys.map D.str) (ys.map V.str) []
  | [] => .nil
  | y :: r => .cons (F := []) (F' := []) (.str y) (reps_str r)
end
section
variable {X : Cx} {ca : String → Option Addr} {G : Gam} {W : WE} {pos p2 apos : Pos} {e o : Expr} {a' : E} {sep : Str} {k : Nat}
theorem se_join (he : SE X ca G W e a') (hs : starEach [e] X.env = [(false, eval e X.env)] := by rfl) (hbase : attributeBase (.Constant (.str sep) k p2) "join" X.env (eval (.Constant (.str sep) k p2) X.env) = eval (.Constant (.str sep) k p2) X.env := by rfl) (hline : (apos.endLine == pos.line) = true := by rfl) :
    SE X ca G W (.Call (.Attribute (.Constant (.str sep) k p2) "join" apos) [e] [] pos) (.blt .join (.cons (.str sep) (.cons a' .nil))) := by
  refine PE.imp (pe_join pe_str he hs hbase hline) fun σ H Q ⟨ρ, P, hB, hP, h⟩ => ?_
  rw [ev, evs_two, ev] at h
  simp only [Res.bind] at h
  refine ⟨⟨_, rfl⟩, t_one hB hP h fun d v H1 P1 F1 x1 g1 h1 => ?_⟩
  have h1' : Post X.K ca W σ H1 P (joinF [.str sep, d]) Q := h1
  unfold joinF at h1'
  split at h1'
  · rename_i a _ ds hd
    cases hd
    obtain ⟨a0, ws, F', rfl, ha, rr⟩ := rep_lst g1.rep
    split at h1'
    · rename_i ys hy
      split at h1'
      · rename_i hl
        have ew := reps_strs rr hy
        subst ew
        exact ⟨_, a0, ys, rfl, rfl, .inl (.inl (.inl ha)), hl, h1'.str⟩
      · exact h1'.elim
    · exact h1'.elim
  · exact h1'.elim
theorem se_split (ho : SE X ca G W o a') (hs : starEach [Expr.Constant (.str sep) k p2] X.env = [(false, eval (.Constant (.str sep) k p2) X.env)] := by rfl) (hbase : attributeBase o "split" X.env (eval o X.env) = eval o X.env := by rfl) (hline : (apos.endLine == pos.line) = true := by rfl) :
    SE X ca G W (.Call (.Attribute o "split" apos) [.Constant (.str sep) k p2] [] pos) (.blt .split (.cons a' (.cons (.str sep) .nil))) := by
  refine PE.imp (pe_split ho pe_str hs hbase hline) fun σ H Q ⟨ρ, P, hB, hP, h⟩ => ?_
  rw [ev, evs_two] at h
  refine t_one hB hP h fun d v H1 P1 F1 x1 g1 h1 => ?_
  rw [ev] at h1
  have h1' : Post X.K ca W σ H1 P (splitF [d, .str sep]) Q := h1
  unfold splitF at h1'
  split at h1'
  · rename_i a b hd
    cases hd
    cases g1.rep
    split at h1'
    · rename_i hl
      exact ⟨⟨_, rfl⟩, _, _, rfl, rfl, hl.1, hl.2, fun p hp => h1'.newL (reps_str _) hp⟩
    · exact h1'.elim
  · exact h1'.elim
theorem se_part (ho : SE X ca G W o a') (hs : starEach [Expr.Constant (.str sep) k p2] X.env = [(false, eval (.Constant (.str sep) k p2) X.env)] := by rfl) (hbase : attributeBase o "partition" X.env (eval o X.env) = eval o X.env := by rfl) (hline : (apos.endLine == pos.line) = true := by rfl) :
    SE X ca G W (.Call (.Attribute o "partition" apos) [.Constant (.str sep) k p2] [] pos) (.blt .part (.cons a' (.cons (.str sep) .nil))) := by
  refine PE.imp (pe_partition ho pe_str hs hbase hline) fun σ H Q ⟨ρ, P, hB, hP, h⟩ => ?_
  rw [ev, evs_two] at h
  refine t_one hB hP h fun d v H1 P1 F1 x1 g1 h1 => ?_
  rw [ev] at h1
  have h1' : Post X.K ca W σ H1 P (partF [d, .str sep]) Q := h1
  unfold partF at h1'
  split at h1'
  · rename_i a b hd
    cases hd
    cases g1.rep
    split at h1'
    · rename_i hl
      exact ⟨⟨_, rfl⟩, _, _, rfl, rfl, hl.1, hl.2, fun p hp => h1'.newT (reps_str [_, _, _]) hp⟩
    · exact h1'.elim
  · exact h1'.elim
end
end Ev
namespace Ev
open PySem L2
section
variable {X : Cx} {ca : String → Option Addr} {G : Gam} {W : WE} {pos : Pos}
/-- a number by its name -/
theorem se_cI {x : Str} {n : Int} (g : ∃ t, X.mg x = some (.int n t)) (hg : Gl X x := by rfl) (hd : (x == ("__debug__" : Str)) = false := by decide) : SE X ca G W (.Name x pos) (.int n) := by
  obtain ⟨t, g⟩ := g
  refine PE.imp (pe_glob hg g (v := .int n) ⟨t, rfl⟩ hd) fun σ H Q ⟨ρ, P, hB, hP, h⟩ => ?_
  rw [ev] at h
  exact h.val (.int n)
/-- a text by its name -/
theorem se_cS {x : Str} {z : Str} (g : ∃ t, X.mg x = some (.str z t)) (hg : Gl X x := by rfl) (hd : (x == ("__debug__" : Str)) = false := by decide) : SE X ca G W (.Name x pos) (.str z) := by
  obtain ⟨t, g⟩ := g
  refine PE.imp (pe_glob hg g (v := .str z) ⟨t, rfl⟩ hd) fun σ H Q ⟨ρ, P, hB, hP, h⟩ => ?_
  rw [ev] at h
  exact h.val (.str z)
/-- a statement that is never reached -/
theorem ss_far {st : Stmt} : SS X ca G W st (.hnd [] none .skip .skip) := ⟨fun pins s σ H D I ⟨H0, P0, Mm, δ, own, b, h⟩ => by
  have e : exec G (.hnd [] none .skip .skip) δ = .st := by unfold exec; rfl
  rw [e] at h
  exact h.elim⟩
end
end Ev
namespace Ev
open PySem L2

/-! ## Things known by where they stand -/
section
variable {K : PySem.W.Frag} {ca : String → Option Addr} {G : Gam} {H0 H : Hp} {P P0 Mm : Addr → Prop} {δ : Env} {σ : L2.St} {own : Nat → List Addr} {i : Nat}
theorem reps_tag : ∀ {ds : List D} {as : List Addr} {F : List Addr}, Reps K ca H P ds (as.map V.ref) F → Reps K ca H P (tagL as ds) (as.map V.ref) F
  | [], as, F, r => by
    cases as with
    | nil => exact r
    | cons a as => cases r
  | d :: ds, as, F, r => by
    cases as with
    | nil => cases r
    | cons a as =>
      generalize e : (a :: as).map V.ref = vs at r
      cases r with
      | cons h r =>
        rw [List.map_cons] at e
        injection e with e1 e2
        subst e1 e2
        exact .cons (.at h) (reps_tag r)
theorem ref_of {d : D} {v : V} {F : List Addr} (r : Rep K ca H P d v F) (h : refT d = true) : ∃ a, v = .ref a := by
  cases r <;> first | exact ⟨_, rfl⟩ | (simp [refT] at h)
theorem refs_of : ∀ {ds : List D} {vs : List V} {F : List Addr}, Reps K ca H P ds vs F → ds.all refT = true → ∃ as : List Addr, vs = as.map V.ref ∧ as.length = ds.length
  | _, _, _, .nil, _ => ⟨[], rfl, rfl⟩
  | _, _, _, .cons h r, e => by
    rw [List.all_cons, Bool.and_eq_true] at e
    obtain ⟨a, rfl⟩ := ref_of h e.1
    obtain ⟨as, rfl, l⟩ := refs_of r e.2
    exact ⟨a :: as, rfl, by simp [l]⟩
/-- what a slot is known to hold is told in other words -/
theorem SEnv.chg {d : D} (s : SEnv K ca H0 P0 Mm δ σ H [] [] own []) (hd : δ[i]? = some (some d)) {d' : D} (hr : ∀ v, σ[i]? = some (some v) → Rep K ca H (fun a => P0 a ∨ (∃ j, a ∈ own j) ∨ a ∈ ([] : List Addr)) d v (own i) → Rep K ca H (fun a => P0 a ∨ (∃ j, a ∈ own j) ∨ a ∈ ([] : List Addr)) d' v (own i)) : SEnv K ca H0 P0 Mm (δ.set i (some d')) σ H [] [] own [] :=
  { s with
    len := by rw [List.length_set]; exact s.len
    rep := fun j e h => by
      rcases set_at h with ⟨e1, z, _⟩ | ⟨n, z⟩
      · subst e1
        cases z
        obtain ⟨v, h1, h2⟩ := s.rep _ d hd
        exact ⟨v, h1, hr v h1 h2⟩
      · exact s.rep j e z }
theorem uni_spec {n : Nat} {f : List Addr → Out} {as : List Addr} (h : as.length = n) : uni n f = .st ∨ f as = uni n f := by
  unfold uni
  split
  · rename_i q
    exact .inr (q.choose_spec as h)
  · exact .inl rfl
theorem uni_ok {n : Nat} {f : List Addr → Out} {o : Out} (h : ∀ as, as.length = n → f as = o) : uni n f = o := by
  have q : ∃ o, ∀ as, as.length = n → f as = o := ⟨o, h⟩
  unfold uni
  rw [dif_pos q]
  exact (q.choose_spec (List.replicate n 0) (by simp)).symm.trans (h (List.replicate n 0) (by simp))
end
section
variable {X : Cx} {ca : String → Option Addr} {G : Gam} {W : WE} {st : Stmt} {sts : List Stmt} {s : S} {i : Nat} {pos : Pos}
theorem se_unt (i : Nat) {x : Str} (hN : X.N[i]? = some x := by rfl) (hv : Vis X.env.scope x := by first | exact Or.inl rfl | exact Or.inr (Or.inl rfl) | exact Or.inr (Or.inr rfl)) (hd : (x == ("__debug__" : Str)) = false := by decide)
    (hcd : (x == ("__classdict__" : Str)) = false := by decide) : SE X ca G W (.Name x pos) (.unt i) := by
  refine PE.imp (pe_var hN hv hd hcd) fun σ H Q ⟨ρ, P, hB, hP, h⟩ => ?_
  rw [ev] at h
  cases e : ρ[i]? with
  | none => rw [e] at h; exact h.elim
  | some o =>
    cases o with
    | none => rw [e] at h; exact h.elim
    | some d =>
      rw [e] at h
      obtain ⟨v, h1, h2⟩ := hB.at_ i d e
      exact ⟨v, h1, h.val (rep_untag h2)⟩
/-- where the things of a list stand is known from here on -/
theorem sss_tag (i : Nat) (h : SSs X ca G W sts s) : SSs X ca G W sts (.tag i s) := by
  refine PSs.imp h fun D σ H ⟨H0, P0, Mm, δ, own, b, h⟩ => ?_
  rw [exec] at h
  split at h
  · rename_i o ds e
    split at h
    · rename_i hr
      obtain ⟨v, h1, h2⟩ := b.rep i _ e
      have key : ∃ as : List Addr, as.length = ds.length ∧ ∀ v', σ[i]? = some (some v') → Rep X.K ca H (fun a => P0 a ∨ (∃ j, a ∈ own j) ∨ a ∈ ([] : List Addr)) (.lst o ds) v' (own i) → Rep X.K ca H (fun a => P0 a ∨ (∃ j, a ∈ own j) ∨ a ∈ ([] : List Addr)) (.lst o (tagL as ds)) v' (own i) := by
        have same : ∀ {a : Addr} {vs ws : List V}, H a = some (.lst vs) → H a = some (.lst ws) → vs = ws := fun e1 e2 => by
          rw [e1] at e2
          cases e2
          rfl
        generalize hF : own i = F at h2
        cases h2 with
        | own ha r =>
          obtain ⟨as, rfl, l⟩ := refs_of r hr
          refine ⟨as, l, fun v' e' r' => ?_⟩
          rw [h1] at e'
          cases e'
          exact .own ha (reps_tag r)
        | frz ha p r =>
          obtain ⟨as, rfl, l⟩ := refs_of r hr
          refine ⟨as, l, fun v' e' r' => ?_⟩
          rw [h1] at e'
          cases e'
          exact .frz ha p (reps_tag r)
      obtain ⟨as, l, key⟩ := key
      have bt := b.chg e key
      rcases uni_spec (f := fun as => exec G s (δ.set i (some (.lst o (tagL as ds))))) l with q | q
      · rw [q] at h
        exact h.elim
      · rw [← q] at h
        exact ⟨H0, P0, Mm, _, own, bt, h⟩
    · exact h.elim
  · exact h.elim
/-- from here on it is no longer known -/
theorem sss_untg (i : Nat) (h : SSs X ca G W sts s) : SSs X ca G W sts (.seq (.untg i) s) := by
  refine PSs.imp h fun D σ H ⟨H0, P0, Mm, δ, own, b, h⟩ => ?_
  rw [exec] at h
  cases e : δ[i]? with
  | none =>
    have q : exec G (.untg i) δ = .st := by rw [exec, e]
    rw [q] at h; exact h.elim
  | some od =>
    cases od with
    | none =>
      have q : exec G (.untg i) δ = .st := by rw [exec, e]
      rw [q] at h; exact h.elim
    | some d =>
      have q : exec G (.untg i) δ = .nx (δ.set i (some (untag d))) := by rw [exec, e]
      rw [q] at h
      exact ⟨H0, P0, Mm, _, own, b.chg e fun v _ r => rep_untag r, h⟩
end
end Ev
namespace Ev
open PySem L2

/-! ## What loops do -/
/-- over the items: an invariant by the turn -/
theorem forL_ok {b : Env → Out} {t : Tg} (I : Nat → Env → Prop) : ∀ (xs : List D) (δ : Env) (n : Nat), I n δ →
    (∀ i x δ, xs[i]? = some x → I (n + i) δ → ∃ δ1, bindT t x δ = some δ1 ∧ ∃ δ2, (b δ1 = .nx δ2 ∨ b δ1 = .ct δ2) ∧ I (n + i + 1) δ2) → ∃ δ', forL b t xs δ = .nx δ' ∧ I (n + xs.length) δ'
  | [], δ, n, h, _ => ⟨δ, rfl, h⟩
  | x :: r, δ, n, h, hs => by
    obtain ⟨δ1, e1, δ2, e2, h2⟩ := hs 0 x δ rfl h
    obtain ⟨δ', e3, h3⟩ := forL_ok I r δ2 (n + 1) h2 fun i y δ hy hI => by
      have := hs (i + 1) y δ (by simpa using hy) (by rw [show n + (i + 1) = n + 1 + i from by omega]; exact hI)
      rw [show n + (i + 1) + 1 = n + 1 + i + 1 from by omega] at this
      exact this
    refine ⟨δ', ?_, by rw [List.length_cons, show n + (r.length + 1) = n + 1 + r.length from by omega]; exact h3⟩
    rw [forL, e1]
    rcases e2 with e2 | e2 <;> simp only [e2] <;> exact e3
/-- a while: an invariant and a measure -/
theorem whC_ok {c : Env → Res D} {b : Env → Out} (I : Env → Prop) (J : Env → Prop) (μ : Env → Nat)
    (hs : ∀ δ, I δ → (c δ = .ok (.bl false) ∧ J δ) ∨ (c δ = .ok (.bl true) ∧ ∃ δ2, (b δ = .nx δ2 ∨ b δ = .ct δ2) ∧ I δ2 ∧ μ δ2 < μ δ)) : ∀ (n : Nat) (δ : Env), μ δ ≤ n → I δ → ∃ δ', whC c b δ = .nx δ' ∧ J δ'
  | n, δ, hn, h => by
    rcases hs δ h with ⟨e, j⟩ | ⟨e, δ2, e2, h2, lt⟩
    · exact ⟨δ, by rw [whC_eq, e], j⟩
    · cases n with
      | zero => omega
      | succ n =>
        obtain ⟨δ', e3, j⟩ := whC_ok I J μ hs n δ2 (by omega) h2
        refine ⟨δ', ?_, j⟩
        rw [whC_eq, e]
        rcases e2 with e2 | e2 <;> simp only [e2] <;> exact e3

/-! ## Lists of data -/
theorem shares_ints (xs : List Int) : shares (xs.map .int) = xs.map .int := by
  rw [shares_map, List.map_map]
  rfl
theorem noFrzs_ints : ∀ xs : List Int, noFrzs (xs.map .int) = true
  | [] => rfl
  | _ :: r => by rw [List.map_cons, noFrzs, noFrzs_ints r]; rfl
theorem noFrzs_all : ∀ {xs : List D}, (∀ x ∈ xs, noFrz x = true) → noFrzs xs = true
  | [], _ => rfl
  | x :: r, h => by rw [noFrzs, h x (List.mem_cons_self ..), noFrzs_all fun y m => h y (List.mem_cons_of_mem _ m)]; rfl
theorem atI_nat {α : Type} (xs : List α) (k : Nat) : atI xs (k : Int) = xs[k]? := by
  unfold atI ixN
  rw [if_pos (by omega)]
  by_cases h : k < xs.length
  · rw [if_pos (by omega)]
    simp
  · rw [if_neg (by omega)]
    simp; omega
theorem atI_map {α β : Type} (f : α → β) (xs : List α) (k : Int) : atI (xs.map f) k = (atI xs k).map f := by
  unfold atI
  rw [List.length_map]
  cases ixN xs.length k with
  | none => rfl
  | some j => simp
theorem bits_small {x : Int} {n : Nat} (h : x.natAbs < 2 ^ n) : Builtin.Int.intBits x ≤ n := by
  unfold Builtin.Int.intBits
  split
  · exact Nat.zero_le _
  · rename_i e
    have h0 : x.natAbs ≠ 0 := by
      intro z
      apply e
      simp [Int.natAbs_eq_zero.mp z]
    exact Nat.succ_le_of_lt ((Nat.log2_lt h0).mpr h)
theorem mulOk_small {i j : Int} (hi : i.natAbs < 2 ^ 1000000) (hj : j.natAbs < 2 ^ 1000000) : mulOk i j = true := by
  have := bits_small hi
  have := bits_small hj
  unfold mulOk
  rw [decide_eq_true_eq]
  omega

/-! ## Small numbers -/
/-- of n bits at most -/
def Sm (n : Nat) (x : Int) : Prop := x.natAbs < 2 ^ n
theorem Sm.up {n m : Nat} {x : Int} (h : Sm n x) (l : n ≤ m) : Sm m x := Nat.lt_of_lt_of_le h (Nat.pow_le_pow_right (by decide) l)
theorem sm_lit {n : Nat} {x : Int} (h : x.natAbs < 2 ^ n) : Sm n x := h
theorem sm_of {n : Nat} {x : Int} (h0 : 0 ≤ x) (h : x < 2 ^ n) : Sm n x := by
  unfold Sm
  have e : ((2 ^ n : Nat) : Int) = 2 ^ n := by simp
  rw [← e] at h
  omega
theorem sm_pow {n b e : Nat} (h : b ^ e < 2 ^ n) : Sm n ((b : Int) ^ e) := by
  unfold Sm
  rw [Int.natAbs_pow]
  simpa using h
theorem sm_rng {n : Nat} {x m : Int} (h0 : 0 ≤ x) (h : x < m) (hm : Sm n m) : Sm n x := by
  unfold Sm at hm ⊢
  omega
theorem sm_mod {n : Nat} {x m : Int} (h : 0 < m) (hm : Sm n m) : Sm n (x % m) := sm_rng (Int.emod_nonneg x (by omega)) (Int.emod_lt_of_pos x h) hm
theorem sm_mul {n m : Nat} {x y : Int} (hx : Sm n x) (hy : Sm m y) : Sm (n + m) (x * y) := by
  unfold Sm at *
  rw [Int.natAbs_mul, Nat.pow_add]
  exact Nat.mul_lt_mul'' hx hy
theorem sm_add {n m : Nat} {x y : Int} (hx : Sm n x) (hy : Sm m y) : Sm (max n m + 1) (x + y) := by
  have h1 := hx.up (Nat.le_max_left n m)
  have h2 := hy.up (Nat.le_max_right n m)
  unfold Sm at *
  rw [Nat.pow_succ]
  omega
theorem sm_sub {n m : Nat} {x y : Int} (hx : Sm n x) (hy : Sm m y) : Sm (max n m + 1) (x - y) := by
  have h1 := hx.up (Nat.le_max_left n m)
  have h2 := hy.up (Nat.le_max_right n m)
  unfold Sm at *
  rw [Nat.pow_succ]
  omega
theorem sm_fdiv {n : Nat} {x m : Int} (h : 0 < m) (hx : Sm n x) : Sm n (x / m) := by
  unfold Sm at *
  have h1 : (x / m).natAbs ≤ x.natAbs := by
    first | exact Int.natAbs_ediv_le_natAbs x m | exact Int.natAbs_div_le_natAbs x m
  omega
theorem mulOk_of {n m : Nat} {x y : Int} (hx : Sm n x) (hy : Sm m y) (h : n + m ≤ 134217728) : mulOk x y = true := by
  have := bits_small hx
  have := bits_small hy
  unfold mulOk
  rw [decide_eq_true_eq]
  omega
/-! ## Steps -/
section
theorem c_eq {i j : Int} : cmpF .eq (.int i) (.int j) = .ok (i == j) := rfl
theorem c_ne {i j : Int} : cmpF .ne (.int i) (.int j) = .ok (!(i == j)) := rfl
theorem c_lt {i j : Int} : cmpF .lt (.int i) (.int j) = .ok (decide (i < j)) := rfl
theorem c_le {i j : Int} : cmpF .le (.int i) (.int j) = .ok (decide (i ≤ j)) := rfl
theorem c_gt {i j : Int} : cmpF .gt (.int i) (.int j) = .ok (decide (j < i)) := rfl
theorem c_ge {i j : Int} : cmpF .ge (.int i) (.int j) = .ok (decide (j ≤ i)) := rfl
theorem c_eqb {i j : Bool} : cmpF .eq (.bl i) (.bl j) = .ok (i == j) := rfl
theorem c_neb {i j : Bool} : cmpF .ne (.bl i) (.bl j) = .ok (!(i == j)) := rfl
theorem c_isn {d : D} : cmpF .is d .non = .ok (isNon d) := by cases d <;> rfl
theorem c_nisn {d : D} : cmpF .nis d .non = .ok (!isNon d) := by cases d <;> rfl
end
section
variable {i j : Int} {G : Gam} {ρ : Env}
theorem b_add : binF .add (.int i) (.int j) = .ok (.int (i + j)) := rfl
theorem b_sub : binF .sub (.int i) (.int j) = .ok (.int (i - j)) := rfl
theorem b_and : binF .and (.int i) (.int j) = .ok (.int (Builtin.bitAnd i j)) := rfl
theorem b_xor : binF .xor (.int i) (.int j) = .ok (.int (Builtin.bitXor i j)) := rfl
theorem b_mul (h : mulOk i j = true) : binF .mul (.int i) (.int j) = .ok (.int (i * j)) := by rw [binF, if_pos h]
theorem b_fdiv (h : 0 < j) (h2 : j.natAbs.log2 < 9000) : binF .fdiv (.int i) (.int j) = .ok (.int (i / j)) := by rw [binF, if_pos ⟨h, h2⟩]
theorem b_mod (h : 0 < j) : binF .mod (.int i) (.int j) = .ok (.int (i % j)) := by rw [binF, if_pos h]
theorem b_powN {a n : Nat} (h : n ≤ 1000000) (h2 : a < 2 ^ 64) : binF .pow (.int (a : Int)) (.int (n : Int)) = .ok (.int ((a : Int) ^ n)) := by
  rw [binF, if_pos ⟨by omega, by omega, by omega⟩]
  rfl
theorem lit_pow (a n m : Nat) (h : n ≤ 1000000) (h2 : a < 2 ^ 64) (h3 : 0 < a) (h4 : a ^ n < 2 ^ m) : ∃ A : Int, binF .pow (.int (a : Int)) (.int (n : Int)) = .ok (.int A) ∧ 0 < A ∧ Sm m A ∧ A = (a : Int) ^ n :=
  ⟨_, b_powN h h2, Int.pow_pos (by omega), sm_pow h4, rfl⟩
theorem pow_posN {a n : Nat} (h : 0 < a) : (0 : Int) < (a : Int) ^ n := Int.pow_pos (by omega)
theorem b_pow {n : Nat} (h : n ≤ 1000000) (h2 : i.natAbs < 2 ^ 64) : binF .pow (.int i) (.int (n : Int)) = .ok (.int (i ^ n)) := by
  rw [binF, if_pos ⟨by omega, by omega, h2⟩]
  rfl
theorem b_shl1 {n : Nat} (h : n ≤ 1000000) : binF .shl (.int 1) (.int (n : Int)) = .ok (.int (2 ^ n)) := by
  have e : Builtin.Int.intBits 1 = 1 := by decide
  rw [binF, e, if_pos ⟨by omega, by omega⟩]
  simp
theorem b_shr {n : Nat} : binF .shr (.int i) (.int (n : Int)) = .ok (.int (i / 2 ^ n)) := by
  rw [binF, if_pos (by omega)]
  rfl
end
end Ev
namespace Ev
open PySem L2
/-! ## The evaluator, opaque -/
@[irreducible] def xv (G : Gam) (ρ : Env) (e : E) : Res D := ev G ρ e
@[irreducible] def xvs (G : Gam) (ρ : Env) (e : E) : Res (List D) := evs G ρ e
@[irreducible] def xM (G : Gam) (δ : Env) (m : M) : Res (D × Env) := evM G δ m
@[irreducible] noncomputable def xc (G : Gam) (s : S) (δ : Env) : Out := exec G s δ
@[irreducible] def xb (op : Bop) (d e : D) : Res D := binF op d e
@[irreducible] def xp (op : Cop) (d e : D) : Res Bool := cmpF op d e
theorem xv_eq {G : Gam} {ρ : Env} {e : E} : xv G ρ e = ev G ρ e := by rw [xv]
theorem xvs_eq {G : Gam} {ρ : Env} {e : E} : xvs G ρ e = evs G ρ e := by rw [xvs]
theorem xM_eq {G : Gam} {ρ : Env} {e : M} : xM G ρ e = evM G ρ e := by rw [xM]
theorem xc_eq {G : Gam} {ρ : Env} {e : S} : xc G e ρ = exec G e ρ := by rw [xc]
theorem xb_eq {op : Bop} {d e : D} : xb op d e = binF op d e := by rw [xb]
theorem xp_eq {op : Cop} {d e : D} : xp op d e = cmpF op d e := by rw [xp]
@[irreducible] def xf (G : Gam) (f : String) (ds : List D) : Res D := G.cf f ds
theorem xf_eq {G : Gam} {f : String} {ds : List D} : xf G f ds = G.cf f ds := by rw [xf]
theorem xc_fun {G : Gam} {s : S} : xc G s = exec G s := funext fun δ => xc_eq
section
variable {G : Gam} {ρ δ δ1 : Env} {a b c e o as : E} {d d1 d2 r : D} {ds : List D} {i j n : Nat} {p q : Bool}
/-! ## Expressions that answer -/
theorem ok_var (h : ρ[i]? = some (some d)) : xv G ρ (.var i) = .ok d := by
  simp only [xv_eq, xvs_eq, xM_eq, xc_eq, xb_eq, xp_eq, xf_eq, xc_fun] at *
  rw [ev, h]
theorem ok_int {k : Int} : xv G ρ (.int k) = .ok (.int k) := by
  simp only [xv_eq, xvs_eq, xM_eq, xc_eq, xb_eq, xp_eq, xf_eq, xc_fun] at *
  rw [ev]
theorem ok_str {k : Str} : xv G ρ (.str k) = .ok (.str k) := by
  simp only [xv_eq, xvs_eq, xM_eq, xc_eq, xb_eq, xp_eq, xf_eq, xc_fun] at *
  rw [ev]
theorem ok_bl : xv G ρ (.bl p) = .ok (.bl p) := by
  simp only [xv_eq, xvs_eq, xM_eq, xc_eq, xb_eq, xp_eq, xf_eq, xc_fun] at *
  rw [ev]
theorem ok_non : xv G ρ .non = .ok .non := by
  simp only [xv_eq, xvs_eq, xM_eq, xc_eq, xb_eq, xp_eq, xf_eq, xc_fun] at *
  rw [ev]
theorem ok_cst {x : String} (h : G.cst x = some d) : xv G ρ (.cst x) = .ok d := by
  simp only [xv_eq, xvs_eq, xM_eq, xc_eq, xb_eq, xp_eq, xf_eq, xc_fun] at *
  rw [ev, h]
theorem ok_bin {op : Bop} (ha : xv G ρ a = .ok d) (hb : xv G ρ b = .ok d1) (h : xb op d d1 = .ok r) : xv G ρ (.bin op a b) = .ok r := by
  simp only [xv_eq, xvs_eq, xM_eq, xc_eq, xb_eq, xp_eq, xf_eq, xc_fun] at *
  rw [ev, ha, Res.bind, hb, Res.bind, h]
theorem ok_neg {k : Int} (ha : xv G ρ a = .ok (.int k)) : xv G ρ (.neg a) = .ok (.int (-k)) := by
  simp only [xv_eq, xvs_eq, xM_eq, xc_eq, xb_eq, xp_eq, xf_eq, xc_fun] at *
  rw [ev, ha, Res.bind]
theorem ok_cmp {op : Cop} (ha : xv G ρ a = .ok d) (hb : xv G ρ b = .ok d1) (h : xp op d d1 = .ok p) : xv G ρ (.cmp op a b) = .ok (.bl p) := by
  simp only [xv_eq, xvs_eq, xM_eq, xc_eq, xb_eq, xp_eq, xf_eq, xc_fun] at *
  rw [ev, ha, Res.bind, hb, Res.bind, h, Res.bind]
theorem ok_chain {o1 o2 : Cop} (ha : xv G ρ a = .ok d) (hb : xv G ρ b = .ok d1) (hc : xv G ρ c = .ok d2) (h1 : xp o1 d d1 = .ok p) (h2 : xp o2 d1 d2 = .ok q) : xv G ρ (.chain o1 o2 a b c) = .ok (.bl (p && q)) := by
  first | (simp only [xv_eq, xvs_eq, xM_eq, xc_eq, xb_eq, xp_eq, xf_eq, xc_fun] at *) | skip
  rw [ev, ha, Res.bind, hb, Res.bind, h1, Res.bind]
  cases p
  · rfl
  · rw [if_pos rfl, hc, Res.bind, h2, Res.bind]; rfl
theorem ok_and (ha : xv G ρ a = .ok (.bl p)) (hb : xv G ρ b = .ok (.bl q)) : xv G ρ (.and a b) = .ok (.bl (p && q)) := by
  first | (simp only [xv_eq, xvs_eq, xM_eq, xc_eq, xb_eq, xp_eq, xf_eq, xc_fun] at *) | skip
  rw [ev, ha, Res.bind]
  cases p
  · rfl
  · exact hb
/-- and, or with what stands behind -/
theorem ok_andV (ha : xv G ρ a = .ok (.bl true)) (hb : xv G ρ b = .ok d) : xv G ρ (.and a b) = .ok d := by
  rw [xv_eq] at *
  rw [ev, ha, Res.bind]; exact hb
theorem ok_orV (ha : xv G ρ a = .ok (.bl false)) (hb : xv G ρ b = .ok d) : xv G ρ (.or a b) = .ok d := by
  rw [xv_eq] at *
  rw [ev, ha, Res.bind]; exact hb
theorem ok_or (ha : xv G ρ a = .ok (.bl p)) (hb : xv G ρ b = .ok (.bl q)) : xv G ρ (.or a b) = .ok (.bl (p || q)) := by
  first | (simp only [xv_eq, xvs_eq, xM_eq, xc_eq, xb_eq, xp_eq, xf_eq, xc_fun] at *) | skip
  rw [ev, ha, Res.bind]
  cases p
  · exact hb
  · rfl
theorem ok_andF (ha : xv G ρ a = .ok (.bl false)) : xv G ρ (.and a b) = .ok (.bl false) := by
  simp only [xv_eq, xvs_eq, xM_eq, xc_eq, xb_eq, xp_eq, xf_eq, xc_fun] at *
  rw [ev, ha, Res.bind]
theorem ok_orT (ha : xv G ρ a = .ok (.bl true)) : xv G ρ (.or a b) = .ok (.bl true) := by
  simp only [xv_eq, xvs_eq, xM_eq, xc_eq, xb_eq, xp_eq, xf_eq, xc_fun] at *
  rw [ev, ha, Res.bind]
theorem ok_not (ha : xv G ρ a = .ok (.bl p)) : xv G ρ (.not a) = .ok (.bl (!p)) := by
  simp only [xv_eq, xvs_eq, xM_eq, xc_eq, xb_eq, xp_eq, xf_eq, xc_fun] at *
  rw [ev, ha, Res.bind]
theorem oks_nil : xvs G ρ .nil = .ok [] := by
  simp only [xv_eq, xvs_eq, xM_eq, xc_eq, xb_eq, xp_eq, xf_eq, xc_fun] at *
  rw [evs]
theorem oks_cons (ha : xv G ρ a = .ok d) (hs : xvs G ρ as = .ok ds) : xvs G ρ (.cons a as) = .ok (d :: ds) := by
  simp only [xv_eq, xvs_eq, xM_eq, xc_eq, xb_eq, xp_eq, xf_eq, xc_fun] at *
  rw [evs, ha, Res.bind, hs, Res.bind]
theorem ok_tup (hs : xvs G ρ as = .ok ds) (hl : ds.length ≤ lineN) : xv G ρ (.tup as) = .ok (.tup ds) := by
  simp only [xv_eq, xvs_eq, xM_eq, xc_eq, xb_eq, xp_eq, xf_eq, xc_fun] at *
  rw [ev, hs, Res.bind, if_pos hl]
theorem ok_lst (hs : xvs G ρ as = .ok ds) (hl : ds.length ≤ lineN) : xv G ρ (.lst as) = .ok (.lst true ds) := by
  simp only [xv_eq, xvs_eq, xM_eq, xc_eq, xb_eq, xp_eq, xf_eq, xc_fun] at *
  rw [ev, hs, Res.bind, if_pos hl]
theorem ok_idx (ha : xv G ρ a = .ok d) (hb : xv G ρ b = .ok d1) (h : idxF d d1 = .ok r) : xv G ρ (.idx a b) = .ok r := by
  simp only [xv_eq, xvs_eq, xM_eq, xc_eq, xb_eq, xp_eq, xf_eq, xc_fun] at *
  rw [ev, ha, Res.bind, hb, Res.bind, h]
theorem ok_fld {f : String} (ha : xv G ρ a = .ok d) (h : fldF d f = .ok r) : xv G ρ (.fld a f) = .ok r := by
  simp only [xv_eq, xvs_eq, xM_eq, xc_eq, xb_eq, xp_eq, xf_eq, xc_fun] at *
  rw [ev, ha, Res.bind, h]
theorem ok_call {f : String} (hs : xvs G ρ as = .ok ds) (h : xf G f (shares ds) = .ok r) : xv G ρ (.call f as) = .ok r := by
  simp only [xv_eq, xvs_eq, xM_eq, xc_eq, xb_eq, xp_eq, xf_eq, xc_fun] at *
  rw [ev, hs, Res.bind, h]
theorem ok_meth {m fk : String} (ha : xv G ρ o = .ok d) (hm : methF G d m = some fk) (hs : xvs G ρ as = .ok ds) (h : xf G fk (d :: shares ds) = .ok r) : xv G ρ (.meth o m as) = .ok r := by
  simp only [xv_eq, xvs_eq, xM_eq, xc_eq, xb_eq, xp_eq, xf_eq, xc_fun] at *
  rw [ev, ha, Res.bind, hm]; dsimp only; rw [hs, Res.bind, h]
theorem ok_new {x : String} {ci : ClsI} (hs : xvs G ρ as = .ok ds) (hi : G.ci x = some ci) (h : xf G ci.init (.obj x [] [] :: shares ds) = .ok r) : xv G ρ (.new x as) = .ok r := by
  simp only [xv_eq, xvs_eq, xM_eq, xc_eq, xb_eq, xp_eq, xf_eq, xc_fun] at *
  rw [ev, hs, Res.bind, hi]; dsimp only; rw [h]
theorem ok_blt {f : Blt} (hs : xvs G ρ as = .ok ds) (h : bltF G f ds = .ok r) : xv G ρ (.blt f as) = .ok r := by
  simp only [xv_eq, xvs_eq, xM_eq, xc_eq, xb_eq, xp_eq, xf_eq, xc_fun] at *
  rw [ev, hs, Res.bind, h]
theorem ok_slcN {hi : E} {k : Int} (ha : xv G ρ a = .ok d) (hn : hi.isNop = false) (hh : xv G ρ hi = .ok (.int k)) (h : slcF d none (some k) = .ok r) : xv G ρ (.slc a .nop hi) = .ok r := by
  simp only [xv_eq, xvs_eq, xM_eq, xc_eq, xb_eq, xp_eq, xf_eq, xc_fun] at *
  rw [ev, ha, Res.bind, E.isNop, if_pos rfl, Res.bind, hn, if_neg Bool.false_ne_true, hh, Res.bind, toI, Res.bind, h]
/-! ## Statements -/
variable {s t : S} {oo : Out} {m : M}
theorem m_ex (h : xv G (shareE δ) e = .ok d) (nf : noFrz d = true) : xM G δ (.ex e) = .ok (d, δ) := by
  simp only [xv_eq, xvs_eq, xM_eq, xc_eq, xb_eq, xp_eq, xf_eq, xc_fun] at *
  rw [evM, h, Res.bind, if_pos nf]
theorem m_mv (h : δ[i]? = some (some d)) : xM G δ (.mv i) = .ok (d, δ.set i none) := by
  simp only [xv_eq, xvs_eq, xM_eq, xc_eq, xb_eq, xp_eq, xf_eq, xc_fun] at *
  rw [evM, h]
theorem m_exf {vs : List Nat} (h : xv G (maskE vs (frzAt vs δ)) e = .ok d) : xM G δ (.exf vs e) = .ok (d, frzAt vs δ) := by
  simp only [xv_eq, xvs_eq, xM_eq, xc_eq, xb_eq, xp_eq, xf_eq, xc_fun] at *
  rw [evM, h, Res.bind]
theorem x_skip : xc G .skip δ = .nx δ := by
  simp only [xv_eq, xvs_eq, xM_eq, xc_eq, xb_eq, xp_eq, xf_eq, xc_fun] at *
  rw [exec]
theorem x_seq (h1 : xc G s δ = .nx δ1) (h2 : xc G t δ1 = oo) : xc G (.seq s t) δ = oo := by
  simp only [xv_eq, xvs_eq, xM_eq, xc_eq, xb_eq, xp_eq, xf_eq, xc_fun] at *
  rw [exec, h1]; exact h2
theorem x_seqR (h1 : xc G s δ = .rt d) : xc G (.seq s t) δ = .rt d := by
  simp only [xv_eq, xvs_eq, xM_eq, xc_eq, xb_eq, xp_eq, xf_eq, xc_fun] at *
  rw [exec, h1]
theorem x_asg {δ2 : Env} (h : xM G δ m = .ok (d, δ2)) (hz : δ2.set i (some d) = δ1) : xc G (.asg (.nm i) m) δ = .nx δ1 := by
  subst hz
  simp only [xv_eq, xvs_eq, xM_eq, xc_eq, xb_eq, xp_eq, xf_eq, xc_fun] at *
  rw [exec, h, Res.go, bindG, bindT]
theorem x_asgT {t : Tg} {δ2 : Env} (h : xM G δ m = .ok (d, δ2)) (hb : bindT t d δ2 = some δ1) : xc G (.asg t m) δ = .nx δ1 := by
  simp only [xv_eq, xvs_eq, xM_eq, xc_eq, xb_eq, xp_eq, xf_eq, xc_fun] at *
  rw [exec, h, Res.go, bindG, hb]
theorem x_app {ds0 : List D} (h0 : δ[i]? = some (some (.lst true ds0))) (h : xM G δ m = .ok (d, δ1)) (h1 : δ1[i]? = some (some (.lst true ds))) (hl : ds.length < lineN) {δ2 : Env} (hz : δ1.set i (some (.lst true (ds ++ [d]))) = δ2) : xc G (.app i m) δ = .nx δ2 := by
  subst hz
  first | (simp only [xv_eq, xvs_eq, xM_eq, xc_eq, xb_eq, xp_eq, xf_eq, xc_fun] at *) | skip
  rw [exec, ownAt, h0]; dsimp only; rw [h, Res.go, ownAt, h1]; dsimp only; rw [if_pos hl]
theorem x_ret (h : xM G δ m = .ok (d, δ1)) : xc G (.ret m) δ = .rt d := by
  simp only [xv_eq, xvs_eq, xM_eq, xc_eq, xb_eq, xp_eq, xf_eq, xc_fun] at *
  rw [exec, h, Res.go]
theorem x_retN : xc G .retN δ = .rt .non := by
  simp only [xv_eq, xvs_eq, xM_eq, xc_eq, xb_eq, xp_eq, xf_eq, xc_fun] at *
  rw [exec]
theorem x_if (h : xv G (shareE δ) c = .ok (.bl p)) : xc G (.ife c s t) δ = if p = true then xc G s δ else xc G t δ := by
  first | (simp only [xv_eq, xvs_eq, xM_eq, xc_eq, xb_eq, xp_eq, xf_eq, xc_fun] at *) | skip
  rw [exec, h, Res.go]
  cases p <;> rfl
theorem x_ifT (h : xv G (shareE δ) c = .ok (.bl p)) (hp : p = true) (h2 : xc G s δ = oo) : xc G (.ife c s t) δ = oo := by
  skip
  rw [x_if h, if_pos hp, h2]
theorem x_ifF (h : xv G (shareE δ) c = .ok (.bl p)) (hp : p = false) (h2 : xc G t δ = oo) : xc G (.ife c s t) δ = oo := by
  skip
  rw [x_if h, if_neg (by rw [hp]; exact Bool.false_ne_true), h2]
theorem x_for {t : Tg} {k : ItK} {xs : List D} (h : xvs G (shareE δ) as = .ok ds) (nf : noFrzs ds = true) (hi : itemsF k ds = .ok xs) (hl : forL (xc G s) t xs δ = oo) : xc G (.for_ t k none as s) δ = oo := by
  simp only [xv_eq, xvs_eq, xM_eq, xc_eq, xb_eq, xp_eq, xf_eq, xc_fun] at *
  rw [exec, h, Res.go, if_pos nf, hi, Res.go, hl]
theorem x_forF {t : Tg} {k : ItK} {xs : List D} {vs : List Nat} (h : xvs G (maskE vs (frzAt vs δ)) as = .ok ds) (hi : itemsF k ds = .ok xs) (hl : forL (xc G s) t xs (frzAt vs δ) = oo) : xc G (.for_ t k (some vs) as s) δ = oo := by
  simp only [xv_eq, xvs_eq, xM_eq, xc_eq, xb_eq, xp_eq, xf_eq, xc_fun] at *
  rw [exec, h, Res.go, hi, Res.go, hl]
theorem x_exp (h : xv G (shareE δ) e = .ok d) : xc G (.exp e) δ = .nx δ := by
  simp only [xv_eq, xvs_eq, xM_eq, xc_eq, xb_eq, xp_eq, xf_eq, xc_fun] at *
  rw [exec, h, Res.go]
theorem fn_rt {np : Nat} (hn : ds.length = np) (h : xc G s (env0 n ds) = .rt d) : callD G (.fn np n s) ds = .ok d := by
  simp only [xv_eq, xvs_eq, xM_eq, xc_eq, xb_eq, xp_eq, xf_eq, xc_fun] at *
  rw [callD, if_pos hn, h, outV]
theorem fn_nx {np : Nat} (hn : ds.length = np) (h : xc G s (env0 n ds) = .nx δ) : callD G (.fn np n s) ds = .ok .non := by
  simp only [xv_eq, xvs_eq, xM_eq, xc_eq, xb_eq, xp_eq, xf_eq, xc_fun] at *
  rw [callD, if_pos hn, h, outV]
theorem fn_er {np : Nat} {x : String} (hn : ds.length = np) (h : xc G s (env0 n ds) = .er x δ) : callD G (.fn np n s) ds = .er x := by
  simp only [xv_eq, xvs_eq, xM_eq, xc_eq, xb_eq, xp_eq, xf_eq, xc_fun] at *
  rw [callD, if_pos hn, h, outV]
end
theorem x_ifRF {G : Gam} {δ : Env} {c : E} {p : Bool} (h : xv G (shareE δ) c = .ok (.bl p)) (hp : p = false) : xc G (.ife c (.ret (.ex (.bl false))) .skip) δ = .nx δ := x_ifF h hp x_skip
theorem x_rse {G : Gam} {δ : Env} {c : String} : xc G (.rse c) δ = .er c δ := by rw [xc_eq, exec]
theorem x_seqE {G : Gam} {δ δ1 : Env} {s t : S} {c : String} (h : xc G s δ = .er c δ1) : xc G (.seq s t) δ = .er c δ1 := by
  rw [xc_eq] at *
  rw [exec, h]
theorem x_aug {G : Gam} {δ δ1 : Env} {i : Nat} {e : E} {a b : Int} (h0 : δ[i]? = some (some (.int a))) (h : xv G (shareE δ) e = .ok (.int b)) (hz : δ.set i (some (.int (a + b))) = δ1) : xc G (.aug i .add e) δ = .nx δ1 := by
  rw [xc_eq]
  rw [xv_eq] at h
  rw [exec, h0]
  dsimp only
  rw [h, Res.go]
  dsimp only
  rw [b_add, Res.go, hz]
theorem x_augS {G : Gam} {δ δ1 : Env} {i : Nat} {e : E} {a b : Int} (h0 : δ[i]? = some (some (.int a))) (h : xv G (shareE δ) e = .ok (.int b)) (hz : δ.set i (some (.int (a - b))) = δ1) : xc G (.aug i .sub e) δ = .nx δ1 := by
  rw [xc_eq]
  rw [xv_eq] at h
  rw [exec, h0]
  dsimp only
  rw [h, Res.go]
  dsimp only
  rw [b_sub, Res.go, hz]
theorem x_whl {G : Gam} {δ : Env} {c : E} {s : S} {oo : Out} (h : whC (fun δ => ev G (shareE δ) c) (exec G s) δ = oo) : xc G (.whl c s) δ = oo := by
  rw [xc_eq, exec, h]
theorem o_str {i : Int} {G : Gam} (h : i.natAbs.log2 < 1920) : bltF G .str [.int i] = .ok (.str (toString i)) := by
  show strF [.int i] = _
  rw [strF, if_pos h]
theorem o_strS {i : Int} {G : Gam} {n : Nat} (h : Sm n i) (hn : n ≤ 1919) : bltF G .str [.int i] = .ok (.str (toString i)) := o_str (by
  by_cases z : i.natAbs = 0
  · rw [z]; decide
  · have := (Nat.log2_lt z).mpr (h.up hn)
    omega)
theorem o_catS {a b : Str} (h : a.length + b.length ≤ lineN) : xb .add (.str a) (.str b) = .ok (.str (a ++ b)) := by
  rw [xb, binF, if_pos h]
theorem o_eqs {a b : Str} : xp .eq (.str a) (.str b) = .ok (a == b) := by rw [xp]; rfl
theorem o_nes {a b : Str} : xp .ne (.str a) (.str b) = .ok (!(a == b)) := by rw [xp]; rfl
/-- comparing data -/
theorem o_eqD {d e : D} {p q : PyData} (hp : toPy d = some p) (hq : toPy e = some q) (h1 : SeqAt.shaped p = true) (h2 : SeqAt.shaped q = true) (hf : eqF d e = (match toPy d, toPy e with | some p, some q => if SeqAt.shaped p && SeqAt.shaped q then .ok (PyData.eqv p q) else .st | _, _ => eqL d e)) : xp .eq d e = .ok (PyData.eqv p q) := by
  rw [xp, cmpF, hf, hp, hq]
  simp [h1, h2]
theorem x_asgE {G : Gam} {δ δ1 : Env} {e : E} {d : D} {i : Nat} (h : xv G (shareE δ) e = .ok d) (nf : noFrz d = true) (hz : δ.set i (some d) = δ1) : xc G (.asg (.nm i) (.ex e)) δ = .nx δ1 := x_asg (m_ex h nf) hz
theorem x_retE {G : Gam} {δ : Env} {e : E} {d : D} (h : xv G (shareE δ) e = .ok d) (nf : noFrz d = true) : xc G (.ret (.ex e)) δ = .rt d := x_ret (m_ex h nf)
theorem x_retB {G : Gam} {δ : Env} {e : E} {p : Bool} (h : xv G (shareE δ) e = .ok (.bl p)) (hp : p = true) : xc G (.ret (.ex e)) δ = .rt (.bl true) := by
  subst hp
  exact x_retE h rfl
theorem x_appE {G : Gam} {δ δ2 : Env} {e : E} {d : D} {ds : List D} {i : Nat} (h0 : δ[i]? = some (some (.lst true ds))) (h : xv G (shareE δ) e = .ok d) (nf : noFrz d = true) (hl : ds.length < lineN) (hz : δ.set i (some (.lst true (ds ++ [d]))) = δ2) : xc G (.app i (.ex e)) δ = .nx δ2 := x_app h0 (m_ex h nf) h0 hl hz
/-! ## Operators -/
section
variable {i j : Int}
theorem o_add : xb .add (.int i) (.int j) = .ok (.int (i + j)) := by rw [xb, b_add]
theorem o_sub : xb .sub (.int i) (.int j) = .ok (.int (i - j)) := by rw [xb, b_sub]
theorem o_and : xb .and (.int i) (.int j) = .ok (.int (Builtin.bitAnd i j)) := by rw [xb, b_and]
theorem o_xor : xb .xor (.int i) (.int j) = .ok (.int (Builtin.bitXor i j)) := by rw [xb, b_xor]
theorem o_mul (h : mulOk i j = true) : xb .mul (.int i) (.int j) = .ok (.int (i * j)) := by rw [xb, b_mul h]
theorem o_fdiv (h : 0 < j) (h2 : j.natAbs.log2 < 9000) : xb .fdiv (.int i) (.int j) = .ok (.int (i / j)) := by rw [xb, b_fdiv h h2]
theorem o_fdivS {n : Nat} (h : 0 < j) (hs : Sm n j) (hn : n ≤ 9000) : xb .fdiv (.int i) (.int j) = .ok (.int (i / j)) := o_fdiv h ((Nat.log2_lt (by omega)).mpr (hs.up hn))
theorem o_mod (h : 0 < j) : xb .mod (.int i) (.int j) = .ok (.int (i % j)) := by rw [xb, b_mod h]
theorem o_shl1 {n : Nat} (h : n ≤ 1000000) : xb .shl (.int 1) (.int (n : Int)) = .ok (.int (2 ^ n)) := by rw [xb, b_shl1 h]
theorem o_shr {n : Nat} : xb .shr (.int i) (.int (n : Int)) = .ok (.int (i / 2 ^ n)) := by rw [xb, b_shr]
theorem o_eq : xp .eq (.int i) (.int j) = .ok (i == j) := by rw [xp, c_eq]
theorem o_ne : xp .ne (.int i) (.int j) = .ok (!(i == j)) := by rw [xp, c_ne]
theorem o_lt : xp .lt (.int i) (.int j) = .ok (decide (i < j)) := by rw [xp, c_lt]
theorem o_le : xp .le (.int i) (.int j) = .ok (decide (i ≤ j)) := by rw [xp, c_le]
theorem o_gt : xp .gt (.int i) (.int j) = .ok (decide (j < i)) := by rw [xp, c_gt]
theorem o_ge : xp .ge (.int i) (.int j) = .ok (decide (j ≤ i)) := by rw [xp, c_ge]
theorem o_eqb {i j : Bool} : xp .eq (.bl i) (.bl j) = .ok (i == j) := by rw [xp, c_eqb]
theorem o_neb {i j : Bool} : xp .ne (.bl i) (.bl j) = .ok (!(i == j)) := by rw [xp, c_neb]
theorem o_isn {d : D} : xp .is d .non = .ok (isNon d) := by rw [xp, c_isn]
theorem o_nisn {d : D} : xp .nis d .non = .ok (!isNon d) := by rw [xp, c_nisn]
theorem lit_powX (a n m : Nat) (h : n ≤ 1000000) (h2 : a < 2 ^ 64) (h3 : 0 < a) (h4 : a ^ n < 2 ^ m) : ∃ A : Int, xb .pow (.int (a : Int)) (.int (n : Int)) = .ok (.int A) ∧ 0 < A ∧ Sm m A ∧ A = (a : Int) ^ n := by
  rw [xb]; exact lit_pow a n m h h2 h3 h4
end
/-! ## Lists of ints -/
theorem idx_ints {o : Bool} {ss : List Int} {k : Nat} {x : Int} (h : ss[k]? = some x) : idxF (.lst o (shares (ss.map .int))) (.int (k : Int)) = .ok (.int x) := by
  rw [shares_ints, idxF, atI_nat, List.getElem?_map, h]
  rfl
theorem idx_ints' {o : Bool} {ss : List Int} {k : Nat} {x : Int} (h : ss[k]? = some x) : idxF (.lst o (ss.map .int)) (.int (k : Int)) = .ok (.int x) := by
  rw [idxF, atI_nat, List.getElem?_map, h]
  rfl
theorem len_ints {G : Gam} {o : Bool} {ss : List Int} : bltF G .len [.lst o (shares (ss.map .int))] = .ok (.int (ss.length : Nat)) := by
  rw [bltF, lenF, shares_ints, List.length_map]
theorem len_ints' {G : Gam} {o : Bool} {ss : List Int} : bltF G .len [.lst o (ss.map .int)] = .ok (.int (ss.length : Nat)) := by
  rw [bltF, lenF, List.length_map]
theorem rng1_ok {n : Nat} (h : n < 2 ^ 62) : itemsF .rng1 [.int (n : Int)] = .ok (rngD 0 n 1) := by
  have e : rngOk (n : Int) = true := by unfold rngOk; simp; omega
  show rng1F [.int (n : Int)] = _
  rw [rng1F, if_pos e]
  rfl
theorem rng_at {n i : Nat} {x : D} (h : (rngD 0 n 1)[i]? = some x) : i < n ∧ x = .int (i : Int) := by
  unfold rngD at h
  rw [List.getElem?_map] at h
  cases e : (List.range n)[i]? with
  | none => rw [e] at h; cases h
  | some j =>
    rw [e] at h
    have hi : i < n := by
      have := (List.getElem?_eq_some_iff.mp e).1
      simpa using this
    rw [List.getElem?_range hi] at e
    cases e; cases h
    exact ⟨hi, by simp⟩
/-! ## __init__ -/
section
variable {G : Gam} {δ : Env} {c f e fk : String} {t a as : E} {r : List I} {ns ns' : List String} {ds ds' xs : List D} {d : D} {o : Res (List String × List D)}
theorem n_nil : exN G δ c [] ns ds = .ok (ns, ds) := rfl
theorem n_chkF (h : xv G δ t = .ok (.bl false)) (h2 : exN G δ c r ns ds = o) : exN G δ c (.chk t e :: r) ns ds = o := by
  rw [xv_eq] at h
  rw [exN, h]
  exact h2
theorem n_chkT (h : xv G δ t = .ok (.bl true)) : exN G δ c (.chk t e :: r) ns ds = .er e := by
  rw [xv_eq] at h
  rw [exN, h]
  rfl
theorem n_sup (h : xvs G δ as = .ok xs) (h1 : xf G fk (.obj c ns ds :: shares xs) = .ok (.obj c ns' ds')) (h2 : exN G δ c r ns' ds' = o) : exN G δ c (.sup fk as :: r) ns ds = o := by
  rw [xvs_eq] at h
  rw [xf_eq] at h1
  rw [exN, h, Res.bind, h1, Res.bind]
  dsimp only
  rw [if_pos rfl]
  exact h2
theorem n_supE (h : xvs G δ as = .ok xs) (h1 : xf G fk (.obj c ns ds :: shares xs) = .er e) : exN G δ c (.sup fk as :: r) ns ds = .er e := by
  rw [xvs_eq] at h
  rw [xf_eq] at h1
  rw [exN, h, Res.bind, h1]
  rfl
theorem n_set (h : xv G δ a = .ok d) (hf : (((G.ci c).any fun i => i.fields.contains f) && !ns.contains f && decide (ns.length < 900)) = true) (h2 : exN G δ c r (ns ++ [f]) (ds ++ [share d]) = o) : exN G δ c (.setf f a :: r) ns ds = o := by
  rw [xv_eq] at h
  rw [exN, h, Res.bind, if_pos hf]
  exact h2
theorem ini_okV {np n : Nat} {i : List I} (hn : ds.length + 1 = np) (h : exN G (none :: env0 (n - 1) ds) c i ns xs = .ok (ns', ds')) : callD G (.ini np n i) (.obj c ns xs :: ds) = .ok (.obj c ns' ds') := by
  rw [callD, if_pos hn, h]
  rfl
theorem ini_erV {np n : Nat} {i : List I} (hn : ds.length + 1 = np) (h : exN G (none :: env0 (n - 1) ds) c i ns xs = .er e) : callD G (.ini np n i) (.obj c ns xs :: ds) = .er e := by
  rw [callD, if_pos hn, h]
  rfl
end
section
theorem o_shlS {i : Int} {n m : Nat} (hi : Sm m i) (hm : m ≤ 1000000) (h : n ≤ 1000000) : xb .shl (.int i) (.int (n : Int)) = .ok (.int (i * 2 ^ n)) := by
  have e := bits_small hi
  rw [xb, binF, if_pos ⟨by omega, by omega⟩]
  rfl
theorem o_cat {o1 o2 : Bool} {xs ys : List D} (h : xs.length + ys.length ≤ lineN) : xb .add (.lst o1 xs) (.lst o2 ys) = .ok (.lst true (shares xs ++ shares ys)) := by
  rw [xb, binF, if_pos h]
/-- one of three -/
theorem low_of {m P : Int} (h : 0 ≤ m) (hP : 0 < P) : 0 ≤ m - m % P ∧ (m - m % P) % P = 0 := by
  have e : m - m % P = P * (m / P) := by
    have : m % P + P * (m / P) = m := by first | exact Int.emod_add_mul_ediv m P | exact Int.emod_add_ediv m P
    omega
  rw [e]
  exact ⟨Int.mul_nonneg (by omega) (Int.ediv_nonneg h (by omega)), Int.mul_emod_right P (m / P)⟩
theorem idx3 {o : Bool} {a b c k : Int} (h0 : 0 ≤ k) (h3 : k < 3) : ∃ x, (x = a ∨ x = b ∨ x = c) ∧ idxF (.lst o [.int a, .int b, .int c]) (.int k) = .ok (.int x) := by
  have : k = 0 ∨ k = 1 ∨ k = 2 := by omega
  rcases this with h | h | h <;> subst h
  · exact ⟨a, .inl rfl, rfl⟩
  · exact ⟨b, .inr (.inl rfl), rfl⟩
  · exact ⟨c, .inr (.inr rfl), rfl⟩
theorem idx2 {o : Bool} {a b k : Int} (h0 : 0 ≤ k) (h3 : k < 2) : ∃ x, (x = a ∨ x = b) ∧ idxF (.lst o [.int a, .int b]) (.int k) = .ok (.int x) := by
  have : k = 0 ∨ k = 1 := by omega
  rcases this with h | h <;> subst h
  · exact ⟨a, .inl rfl, rfl⟩
  · exact ⟨b, .inr rfl, rfl⟩
theorem len5 {α : Type} {xs : List α} (h : xs.length = 5) : ∃ a b c d e, xs = [a, b, c, d, e] := by
  match xs, h with
  | [a, b, c, d, e], _ => exact ⟨a, b, c, d, e, rfl⟩
theorem len4 {α : Type} {xs : List α} (h : xs.length = 4) : ∃ a b c d, xs = [a, b, c, d] := by
  match xs, h with
  | [a, b, c, d], _ => exact ⟨a, b, c, d, rfl⟩
theorem len3 {α : Type} {xs : List α} (h : xs.length = 3) : ∃ a b c, xs = [a, b, c] := by
  match xs, h with
  | [a, b, c], _ => exact ⟨a, b, c, rfl⟩
theorem len2 {α : Type} {xs : List α} (h : xs.length = 2) : ∃ a b, xs = [a, b] := by
  match xs, h with
  | [a, b], _ => exact ⟨a, b, rfl⟩
theorem len1 {α : Type} {xs : List α} (h : xs.length = 1) : ∃ a, xs = [a] := by
  match xs, h with
  | [a], _ => exact ⟨a, rfl⟩
theorem len6 {α : Type} {xs : List α} (h : xs.length = 6) : ∃ a b c d e f, xs = [a, b, c, d, e, f] := by
  match xs, h with
  | [a, b, c, d, e, f], _ => exact ⟨a, b, c, d, e, f, rfl⟩
end
section
theorem slc_scr {ns : List Int} {l h : Option Int} : slcF (.scr ns) l h = .ok (.lst true ((cutD ns l h).map .int)) := rfl
theorem cut_len {α : Type} (xs : List α) (l h : Option Int) : (cutD xs l h).length ≤ xs.length := by
  unfold cutD
  rw [List.length_take, List.length_drop]
  omega
theorem o_catI {o1 o2 : Bool} {xs ys : List Int} (h : xs.length + ys.length ≤ lineN) : xb .add (.lst o1 (xs.map .int)) (.lst o2 (ys.map .int)) = .ok (.lst true ((xs ++ ys).map .int)) := by
  rw [o_cat (by simpa using h), shares_ints, shares_ints, List.map_append]
theorem nofrz_intsL {o : Bool} {xs : List Int} (h : o = true) : noFrzs [.lst o (xs.map .int)] = true := by
  rw [noFrzs, noFrz, noFrzs_ints, h]; rfl
theorem seq_ints {o : Bool} {xs : List Int} : itemsF .seq [.lst o (xs.map .int)] = .ok (xs.map .int) := by
  show seqF [.lst o (xs.map .int)] = .ok (xs.map .int)
  rw [seqF, shares_ints]
end
/-! ## Comparing lists -/
section
theorem py_ints : ∀ xs : List Int, toPys (xs.map .int) = some (xs.map .int)
  | [] => rfl
  | x :: r => by rw [List.map_cons, toPys, py_ints r]; rfl
theorem py_bls : ∀ xs : List Bool, toPys (xs.map .bl) = some (xs.map .bool)
  | [] => rfl
  | x :: r => by rw [List.map_cons, toPys, py_bls r]; rfl
theorem lay_ints : ∀ xs : List Int, PyData.canLayAll0 (xs.map .int) = true
  | [] => rfl
  | x :: r => by rw [List.map_cons, PyData.canLayAll0, lay_ints r]; rfl
theorem lay_bls : ∀ xs : List Bool, PyData.canLayAll0 (xs.map .bool) = true
  | [] => rfl
  | x :: r => by rw [List.map_cons, PyData.canLayAll0, lay_bls r]; rfl
theorem dep_ints : ∀ xs : List Int, PyData.depthAll (xs.map .int) ≤ 5
  | [] => by simp [PyData.depthAll]
  | x :: r => by
    have := dep_ints r
    simp only [List.map_cons, PyData.depthAll, PyData.depth]
    omega
theorem dep_bls : ∀ xs : List Bool, PyData.depthAll (xs.map .bool) ≤ 5
  | [] => by simp [PyData.depthAll]
  | x :: r => by
    have := dep_bls r
    simp only [List.map_cons, PyData.depthAll, PyData.depth]
    omega
theorem eqv_ints : ∀ xs ys : List Int, PyData.eqvAll (xs.map .int) (ys.map .int) = (xs == ys)
  | [], [] => rfl
  | [], _ :: _ => rfl
  | _ :: _, [] => rfl
  | x :: xs, y :: ys => by rw [List.map_cons, List.map_cons, PyData.eqvAll, eqv_ints xs ys, PyData.eqv]; rfl
theorem eqv_bls : ∀ xs ys : List Bool, PyData.eqvAll (xs.map .bool) (ys.map .bool) = (xs == ys)
  | [], [] => rfl
  | [], _ :: _ => rfl
  | _ :: _, [] => rfl
  | x :: xs, y :: ys => by rw [List.map_cons, List.map_cons, PyData.eqvAll, eqv_bls xs ys, PyData.eqv]; rfl
theorem shape_list {xs : List PyData} (h : PyData.canLayAll0 xs = true) (d : PyData.depthAll xs ≤ 60) : SeqAt.shaped (.list xs) = true := by
  unfold SeqAt.shaped
  rw [PyData.canLay0, h, Bool.true_and, decide_eq_true_eq, PyData.depth]
  omega
theorem eqF_ll {o1 o2 : Bool} {xs ys : List D} {ps qs : List PyData} (hx : toPys xs = some ps) (hy : toPys ys = some qs) (h1 : SeqAt.shaped (.list ps) = true) (h2 : SeqAt.shaped (.list qs) = true) : eqF (.lst o1 xs) (.lst o2 ys) = .ok (PyData.eqvAll ps qs) := by
  show (match toPy (.lst o1 xs), toPy (.lst o2 ys) with
    | some p, some q => if SeqAt.shaped p && SeqAt.shaped q then Res.ok (PyData.eqv p q) else .st
    | _, _ => eqL (.lst o1 xs) (.lst o2 ys)) = _
  rw [toPy, toPy, hx, hy]
  simp only [Option.map_some, h1, h2, Bool.and_self, if_true]
  rw [PyData.eqv]
theorem o_eqI {o1 o2 : Bool} {xs ys : List Int} : xp .eq (.lst o1 (xs.map .int)) (.lst o2 (ys.map .int)) = .ok (xs == ys) := by
  have h1 := dep_ints xs
  have h2 := dep_ints ys
  rw [xp, cmpF, eqF_ll (py_ints xs) (py_ints ys) (shape_list (lay_ints xs) (by omega)) (shape_list (lay_ints ys) (by omega)), eqv_ints]
theorem o_neI {o1 o2 : Bool} {xs ys : List Int} : xp .ne (.lst o1 (xs.map .int)) (.lst o2 (ys.map .int)) = .ok (!(xs == ys)) := by
  have h1 := dep_ints xs
  have h2 := dep_ints ys
  rw [xp, cmpF, eqF_ll (py_ints xs) (py_ints ys) (shape_list (lay_ints xs) (by omega)) (shape_list (lay_ints ys) (by omega)), eqv_ints]
  rfl
theorem o_eqB {o1 o2 : Bool} {xs ys : List Bool} : xp .eq (.lst o1 (xs.map .bl)) (.lst o2 (ys.map .bl)) = .ok (xs == ys) := by
  have h1 := dep_bls xs
  have h2 := dep_bls ys
  rw [xp, cmpF, eqF_ll (py_bls xs) (py_bls ys) (shape_list (lay_bls xs) (by omega)) (shape_list (lay_bls ys) (by omega)), eqv_bls]
theorem o_neB {o1 o2 : Bool} {xs ys : List Bool} : xp .ne (.lst o1 (xs.map .bl)) (.lst o2 (ys.map .bl)) = .ok (!(xs == ys)) := by
  have h1 := dep_bls xs
  have h2 := dep_bls ys
  rw [xp, cmpF, eqF_ll (py_bls xs) (py_bls ys) (shape_list (lay_bls xs) (by omega)) (shape_list (lay_bls ys) (by omega)), eqv_bls]
  rfl
theorem forL_cons {b : Env → Out} {t : Tg} {x : D} {r : List D} {δ δ1 δ2 : Env} {o : Out} (h1 : bindT t x δ = some δ1) (h2 : b δ1 = .nx δ2) (h3 : forL b t r δ2 = o) : forL b t (x :: r) δ = o := by
  rw [forL, h1]
  simp only [h2]
  exact h3
theorem forL_nil {b : Env → Out} {t : Tg} {δ : Env} : forL b t [] δ = .nx δ := rfl
end
/-! ## Comprehensions -/
section
theorem mapF_ok {G : Gam} {ρ : Env} {t : Tg} {c e : E} (p : D → Bool) (f : D → D) : ∀ (xs : List D), (∀ x ∈ xs, ∃ ρ', bindT t x ρ = some ρ' ∧ xv G ρ' c = .ok (.bl (p x)) ∧ (p x = true → xv G ρ' e = .ok (f x))) → mapF (compF G ρ t c e) xs = .ok ((xs.filter p).map f)
  | [], _ => rfl
  | x :: r, h => by
    obtain ⟨ρ', h1, h2, h3⟩ := h x (List.mem_cons_self ..)
    have ih := mapF_ok p f r fun y m => h y (List.mem_cons_of_mem _ m)
    rw [xv_eq] at h2
    rw [mapF]
    unfold compF at ih ⊢
    rw [h1]
    dsimp only
    rw [h2, Res.bind]
    cases q : p x with
    | false =>
      dsimp only
      rw [ih, List.filter_cons_of_neg (by rw [q]; exact Bool.false_ne_true)]
    | true =>
      have h4 := h3 q
      rw [xv_eq] at h4
      dsimp only
      rw [h4, Res.bind]
      dsimp only
      rw [ih, Res.bind, List.filter_cons_of_pos q, List.map_cons]
theorem ok_comp {G : Gam} {ρ : Env} {t : Tg} {k : ItK} {as c e : E} {ds xs : List D} (p : D → Bool) (f : D → D) (hs : xvs G ρ as = .ok ds) (hi : itemsF k ds = .ok xs) (h : ∀ x ∈ xs, ∃ ρ', bindT t x ρ = some ρ' ∧ xv G ρ' c = .ok (.bl (p x)) ∧ (p x = true → xv G ρ' e = .ok (f x))) (hl : xs.length ≤ lineN) :
    xv G ρ (.comp t k as c e) = .ok (.lst true ((xs.filter p).map f)) := by
  have m := mapF_ok p f xs h
  rw [xvs_eq] at hs
  rw [xv_eq, ev, hs, Res.bind, hi, Res.bind]
  show (chkLen (mapF (compF G ρ t c e) xs)).bind (fun ys => Res.ok (D.lst true ys)) = _
  have l : ((xs.filter p).map f).length ≤ lineN := Nat.le_trans (by rw [List.length_map]; exact List.length_filter_le _ _) hl
  rw [m, chkLen, Res.bind, if_pos l, Res.bind]
theorem ints_of : ∀ xs : List Int, intsOf (xs.map .int) = some xs
  | [] => rfl
  | x :: r => by rw [List.map_cons, intsOf, ints_of r]; rfl
theorem sum_ints {G : Gam} {o : Bool} {xs : List Int} : bltF G .sum [.lst o (xs.map .int)] = .ok (.int xs.sum) := by
  show sumF [.lst o (xs.map .int)] = _
  rw [sumF, ints_of]
end
end Ev
/-! What functions of the program and of the laws answer, for every law that uses them. -/
namespace Lb
open Ev
def d__law_stir : Def := .fn 2 3
  (.seq (.asg (.nm 2) (.ex (.bin .add (.bin .add (.bin .mul (.bin .mod (.var 0) (.bin .pow (.int 10) (.int 40))) (.int 48271)) (.bin .mul (.bin .mul (.bin .pow (.int 3) (.int 60)) (.bin .add (.var 1) (.int 1))) (.bin .add (.var 1) (.int 1)))) (.var 1))))
  (.seq (.asg (.nm 2) (.ex (.bin .add (.bin .mul (.var 2) (.var 2)) (.bin .mul (.int 69621) (.var 2)))))
  (.ret (.ex (.bin .fdiv (.bin .mod (.bin .mul (.var 2) (.var 2)) (.bin .add (.bin .pow (.int 10) (.int 61)) (.int 7))) (.int 8))))))
def d__law_drawn : Def := .fn 2 5
  (.seq (.asg (.nm 2) (.ex (.lst .nil)))
  (.seq (.asg (.nm 3) (.ex (.bin .fdiv (.var 0) (.int 2))))
  (.seq (.for_ (.nm 4) .rng1 none (.cons (.blt .len (.cons (.var 1) .nil)) .nil)
  (.ife (.cmp .eq (.bin .mod (.var 0) (.int 2)) (.int 0))
  (.seq (.app 2 (.ex (.bin .mod (.var 3) (.idx (.var 1) (.var 4)))))
  (.asg (.nm 3) (.ex (.bin .fdiv (.var 3) (.idx (.var 1) (.var 4))))))
  (.app 2 (.ex (.bin .mod (.call "_law_stir" (.cons (.var 3) (.cons (.var 4) .nil))) (.idx (.var 1) (.var 4)))))))
  (.ret (.mv 2)))))
def d_Span___init__ : Def := .ini 2 2 [.setf "low" (.var 1)]
def d_Half___init__ : Def := .ini 3 3 [.chk (.or (.cmp .lt (.var 1) (.int 0)) (.or (.cmp .lt (.var 2) (.int 0)) (.cmp .ne (.bin .mod (.var 1) (.bin .shl (.int 1) (.var 2))) (.int 0)))) "NoSpan", .sup "Span.__init__" (.cons (.var 1) .nil), .setf "bits" (.var 2)]
def d_Span_lowest : Def := .fn 1 1
  (.ret (.ex (.fld (.var 0) "low")))
def d_Span_holds : Def := .fn 2 2
  (.ret (.ex (.cmp .ge (.var 1) (.fld (.var 0) "low"))))
def d_Half_holds : Def := .fn 2 2
  (.ret (.ex (.and (.cmp .le (.fld (.var 0) "low") (.var 1)) (.cmp .lt (.var 1) (.bin .add (.fld (.var 0) "low") (.bin .shl (.int 1) (.fld (.var 0) "bits")))))))
def d_Open___init__ : Def := .ini 2 2 [.chk (.or (.cmp .lt (.var 1) (.int 0)) (.cmp .ne (.bin .and (.var 1) (.bin .sub (.var 1) (.int 1))) (.int 0))) "NoSpan", .sup "Span.__init__" (.cons (.var 1) .nil)]
def d_Half_halves : Def := .fn 1 2
  (.seq (.ife (.cmp .eq (.fld (.var 0) "bits") (.int 0))
  (.rse "NoSpan")
  .skip)
  (.seq (.asg (.nm 1) (.ex (.bin .sub (.fld (.var 0) "bits") (.int 1))))
  (.ret (.ex (.tup (.cons (.new "Half" (.cons (.fld (.var 0) "low") (.cons (.var 1) .nil))) (.cons (.new "Half" (.cons (.bin .add (.fld (.var 0) "low") (.bin .shl (.int 1) (.var 1))) (.cons (.var 1) .nil))) .nil)))))))
def d_Open_halves : Def := .fn 1 2
  (.seq (.ife (.cmp .eq (.fld (.var 0) "low") (.int 0))
  (.ret (.ex (.tup (.cons (.new "Half" (.cons (.int 0) (.cons (.int 0) .nil))) (.cons (.new "Open" (.cons (.int 1) .nil)) .nil)))))
  .skip)
  (.seq (.asg (.nm 1) (.ex (.int 0)))
  (.seq (.whl (.cmp .lt (.bin .shl (.int 1) (.var 1)) (.fld (.var 0) "low"))
  (.aug 1 .add (.int 1)))
  (.ret (.ex (.tup (.cons (.new "Half" (.cons (.fld (.var 0) "low") (.cons (.var 1) .nil))) (.cons (.new "Open" (.cons (.bin .mul (.int 2) (.fld (.var 0) "low")) .nil)) .nil))))))))
def d_Span_shown : Def := .fn 1 1
  (.ret (.ex (.bin .add (.blt .str (.cons (.fld (.var 0) "low") .nil)) (.str "+"))))
def d_Half_shown : Def := .fn 1 1
  (.ret (.ex (.bin .add (.bin .add (.blt .str (.cons (.fld (.var 0) "low") .nil)) (.str "+")) (.blt .str (.cons (.fld (.var 0) "bits") .nil)))))
def d__law_cell : Def := .fn 2 2
  (.seq (.ife (.chain .le .lt (.int 0) (.var 1) (.blt .len (.cons (.var 0) .nil)))
  (.ret (.ex (.idx (.var 0) (.var 1))))
  .skip)
  (.ret (.ex (.int 0))))
def d__law_stir2 : Def := .fn 2 3
  (.seq (.asg (.nm 2) (.ex (.bin .mul (.bin .add (.bin .add (.bin .mod (.var 0) (.bin .pow (.int 10) (.int 60))) (.bin .mul (.int 7919) (.var 1))) (.int 1)) (.int 27182818284590452353602874713527))))
  (.seq (.asg (.nm 2) (.ex (.bin .mod (.var 2) (.int 170141183460469231731687303715884105727))))
  (.ret (.ex (.bin .fdiv (.bin .mod (.bin .mul (.var 2) (.var 2)) (.int 170141183460469231731687303715884105727)) (.int 5))))))
def d__law_number : Def := .fn 3 4
  (.seq (.ife (.cmp .eq (.bin .mod (.var 0) (.int 3)) (.int 0))
  (.ret (.ex (.bin .mod (.bin .fdiv (.var 0) (.int 3)) (.bin .shl (.int 1) (.var 1)))))
  .skip)
  (.seq (.asg (.nm 3) (.ex (.bin .add (.bin .shl (.call "_law_stir" (.cons (.var 0) (.cons (.int 1) .nil))) (.int 100)) (.call "_law_stir" (.cons (.var 0) (.cons (.int 2) .nil))))))
  (.seq (.ife (.or (.cmp .eq (.bin .mod (.var 0) (.int 3)) (.int 1)) (.cmp .eq (.var 2) (.lst .nil)))
  (.ret (.ex (.bin .mod (.var 3) (.bin .shl (.int 1) (.var 1)))))
  .skip)
  (.ret (.ex (.bin .xor (.idx (.var 2) (.bin .mod (.call "_law_stir" (.cons (.var 0) (.cons (.int 3) .nil))) (.blt .len (.cons (.var 2) .nil)))) (.bin .mod (.var 3) (.bin .shl (.int 1) (.bin .mod (.call "_law_stir" (.cons (.var 0) (.cons (.int 4) .nil))) (.bin .add (.var 1) (.int 1)))))))))))
def d_on_line : Def := .fn 2 4
  (.seq (.asg (.nm 2) (.ex .non))
  (.for_ (.nm 3) .seq none (.cons (.blt .sorted (.cons (.var 0) .nil)) .nil)
  (.seq (.ife (.or (.cmp .eq (.var 3) (.var 2)) (.not (.meth (.var 1) "holds" (.cons (.var 3) .nil))))
  (.rse "NoHands")
  .skip)
  (.asg (.nm 2) (.ex (.var 3))))))
def d_heard : Def := .fn 2 4
  (.seq (.asg (.nm 2) (.ex (.comp (.nm 3) .seq (.cons (.var 0) .nil) (.meth (.var 1) "holds" (.cons (.var 3) .nil)) (.var 3))))
  (.seq (.ife (.cmp .eq (.var 2) (.lst .nil))
  (.ret (.ex (.tup (.cons (.str "hush") .nil))))
  .skip)
  (.seq (.ife (.cmp .eq (.blt .len (.cons (.var 2) .nil)) (.int 1))
  (.ret (.ex (.tup (.cons (.str "word") (.cons (.idx (.var 2) (.int 0)) .nil)))))
  .skip)
  (.ret (.ex (.tup (.cons (.str "din") .nil)))))))
def d_talk : Def := .fn 2 8
  (.seq (.exp (.call "on_line" (.cons (.var 0) (.cons (.var 1) .nil))))
  (.seq (.asg (.nm 2) (.ex (.lst .nil)))
  (.seq (.asg (.nm 3) (.ex (.lst (.cons (.var 1) .nil))))
  (.seq (.whl (.cmp .ne (.var 3) (.lst .nil))
  (.seq (.pop (.nm 4) 3)
  (.seq (.asg (.nm 5) (.ex (.call "heard" (.cons (.var 0) (.cons (.var 4) .nil)))))
  (.seq (.app 2 (.ex (.tup (.cons (.var 4) (.cons (.var 5) .nil)))))
  (.ife (.cmp .eq (.var 5) (.tup (.cons (.str "din") .nil)))
  (.seq (.asg (.tp [6, 7]) (.ex (.meth (.var 4) "halves" .nil)))
  (.seq (.app 3 (.ex (.var 7)))
  (.app 3 (.ex (.var 6)))))
  .skip)))))
  (.ret (.mv 2))))))
def d_top_of : Def := .fn 1 1
  (.seq (.ife (.cmp .is (.var 0) .non)
  (.ret (.ex (.new "Open" (.cons (.int 0) .nil))))
  .skip)
  (.ret (.ex (.new "Half" (.cons (.int 0) (.cons (.var 0) .nil))))))
def d_common_bits : Def := .fn 3 5
  (.seq (.asg (.nm 3) (.ex (.bin .xor (.var 0) (.var 1))))
  (.seq (.asg (.nm 4) (.ex (.var 2)))
  (.seq (.whl (.cmp .gt (.var 3) (.int 0))
  (.seq (.asg (.nm 3) (.ex (.bin .shr (.var 3) (.int 1))))
  (.aug 4 .sub (.int 1))))
  (.ret (.ex (.var 4))))))
def d_dins : Def := .fn 2 8
  (.seq (.exp (.call "on_line" (.cons (.var 0) (.cons (.call "top_of" (.cons (.var 1) .nil)) .nil))))
  (.seq (.asg (.nm 2) (.ex (.blt .sorted (.cons (.var 0) .nil))))
  (.seq (.asg (.nm 3) (.ex (.int 0)))
  (.seq (.asg (.nm 4) (.ex (.neg (.int 1))))
  (.seq (.for_ (.tp [5, 6]) .zip (some [2]) (.cons (.slc (.var 2) .nop (.neg (.int 1))) (.cons (.slc (.var 2) (.int 1) .nop) .nil))
  (.seq (.asg (.nm 7) (.ex (.call "common_bits" (.cons (.var 5) (.cons (.var 6) (.cons (.var 1) .nil))))))
  (.seq (.aug 3 .add (.blt .max (.cons (.int 0) (.cons (.bin .sub (.var 7) (.var 4)) .nil))))
  (.asg (.nm 4) (.ex (.var 7))))))
  (.ret (.ex (.var 3))))))))
def d_turns : Def := .fn 2 2
  (.ret (.ex (.bin .add (.bin .mul (.int 2) (.call "dins" (.cons (.var 0) (.cons (.var 1) .nil)))) (.int 1))))
def d_turn_of : Def := .fn 3 6
  (.seq (.asg (.nm 3) (.ex (.call "talk" (.cons (.var 0) (.cons (.call "top_of" (.cons (.var 1) .nil)) .nil)))))
  (.seq (.for_ (.tp [4, 5]) .enum none (.cons (.var 3) .nil)
  (.ife (.cmp .eq (.idx (.var 5) (.int 1)) (.tup (.cons (.str "word") (.cons (.var 2) .nil))))
  (.ret (.ex (.var 4)))
  .skip))
  (.rse "NoHand")))
def d__law_size : Def := .fn 1 7
  (.seq (.asg (.tp [1, 2, 3, 4, 5]) (.ex (.call "_law_drawn" (.cons (.var 0) (.cons (.lst (.cons (.int 3) (.cons (.int 201) (.cons (.int 4) (.cons (.int 121) (.cons (.bin .pow (.int 10) (.int 60)) .nil)))))) .nil)))))
  (.seq (.asg (.nm 2) (.ex (.bin .mod (.var 2) (.idx (.lst (.cons (.int 201) (.cons (.int 21) (.cons (.int 7) .nil)))) (.var 1)))))
  (.seq (.asg (.nm 6) (.ex (.bin .shl (.int 1) (.var 2))))
  (.seq (.ife (.cmp .eq (.var 3) (.int 3))
  (.ret (.ex (.tup (.cons (.var 2) (.cons (.blt .max (.cons (.int 0) (.cons (.bin .sub (.bin .sub (.blt .min (.cons (.var 6) (.cons (.bin .pow (.int 10) (.int 60)) .nil))) (.int 1)) (.bin .mod (.var 4) (.int 3))) .nil))) .nil)))))
  .skip)
  (.ret (.ex (.tup (.cons (.var 2) (.cons (.idx (.lst (.cons (.blt .min (.cons (.var 4) (.cons (.var 6) .nil))) (.cons (.blt .min (.cons (.bin .mod (.var 4) (.int 8)) (.cons (.var 6) .nil))) (.cons (.bin .mod (.var 5) (.bin .add (.var 6) (.int 1))) .nil)))) (.var 3)) .nil)))))))))
def d_need_room : Def := .fn 2 2
  (.ife (.cmp .gt (.var 1) (.bin .shl (.int 1) (.var 0)))
  (.rse "NoHands")
  .skip)
def d_fewest_turns : Def := .fn 2 2
  (.seq (.exp (.call "need_room" (.cons (.var 0) (.cons (.var 1) .nil))))
  (.seq (.ife (.cmp .eq (.var 1) (.int 0))
  (.ret (.ex (.int 1)))
  .skip)
  (.ret (.ex (.bin .sub (.bin .mul (.int 2) (.var 1)) (.int 1))))))
def d_most_turns : Def := .fn 2 3
  (.seq (.exp (.call "need_room" (.cons (.var 0) (.cons (.var 1) .nil))))
  (.seq (.ife (.cmp .lt (.var 1) (.int 2))
  (.ret (.ex (.int 1)))
  .skip)
  (.ret (.ex (.bin .add (.int 1) (.bin .mul (.int 2) (.blt .sum (.cons (.comp (.nm 2) .rng1 (.cons (.var 0) .nil) (.bl true) (.blt .min (.cons (.bin .shl (.int 1) (.var 2)) (.cons (.bin .fdiv (.var 1) (.int 2)) .nil)))) .nil))))))))
def d__law_cell_at : Def := .fn 2 2
  (.seq (.ife (.cmp .lt (.var 1) (.blt .len (.cons (.var 0) .nil)))
  (.ret (.ex (.idx (.var 0) (.var 1))))
  .skip)
  (.ret (.ex (.int 0))))
theorem stir_ok (G : Gam) (cell k : Int) (hk : 0 ≤ k) (hk2 : k < 2 ^ 60) : ∃ r : Int, callD G d__law_stir [.int cell, .int k] = .ok (.int r) := by
  obtain ⟨A, e40, p40, t40, _⟩ := lit_powX 10 40 140 (by decide) (by decide) (by decide) (by decide)
  obtain ⟨B, e60, p60, t60, _⟩ := lit_powX 3 60 100 (by decide) (by decide) (by decide) (by decide)
  obtain ⟨C, e61, p61, t61, _⟩ := lit_powX 10 61 210 (by decide) (by decide) (by decide) (by decide)
  have sk : Sm 60 k := sm_of hk hk2
  have sk1 : Sm 61 (k + 1) := (sm_add sk (sm_lit (n := 1) (by decide))).up (by decide)
  have s1 : Sm 140 (cell % A) := sm_mod p40 t40
  have a1 : Sm 160 (cell % A * 48271) := (sm_mul s1 (sm_lit (n := 20) (by decide))).up (by decide)
  have a2 : Sm 161 (B * (k + 1)) := (sm_mul t60 sk1).up (by decide)
  have a3 : Sm 222 (B * (k + 1) * (k + 1)) := (sm_mul a2 sk1).up (by decide)
  have a4 : Sm 230 (cell % A * 48271 + B * (k + 1) * (k + 1) + k) := (sm_add (sm_add a1 a3) sk).up (by decide)
  have m1 := o_mul (mulOk_of s1 (sm_lit (x := 48271) (n := 20) (by decide)) (by decide))
  have m2 := o_mul (mulOk_of t60 sk1 (by decide))
  have m3 := o_mul (mulOk_of a2 sk1 (by decide))
  have m4 := o_mul (mulOk_of a4 a4 (by decide))
  have m5 := o_mul (mulOk_of (sm_lit (x := 69621) (n := 20) (by decide)) a4 (by decide))
  have a5 := sm_add (sm_mul a4 a4) (sm_mul (sm_lit (x := 69621) (n := 20) (by decide)) a4)
  have m6 := o_mul (mulOk_of a5 a5 (by decide))
  have p61' : 0 < C + 7 := by omega
  refine Exists.intro ?r (fn_rt rfl ?h)
  case h =>
   repeat' (first | exact e40 | exact e60 | exact e61 | exact m1 | exact m2 | exact m3 | exact m4 | exact m5 | exact m6 | exact o_mod p40 | exact o_mod p61' | exact o_fdivS (j := 8) (by decide) (sm_lit (n := 10) (by decide)) (by decide) | (apply ok_var; rfl) | exact ok_int | exact ok_bl | exact ok_str | exact ok_non | (apply ok_cst; rfl) | exact oks_nil | exact o_add | exact o_sub | exact o_and | exact o_xor | exact o_eq | exact o_ne | exact o_lt | exact o_le | exact o_gt | exact o_ge | exact o_eqb | exact o_neb | exact o_isn | exact o_nisn | apply x_seq | exact x_skip | apply x_asg | apply x_ret | exact x_retN | apply m_ex | (apply m_mv; rfl) | apply m_exf | apply ok_bin | apply ok_cmp | apply ok_chain | apply ok_not | apply ok_neg | apply ok_and | apply ok_or | apply oks_cons | apply ok_tup | apply ok_lst | apply ok_idx | apply ok_fld | apply ok_call | apply ok_meth | apply ok_new | apply ok_blt | exact Nat.le_of_ble_eq_true rfl | rfl | decide)
theorem drawn_ok (G : Gam) (hst : ∀ r k : Int, 0 ≤ k → k < 2 ^ 60 → ∃ x : Int, xf G "_law_stir" [.int r, .int k] = .ok (.int x)) (cell : Int) (ss : List Int) (hl : ss.length ≤ 1000) (hs : ∀ s ∈ ss, 0 < s ∧ Sm 9000 s) :
    ∃ xs : List Int, callD G d__law_drawn [.int cell, .lst false (ss.map .int)] = .ok (.lst true (xs.map .int)) ∧ xs.length = ss.length ∧ ∀ (i : Nat) (x s : Int), xs[i]? = some x → ss[i]? = some s → 0 ≤ x ∧ x < s := by
  have two : (0 : Int) < 2 := by decide
  obtain ⟨δ', e1, xs, rest, kk, e2, h1, h2⟩ := forL_ok (b := exec G (.ife (.cmp .eq (.bin .mod (.var 0) (.int 2)) (.int 0))
  (.seq (.app 2 (.ex (.bin .mod (.var 3) (.idx (.var 1) (.var 4)))))
  (.asg (.nm 3) (.ex (.bin .fdiv (.var 3) (.idx (.var 1) (.var 4))))))
  (.app 2 (.ex (.bin .mod (.call "_law_stir" (.cons (.var 3) (.cons (.var 4) .nil))) (.idx (.var 1) (.var 4))))))) (t := .nm 4)
    (fun i δ => ∃ (xs : List Int) (rest : Int) (kk : Option D), δ = [some (.int cell), some (.lst false (ss.map .int)), some (.lst true (xs.map .int)), some (.int rest), kk] ∧ xs.length = i ∧ ∀ (i : Nat) (x s : Int), xs[i]? = some x → ss[i]? = some s → 0 ≤ x ∧ x < s)
    (rngD 0 ss.length 1) [some (.int cell), some (.lst false (ss.map .int)), some (.lst true []), some (.int (cell / 2)), none] 0 ⟨[], cell / 2, none, rfl, rfl, by simp⟩ (by
      rintro i y δ hy ⟨xs, rest, kk, rfl, hxl, hb⟩
      obtain ⟨hi, rfl⟩ := rng_at hy
      obtain ⟨s, es⟩ : ∃ s, ss[i]? = some s := ⟨ss[i], by simp [hi]⟩
      obtain ⟨s0, s9⟩ := hs s (List.mem_of_getElem? es)
      refine ⟨_, rfl, ?_⟩
      have fin : ∀ (x : Int), 0 ≤ x → x < s → ∀ (j : Nat) (y t : Int), (xs ++ [x])[j]? = some y → ss[j]? = some t → 0 ≤ y ∧ y < t := by
        intro x hx0 hx1 j y' t hq ht
        rw [List.getElem?_append] at hq
        split at hq
        · exact hb j y' t hq ht
        · rename_i hj
          have hxl : xs.length = i := by omega
          by_cases ej : j = i
          · subst ej
            rw [hxl, Nat.sub_self] at hq
            cases hq
            rw [es] at ht; cases ht
            exact ⟨hx0, hx1⟩
          · rw [List.getElem?_eq_none (by simp; omega)] at hq; cases hq
      have hxs : (xs.map D.int).length < lineN := by
        rw [List.length_map, show lineN = 16777216 from rfl]; omega
      rw [← xc_fun]
      by_cases hc : cell % 2 = 0
      · refine ⟨[some (.int cell), some (.lst false (ss.map .int)), some (.lst true ((xs ++ [rest % s]).map .int)), some (.int (rest / s)), some (.int i)], .inl ?h, ?_⟩
        case h =>
          refine x_ifT (p := true) ?_ rfl ?_
          · have : (cell % 2 == 0) = true := by simpa using hc
            rw [← this]
            repeat' (first | exact o_mod two | (apply ok_var; rfl) | exact ok_int | exact ok_bl | exact ok_str | exact ok_non | (apply ok_cst; rfl) | exact oks_nil | exact o_add | exact o_sub | exact o_and | exact o_xor | exact o_eq | exact o_ne | exact o_lt | exact o_le | exact o_gt | exact o_ge | exact o_eqb | exact o_neb | exact o_isn | exact o_nisn | apply x_seq | exact x_skip | apply x_asg | apply x_ret | exact x_retN | apply m_ex | (apply m_mv; rfl) | apply m_exf | apply ok_bin | apply ok_cmp | apply ok_chain | apply ok_not | apply ok_neg | apply ok_and | apply ok_or | apply oks_cons | apply ok_tup | apply ok_lst | apply ok_idx | apply ok_fld | apply ok_call | apply ok_meth | apply ok_new | apply ok_blt | exact Nat.le_of_ble_eq_true rfl | rfl | decide)
          · refine x_seq (δ1 := [some (.int cell), some (.lst false (ss.map .int)), some (.lst true ((xs ++ [rest % s]).map .int)), some (.int rest), some (.int i)]) ?_ ?_
            · rw [List.map_append]
              refine x_appE (ds := xs.map .int) (d := .int (rest % s)) rfl ?_ rfl hxs rfl
              repeat' (first | exact o_mod s0 | exact idx_ints es | (apply ok_var; rfl) | exact ok_int | exact ok_bl | exact ok_str | exact ok_non | (apply ok_cst; rfl) | exact oks_nil | exact o_add | exact o_sub | exact o_and | exact o_xor | exact o_eq | exact o_ne | exact o_lt | exact o_le | exact o_gt | exact o_ge | exact o_eqb | exact o_neb | exact o_isn | exact o_nisn | apply x_seq | exact x_skip | apply x_asg | apply x_ret | exact x_retN | apply m_ex | (apply m_mv; rfl) | apply m_exf | apply ok_bin | apply ok_cmp | apply ok_chain | apply ok_not | apply ok_neg | apply ok_and | apply ok_or | apply oks_cons | apply ok_tup | apply ok_lst | apply ok_idx | apply ok_fld | apply ok_call | apply ok_meth | apply ok_new | apply ok_blt | exact Nat.le_of_ble_eq_true rfl | rfl | decide)
            · repeat' (first | exact o_fdivS s0 s9 (Nat.le_refl _) | exact idx_ints es | (apply ok_var; rfl) | exact ok_int | exact ok_bl | exact ok_str | exact ok_non | (apply ok_cst; rfl) | exact oks_nil | exact o_add | exact o_sub | exact o_and | exact o_xor | exact o_eq | exact o_ne | exact o_lt | exact o_le | exact o_gt | exact o_ge | exact o_eqb | exact o_neb | exact o_isn | exact o_nisn | apply x_seq | exact x_skip | apply x_asg | apply x_ret | exact x_retN | apply m_ex | (apply m_mv; rfl) | apply m_exf | apply ok_bin | apply ok_cmp | apply ok_chain | apply ok_not | apply ok_neg | apply ok_and | apply ok_or | apply oks_cons | apply ok_tup | apply ok_lst | apply ok_idx | apply ok_fld | apply ok_call | apply ok_meth | apply ok_new | apply ok_blt | exact Nat.le_of_ble_eq_true rfl | rfl | decide)
        exact ⟨xs ++ [rest % s], _, _, rfl, by simp [hxl], fin _ (Int.emod_nonneg _ (by omega)) (Int.emod_lt_of_pos _ s0)⟩
      · obtain ⟨z, ez⟩ := hst rest i (by omega) (by omega)
        refine ⟨[some (.int cell), some (.lst false (ss.map .int)), some (.lst true ((xs ++ [z % s]).map .int)), some (.int rest), some (.int i)], .inl ?h2, ?_⟩
        case h2 =>
          refine x_ifF (p := false) ?_ rfl ?_
          · have : (cell % 2 == 0) = false := by simpa using hc
            rw [← this]
            repeat' (first | exact o_mod two | (apply ok_var; rfl) | exact ok_int | exact ok_bl | exact ok_str | exact ok_non | (apply ok_cst; rfl) | exact oks_nil | exact o_add | exact o_sub | exact o_and | exact o_xor | exact o_eq | exact o_ne | exact o_lt | exact o_le | exact o_gt | exact o_ge | exact o_eqb | exact o_neb | exact o_isn | exact o_nisn | apply x_seq | exact x_skip | apply x_asg | apply x_ret | exact x_retN | apply m_ex | (apply m_mv; rfl) | apply m_exf | apply ok_bin | apply ok_cmp | apply ok_chain | apply ok_not | apply ok_neg | apply ok_and | apply ok_or | apply oks_cons | apply ok_tup | apply ok_lst | apply ok_idx | apply ok_fld | apply ok_call | apply ok_meth | apply ok_new | apply ok_blt | exact Nat.le_of_ble_eq_true rfl | rfl | decide)
          · rw [List.map_append]
            refine x_appE (ds := xs.map .int) (d := .int (z % s)) rfl ?_ rfl hxs rfl
            repeat' (first | exact o_mod s0 | exact idx_ints es | exact ez | (apply ok_var; rfl) | exact ok_int | exact ok_bl | exact ok_str | exact ok_non | (apply ok_cst; rfl) | exact oks_nil | exact o_add | exact o_sub | exact o_and | exact o_xor | exact o_eq | exact o_ne | exact o_lt | exact o_le | exact o_gt | exact o_ge | exact o_eqb | exact o_neb | exact o_isn | exact o_nisn | apply x_seq | exact x_skip | apply x_asg | apply x_ret | exact x_retN | apply m_ex | (apply m_mv; rfl) | apply m_exf | apply ok_bin | apply ok_cmp | apply ok_chain | apply ok_not | apply ok_neg | apply ok_and | apply ok_or | apply oks_cons | apply ok_tup | apply ok_lst | apply ok_idx | apply ok_fld | apply ok_call | apply ok_meth | apply ok_new | apply ok_blt | exact Nat.le_of_ble_eq_true rfl | rfl | decide)
        exact ⟨xs ++ [z % s], rest, _, rfl, by simp [hxl], fin _ (Int.emod_nonneg _ (by omega)) (Int.emod_lt_of_pos _ s0)⟩)
  refine ⟨xs, fn_rt rfl ?_, ?_, h2⟩
  · refine x_seq (δ1 := [some (.int cell), some (.lst false (ss.map .int)), some (.lst true []), none, none]) ?_ ?_
    · repeat' (first | (apply ok_var; rfl) | exact ok_int | exact ok_bl | exact ok_str | exact ok_non | (apply ok_cst; rfl) | exact oks_nil | exact o_add | exact o_sub | exact o_and | exact o_xor | exact o_eq | exact o_ne | exact o_lt | exact o_le | exact o_gt | exact o_ge | exact o_eqb | exact o_neb | exact o_isn | exact o_nisn | apply x_seq | exact x_skip | apply x_asg | apply x_ret | exact x_retN | apply m_ex | (apply m_mv; rfl) | apply m_exf | apply ok_bin | apply ok_cmp | apply ok_chain | apply ok_not | apply ok_neg | apply ok_and | apply ok_or | apply oks_cons | apply ok_tup | apply ok_lst | apply ok_idx | apply ok_fld | apply ok_call | apply ok_meth | apply ok_new | apply ok_blt | exact Nat.le_of_ble_eq_true rfl | rfl | decide)
    · refine x_seq (δ1 := [some (.int cell), some (.lst false (ss.map .int)), some (.lst true []), some (.int (cell / 2)), none]) ?_ ?_
      · repeat' (first | exact o_fdivS (j := 2) two (sm_lit (n := 10) (by decide)) (by decide) | (apply ok_var; rfl) | exact ok_int | exact ok_bl | exact ok_str | exact ok_non | (apply ok_cst; rfl) | exact oks_nil | exact o_add | exact o_sub | exact o_and | exact o_xor | exact o_eq | exact o_ne | exact o_lt | exact o_le | exact o_gt | exact o_ge | exact o_eqb | exact o_neb | exact o_isn | exact o_nisn | apply x_seq | exact x_skip | apply x_asg | apply x_ret | exact x_retN | apply m_ex | (apply m_mv; rfl) | apply m_exf | apply ok_bin | apply ok_cmp | apply ok_chain | apply ok_not | apply ok_neg | apply ok_and | apply ok_or | apply oks_cons | apply ok_tup | apply ok_lst | apply ok_idx | apply ok_fld | apply ok_call | apply ok_meth | apply ok_new | apply ok_blt | exact Nat.le_of_ble_eq_true rfl | rfl | decide)
      · refine x_seq (δ1 := δ') (x_for (xs := rngD 0 ss.length 1) ?_ ?_ (rng1_ok (by omega)) (by rw [xc_fun]; exact e1)) ?_
        · repeat' (first | exact len_ints | (apply ok_var; rfl) | exact ok_int | exact ok_bl | exact ok_str | exact ok_non | (apply ok_cst; rfl) | exact oks_nil | exact o_add | exact o_sub | exact o_and | exact o_xor | exact o_eq | exact o_ne | exact o_lt | exact o_le | exact o_gt | exact o_ge | exact o_eqb | exact o_neb | exact o_isn | exact o_nisn | apply x_seq | exact x_skip | apply x_asg | apply x_ret | exact x_retN | apply m_ex | (apply m_mv; rfl) | apply m_exf | apply ok_bin | apply ok_cmp | apply ok_chain | apply ok_not | apply ok_neg | apply ok_and | apply ok_or | apply oks_cons | apply ok_tup | apply ok_lst | apply ok_idx | apply ok_fld | apply ok_call | apply ok_meth | apply ok_new | apply ok_blt | exact Nat.le_of_ble_eq_true rfl | rfl | decide)
        · rfl
        · subst e2
          repeat' (first | (apply ok_var; rfl) | exact ok_int | exact ok_bl | exact ok_str | exact ok_non | (apply ok_cst; rfl) | exact oks_nil | exact o_add | exact o_sub | exact o_and | exact o_xor | exact o_eq | exact o_ne | exact o_lt | exact o_le | exact o_gt | exact o_ge | exact o_eqb | exact o_neb | exact o_isn | exact o_nisn | apply x_seq | exact x_skip | apply x_asg | apply x_ret | exact x_retN | apply m_ex | (apply m_mv; rfl) | apply m_exf | apply ok_bin | apply ok_cmp | apply ok_chain | apply ok_not | apply ok_neg | apply ok_and | apply ok_or | apply oks_cons | apply ok_tup | apply ok_lst | apply ok_idx | apply ok_fld | apply ok_call | apply ok_meth | apply ok_new | apply ok_blt | exact Nat.le_of_ble_eq_true rfl | rfl | decide)
  · rw [h1]; simp [rngD]
theorem pow_i (n : Nat) : (0 : Int) < 2 ^ n := Int.pow_pos (by decide)
theorem half_ok (G : Gam) (hci : (G.ci "Half").map (·.fields) = some ["low", "bits"]) (hsp : ∀ v : Int, xf G "Span.__init__" [.obj "Half" [] [], .int v] = .ok (.obj "Half" ["low"] [.int v])) (low : Int) (n : Nat) (hn : n ≤ 1000) (h0 : 0 ≤ low) (hm : low % 2 ^ n = 0) :
    callD G d_Half___init__ [.obj "Half" [] [], .int low, .int n] = .ok (.obj "Half" ["low", "bits"] [.int low, .int n]) := by
  obtain ⟨ci, h1, h2⟩ := Option.map_eq_some_iff.mp hci
  refine ini_okV rfl ?_
  refine n_chkF ?_ (n_sup (xs := [.int low]) (ns' := ["low"]) (ds' := [.int low]) ?_ (hsp low) (n_set (d := .int n) ?_ ?_ n_nil))
  · have : (decide (low < 0) || (decide ((n : Int) < 0) || !(low % 2 ^ n == 0))) = false := by
      simp [hm]; omega
    rw [← this]
    repeat' (first | exact o_mod (pow_i n) | exact o_shl1 (n := n) (by omega) | (apply ok_var; rfl) | exact ok_int | exact ok_bl | exact ok_str | exact ok_non | (apply ok_cst; rfl) | exact oks_nil | exact o_add | exact o_sub | exact o_and | exact o_xor | exact o_eq | exact o_ne | exact o_lt | exact o_le | exact o_gt | exact o_ge | exact o_eqb | exact o_neb | exact o_isn | exact o_nisn | apply x_seq | exact x_skip | apply x_asg | apply x_ret | exact x_retN | apply m_ex | (apply m_mv; rfl) | apply m_exf | apply ok_bin | apply ok_cmp | apply ok_chain | apply ok_not | apply ok_neg | apply ok_and | apply ok_or | apply oks_cons | apply ok_tup | apply ok_lst | apply ok_idx | apply ok_fld | apply ok_call | apply ok_meth | apply ok_new | apply ok_blt | exact Nat.le_of_ble_eq_true rfl | rfl | decide)
  · repeat' (first | (apply ok_var; rfl) | exact ok_int | exact ok_bl | exact ok_str | exact ok_non | (apply ok_cst; rfl) | exact oks_nil | exact o_add | exact o_sub | exact o_and | exact o_xor | exact o_eq | exact o_ne | exact o_lt | exact o_le | exact o_gt | exact o_ge | exact o_eqb | exact o_neb | exact o_isn | exact o_nisn | apply x_seq | exact x_skip | apply x_asg | apply x_ret | exact x_retN | apply m_ex | (apply m_mv; rfl) | apply m_exf | apply ok_bin | apply ok_cmp | apply ok_chain | apply ok_not | apply ok_neg | apply ok_and | apply ok_or | apply oks_cons | apply ok_tup | apply ok_lst | apply ok_idx | apply ok_fld | apply ok_call | apply ok_meth | apply ok_new | apply ok_blt | exact Nat.le_of_ble_eq_true rfl | rfl | decide)
  · repeat' (first | (apply ok_var; rfl) | exact ok_int | exact ok_bl | exact ok_str | exact ok_non | (apply ok_cst; rfl) | exact oks_nil | exact o_add | exact o_sub | exact o_and | exact o_xor | exact o_eq | exact o_ne | exact o_lt | exact o_le | exact o_gt | exact o_ge | exact o_eqb | exact o_neb | exact o_isn | exact o_nisn | apply x_seq | exact x_skip | apply x_asg | apply x_ret | exact x_retN | apply m_ex | (apply m_mv; rfl) | apply m_exf | apply ok_bin | apply ok_cmp | apply ok_chain | apply ok_not | apply ok_neg | apply ok_and | apply ok_or | apply oks_cons | apply ok_tup | apply ok_lst | apply ok_idx | apply ok_fld | apply ok_call | apply ok_meth | apply ok_new | apply ok_blt | exact Nat.le_of_ble_eq_true rfl | rfl | decide)
  · rw [h1]; simp [h2]
theorem lowest_ok (G : Gam) (low bits : Int) : callD G d_Span_lowest [.obj "Half" ["low", "bits"] [.int low, .int bits]] = .ok (.int low) := by
  refine fn_rt rfl ?_
  repeat' (first | (apply ok_var; rfl) | exact ok_int | exact ok_bl | exact ok_str | exact ok_non | (apply ok_cst; rfl) | exact oks_nil | exact o_add | exact o_sub | exact o_and | exact o_xor | exact o_eq | exact o_ne | exact o_lt | exact o_le | exact o_gt | exact o_ge | exact o_eqb | exact o_neb | exact o_isn | exact o_nisn | apply x_seq | exact x_skip | apply x_asg | apply x_ret | exact x_retN | apply m_ex | (apply m_mv; rfl) | apply m_exf | apply ok_bin | apply ok_cmp | apply ok_chain | apply ok_not | apply ok_neg | apply ok_and | apply ok_or | apply oks_cons | apply ok_tup | apply ok_lst | apply ok_idx | apply ok_fld | apply ok_call | apply ok_meth | apply ok_new | apply ok_blt | exact Nat.le_of_ble_eq_true rfl | rfl | decide)
theorem holds_ok (G : Gam) (low z : Int) (n : Nat) (hn : n ≤ 1000) : callD G d_Half_holds [.obj "Half" ["low", "bits"] [.int low, .int n], .int z] = .ok (.bl (decide (low ≤ z) && decide (z < low + 2 ^ n))) := by
  refine fn_rt rfl ?_
  repeat' (first | exact o_shl1 (n := n) (by omega) | (apply ok_var; rfl) | exact ok_int | exact ok_bl | exact ok_str | exact ok_non | (apply ok_cst; rfl) | exact oks_nil | exact o_add | exact o_sub | exact o_and | exact o_xor | exact o_eq | exact o_ne | exact o_lt | exact o_le | exact o_gt | exact o_ge | exact o_eqb | exact o_neb | exact o_isn | exact o_nisn | apply x_seq | exact x_skip | apply x_asg | apply x_ret | exact x_retN | apply m_ex | (apply m_mv; rfl) | apply m_exf | apply ok_bin | apply ok_cmp | apply ok_chain | apply ok_not | apply ok_neg | apply ok_and | apply ok_or | apply oks_cons | apply ok_tup | apply ok_lst | apply ok_idx | apply ok_fld | apply ok_call | apply ok_meth | apply ok_new | apply ok_blt | exact Nat.le_of_ble_eq_true rfl | rfl | decide)
theorem span_ok (G : Gam) (hci : (G.ci "Half").map (·.fields) = some ["low", "bits"]) (v : Int) : callD G d_Span___init__ [.obj "Half" [] [], .int v] = .ok (.obj "Half" ["low"] [.int v]) := by
  obtain ⟨ci, h1, h2⟩ := Option.map_eq_some_iff.mp hci
  refine ini_okV rfl (n_set (d := .int v) ?_ ?_ n_nil)
  · repeat' (first | (apply ok_var; rfl) | exact ok_int | exact ok_bl | exact ok_str | exact ok_non | (apply ok_cst; rfl) | exact oks_nil | exact o_add | exact o_sub | exact o_and | exact o_xor | exact o_eq | exact o_ne | exact o_lt | exact o_le | exact o_gt | exact o_ge | exact o_eqb | exact o_neb | exact o_isn | exact o_nisn | apply x_seq | exact x_skip | apply x_asg | apply x_ret | exact x_retN | apply m_ex | (apply m_mv; rfl) | apply m_exf | apply ok_bin | apply ok_cmp | apply ok_chain | apply ok_not | apply ok_neg | apply ok_and | apply ok_or | apply oks_cons | apply ok_tup | apply ok_lst | apply ok_idx | apply ok_fld | apply ok_call | apply ok_meth | apply ok_new | apply ok_blt | exact Nat.le_of_ble_eq_true rfl | rfl | decide)
  · rw [h1]; simp [h2]
abbrev half (low : Int) (n : Nat) : D := .obj "Half" ["low", "bits"] [.int low, .int n]
abbrev opn (low : Int) : D := .obj "Open" ["low"] [.int low]
/-- Half is made as the program says -/
structure HasHalf (G : Gam) : Prop where
  ex : ∃ ci, G.ci "Half" = some ci ∧ ci.init = "Half.__init__" ∧ ∀ (low : Int) (n : Nat), n ≤ 1000 → 0 ≤ low → low % 2 ^ n = 0 → xf G "Half.__init__" [.obj "Half" [] [], .int low, .int n] = .ok (half low n)
theorem ok_half {G : Gam} {ρ : Ev.Env} {as : E} {low : Int} {n : Nat} (H : HasHalf G) (hs : xvs G ρ as = .ok [.int low, .int n]) (hn : n ≤ 1000) (h0 : 0 ≤ low) (hm : low % 2 ^ n = 0) : xv G ρ (.new "Half" as) = .ok (half low n) := by
  obtain ⟨ci, h1, h2, h3⟩ := H.ex
  exact ok_new hs h1 (by rw [h2]; exact h3 low n hn h0 hm)
theorem half_mod {low : Int} {n : Nat} (h : low % 2 ^ (n + 1) = 0) : low % 2 ^ n = 0 ∧ (low + 2 ^ n) % 2 ^ n = 0 := by
  have e : (2 : Int) ^ (n + 1) = 2 ^ n * 2 := Int.pow_succ 2 n
  have d : (2 : Int) ^ n ∣ low := Int.dvd_trans ⟨2, e⟩ (Int.dvd_of_emod_eq_zero h)
  have h1 := Int.emod_eq_zero_of_dvd d
  exact ⟨h1, by rw [Int.add_emod_right]; exact h1⟩
theorem halves_ok (G : Gam) (H : HasHalf G) (low : Int) (n : Nat) (hn : n + 1 ≤ 1000) (h0 : 0 ≤ low) (hm : low % 2 ^ (n + 1) = 0) : callD G d_Half_halves [half low (n + 1)] = .ok (.tup [half low n, half (low + 2 ^ n) n]) := by
  obtain ⟨m1, m2⟩ := half_mod hm
  have pn := pow_i n
  have e : ((n + 1 : Nat) : Int) - 1 = n := by omega
  refine fn_rt rfl ?_
  refine x_seq (δ1 := [some (half low (n + 1)), none]) ?_ ?_
  · apply x_ifF
    · repeat' (first | (apply ok_var; rfl) | exact ok_int | exact ok_bl | exact ok_str | exact ok_non | (apply ok_cst; rfl) | exact oks_nil | exact o_add | exact o_sub | exact o_and | exact o_xor | exact o_eq | exact o_ne | exact o_lt | exact o_le | exact o_gt | exact o_ge | exact o_eqb | exact o_neb | exact o_isn | exact o_nisn | apply x_seq | exact x_skip | apply x_asg | apply x_ret | exact x_retN | apply m_ex | (apply m_mv; rfl) | apply m_exf | apply ok_bin | apply ok_cmp | apply ok_chain | apply ok_not | apply ok_neg | apply ok_and | apply ok_or | apply oks_cons | apply ok_tup | apply ok_lst | apply ok_idx | apply ok_fld | apply ok_call | apply ok_meth | apply ok_new | apply ok_blt | exact Nat.le_of_ble_eq_true rfl | rfl | decide)
    · simp; omega
    · exact x_skip
  refine x_seq (δ1 := [some (half low (n + 1)), some (.int n)]) ?_ ?_
  · refine x_asgE (d := .int n) ?_ rfl rfl
    rw [← e]
    repeat' (first | (apply ok_var; rfl) | exact ok_int | exact ok_bl | exact ok_str | exact ok_non | (apply ok_cst; rfl) | exact oks_nil | exact o_add | exact o_sub | exact o_and | exact o_xor | exact o_eq | exact o_ne | exact o_lt | exact o_le | exact o_gt | exact o_ge | exact o_eqb | exact o_neb | exact o_isn | exact o_nisn | apply x_seq | exact x_skip | apply x_asg | apply x_ret | exact x_retN | apply m_ex | (apply m_mv; rfl) | apply m_exf | apply ok_bin | apply ok_cmp | apply ok_chain | apply ok_not | apply ok_neg | apply ok_and | apply ok_or | apply oks_cons | apply ok_tup | apply ok_lst | apply ok_idx | apply ok_fld | apply ok_call | apply ok_meth | apply ok_new | apply ok_blt | exact Nat.le_of_ble_eq_true rfl | rfl | decide)
  refine x_retE (d := .tup [half low n, half (low + 2 ^ n) n]) (ok_tup (oks_cons (ok_half H ?_ (by omega) h0 m1) (oks_cons (ok_half H ?_ (by omega) (by omega) m2) oks_nil)) (Nat.le_of_ble_eq_true rfl)) rfl
  · repeat' (first | (apply ok_var; rfl) | exact ok_int | exact ok_bl | exact ok_str | exact ok_non | (apply ok_cst; rfl) | exact oks_nil | exact o_add | exact o_sub | exact o_and | exact o_xor | exact o_eq | exact o_ne | exact o_lt | exact o_le | exact o_gt | exact o_ge | exact o_eqb | exact o_neb | exact o_isn | exact o_nisn | apply x_seq | exact x_skip | apply x_asg | apply x_ret | exact x_retN | apply m_ex | (apply m_mv; rfl) | apply m_exf | apply ok_bin | apply ok_cmp | apply ok_chain | apply ok_not | apply ok_neg | apply ok_and | apply ok_or | apply oks_cons | apply ok_tup | apply ok_lst | apply ok_idx | apply ok_fld | apply ok_call | apply ok_meth | apply ok_new | apply ok_blt | exact Nat.le_of_ble_eq_true rfl | rfl | decide)
  · repeat' (first | exact o_shl1 (n := n) (by omega) | (apply ok_var; rfl) | exact ok_int | exact ok_bl | exact ok_str | exact ok_non | (apply ok_cst; rfl) | exact oks_nil | exact o_add | exact o_sub | exact o_and | exact o_xor | exact o_eq | exact o_ne | exact o_lt | exact o_le | exact o_gt | exact o_ge | exact o_eqb | exact o_neb | exact o_isn | exact o_nisn | apply x_seq | exact x_skip | apply x_asg | apply x_ret | exact x_retN | apply m_ex | (apply m_mv; rfl) | apply m_exf | apply ok_bin | apply ok_cmp | apply ok_chain | apply ok_not | apply ok_neg | apply ok_and | apply ok_or | apply oks_cons | apply ok_tup | apply ok_lst | apply ok_idx | apply ok_fld | apply ok_call | apply ok_meth | apply ok_new | apply ok_blt | exact Nat.le_of_ble_eq_true rfl | rfl | decide)
theorem halves0 (G : Gam) (low : Int) : callD G d_Half_halves [half low 0] = .er "NoSpan" := by
  refine fn_er (δ := [some (half low 0), none]) rfl ?_
  refine x_seqE ?_
  apply x_ifT
  · repeat' (first | (apply ok_var; rfl) | exact ok_int | exact ok_bl | exact ok_str | exact ok_non | (apply ok_cst; rfl) | exact oks_nil | exact o_add | exact o_sub | exact o_and | exact o_xor | exact o_eq | exact o_ne | exact o_lt | exact o_le | exact o_gt | exact o_ge | exact o_eqb | exact o_neb | exact o_isn | exact o_nisn | apply x_seq | exact x_skip | apply x_asg | apply x_ret | exact x_retN | apply m_ex | (apply m_mv; rfl) | apply m_exf | apply ok_bin | apply ok_cmp | apply ok_chain | apply ok_not | apply ok_neg | apply ok_and | apply ok_or | apply oks_cons | apply ok_tup | apply ok_lst | apply ok_idx | apply ok_fld | apply ok_call | apply ok_meth | apply ok_new | apply ok_blt | exact Nat.le_of_ble_eq_true rfl | rfl | decide)
  · rfl
  · exact x_rse
def shownH (low : Int) (n : Nat) : PySem.Str := (toString low ++ ("+" : PySem.Str)) ++ toString (n : Int)
def shownO (low : Int) : PySem.Str := toString low ++ ("+" : PySem.Str)
theorem str_len {n : Nat} {i : Int} (h : Sm n i) (hn : n ≤ 1919) : (toString i : PySem.Str).length ≤ 1921 := PyProof.Rows.int_text_len_1921 (by
  by_cases z : i.natAbs = 0
  · rw [z]; decide
  · have := (Nat.log2_lt z).mpr (h.up hn)
    omega)
theorem shown_ok (G : Gam) (low : Int) (n : Nat) (hl : Sm 1900 low) (hn : n ≤ 1000) : callD G d_Half_shown [half low n] = .ok (.str (shownH low n)) := by
  have hs : Sm 20 (n : Int) := sm_of (by omega) (by have : (2 : Int) ^ 20 = 1048576 := (by decide); omega)
  have l1 := str_len hl (by decide)
  have l2 := str_len hs (by decide)
  have lp : ("+" : PySem.Str).length = 1 := rfl
  have k1 : (toString low : PySem.Str).length + ("+" : PySem.Str).length ≤ lineN := by rw [lp, show lineN = 16777216 from rfl]; omega
  have k2 : ((toString low : PySem.Str) ++ ("+" : PySem.Str)).length + (toString (n : Int) : PySem.Str).length ≤ lineN := by rw [PySem.Str.length_append, lp, show lineN = 16777216 from rfl]; omega
  refine fn_rt rfl ?_
  repeat' (first | exact o_strS hl (by decide) | exact o_strS hs (by decide) | exact o_catS k1 | exact o_catS k2 | (apply ok_var; rfl) | exact ok_int | exact ok_bl | exact ok_str | exact ok_non | (apply ok_cst; rfl) | exact oks_nil | exact o_add | exact o_sub | exact o_and | exact o_xor | exact o_eq | exact o_ne | exact o_lt | exact o_le | exact o_gt | exact o_ge | exact o_eqb | exact o_neb | exact o_isn | exact o_nisn | apply x_seq | exact x_skip | apply x_asg | apply x_ret | exact x_retN | apply m_ex | (apply m_mv; rfl) | apply m_exf | apply ok_bin | apply ok_cmp | apply ok_chain | apply ok_not | apply ok_neg | apply ok_and | apply ok_or | apply oks_cons | apply ok_tup | apply ok_lst | apply ok_idx | apply ok_fld | apply ok_call | apply ok_meth | apply ok_new | apply ok_blt | exact Nat.le_of_ble_eq_true rfl | rfl | decide)
theorem shownO_ok (G : Gam) (c : String) (low : Int) (hl : Sm 1900 low) : callD G d_Span_shown [.obj c ["low"] [.int low]] = .ok (.str (shownO low)) := by
  have l1 := str_len hl (by decide)
  have lp : ("+" : PySem.Str).length = 1 := rfl
  have k1 : (toString low : PySem.Str).length + ("+" : PySem.Str).length ≤ lineN := by rw [lp, show lineN = 16777216 from rfl]; omega
  refine fn_rt rfl ?_
  repeat' (first | exact o_strS hl (by decide) | exact o_catS k1 | (apply ok_var; rfl) | exact ok_int | exact ok_bl | exact ok_str | exact ok_non | (apply ok_cst; rfl) | exact oks_nil | exact o_add | exact o_sub | exact o_and | exact o_xor | exact o_eq | exact o_ne | exact o_lt | exact o_le | exact o_gt | exact o_ge | exact o_eqb | exact o_neb | exact o_isn | exact o_nisn | apply x_seq | exact x_skip | apply x_asg | apply x_ret | exact x_retN | apply m_ex | (apply m_mv; rfl) | apply m_exf | apply ok_bin | apply ok_cmp | apply ok_chain | apply ok_not | apply ok_neg | apply ok_and | apply ok_or | apply oks_cons | apply ok_tup | apply ok_lst | apply ok_idx | apply ok_fld | apply ok_call | apply ok_meth | apply ok_new | apply ok_blt | exact Nat.le_of_ble_eq_true rfl | rfl | decide)
/-! ## Open spans -/
theorem span_okC (G : Gam) (c : String) (ci : ClsI) (h1 : G.ci c = some ci) (h2 : ci.fields.contains "low" = true) (v : Int) : callD G d_Span___init__ [.obj c [] [], .int v] = .ok (.obj c ["low"] [.int v]) := by
  refine ini_okV rfl (n_set (d := .int v) ?_ ?_ n_nil)
  · repeat' (first | (apply ok_var; rfl) | exact ok_int | exact ok_bl | exact ok_str | exact ok_non | (apply ok_cst; rfl) | exact oks_nil | exact o_add | exact o_sub | exact o_and | exact o_xor | exact o_eq | exact o_ne | exact o_lt | exact o_le | exact o_gt | exact o_ge | exact o_eqb | exact o_neb | exact o_isn | exact o_nisn | apply x_seq | exact x_skip | apply x_asg | apply x_ret | exact x_retN | apply m_ex | (apply m_mv; rfl) | apply m_exf | apply ok_bin | apply ok_cmp | apply ok_chain | apply ok_not | apply ok_neg | apply ok_and | apply ok_or | apply oks_cons | apply ok_tup | apply ok_lst | apply ok_idx | apply ok_fld | apply ok_call | apply ok_meth | apply ok_new | apply ok_blt | exact Nat.le_of_ble_eq_true rfl | rfl | decide)
  · rw [h1]; simpa using h2
/-- what an open span may begin with -/
def IsOp (low : Int) : Prop := low = 0 ∨ ∃ n : Nat, n ≤ 1000 ∧ low = 2 ^ n
theorem IsOp.nn {low : Int} (h : IsOp low) : 0 ≤ low := by
  rcases h with h | ⟨n, _, h⟩
  · omega
  · have := pow_i n
    omega
theorem and_pow (n : Nat) : PySem.Builtin.bitAnd ((2 : Int) ^ n) (2 ^ n - 1) = 0 := by
  have e1 : ((2 ^ n : Nat) : Int) = 2 ^ n := by simp
  have hp : 0 < 2 ^ n := Nat.pow_pos (by decide)
  have e2 : ((2 ^ n - 1 : Nat) : Int) = 2 ^ n - 1 := by
    rw [← e1]
    omega
  rw [← e2, ← e1, PySem.W.os_band]
  have : (2 ^ n &&& (2 ^ n - 1) : Nat) = 0 := by
    rw [Nat.and_two_pow_sub_one_eq_mod, Nat.mod_self]
  rw [this]
  rfl
theorem open_ok (G : Gam) (hsp : ∀ v : Int, xf G "Span.__init__" [.obj "Open" [] [], .int v] = .ok (opn v)) (low : Int) (h : IsOp low) : callD G d_Open___init__ [.obj "Open" [] [], .int low] = .ok (opn low) := by
  refine ini_okV rfl ?_
  refine n_chkF ?_ (n_sup (xs := [.int low]) (ns' := ["low"]) (ds' := [.int low]) ?_ (hsp low) n_nil)
  · have hb : PySem.Builtin.bitAnd low (low - 1) = 0 := by
      rcases h with h | ⟨n, _, h⟩
      · subst h; decide
      · subst h; exact and_pow n
    have : (decide (low < 0) || !(PySem.Builtin.bitAnd low (low - 1) == 0)) = false := by
      have := h.nn
      rw [hb]
      simp
      omega
    rw [← this]
    repeat' (first | (apply ok_var; rfl) | exact ok_int | exact ok_bl | exact ok_str | exact ok_non | (apply ok_cst; rfl) | exact oks_nil | exact o_add | exact o_sub | exact o_and | exact o_xor | exact o_eq | exact o_ne | exact o_lt | exact o_le | exact o_gt | exact o_ge | exact o_eqb | exact o_neb | exact o_isn | exact o_nisn | apply x_seq | exact x_skip | apply x_asg | apply x_ret | exact x_retN | apply m_ex | (apply m_mv; rfl) | apply m_exf | apply ok_bin | apply ok_cmp | apply ok_chain | apply ok_not | apply ok_neg | apply ok_and | apply ok_or | apply oks_cons | apply ok_tup | apply ok_lst | apply ok_idx | apply ok_fld | apply ok_call | apply ok_meth | apply ok_new | apply ok_blt | exact Nat.le_of_ble_eq_true rfl | rfl | decide)
  · repeat' (first | (apply ok_var; rfl) | exact ok_int | exact ok_bl | exact ok_str | exact ok_non | (apply ok_cst; rfl) | exact oks_nil | exact o_add | exact o_sub | exact o_and | exact o_xor | exact o_eq | exact o_ne | exact o_lt | exact o_le | exact o_gt | exact o_ge | exact o_eqb | exact o_neb | exact o_isn | exact o_nisn | apply x_seq | exact x_skip | apply x_asg | apply x_ret | exact x_retN | apply m_ex | (apply m_mv; rfl) | apply m_exf | apply ok_bin | apply ok_cmp | apply ok_chain | apply ok_not | apply ok_neg | apply ok_and | apply ok_or | apply oks_cons | apply ok_tup | apply ok_lst | apply ok_idx | apply ok_fld | apply ok_call | apply ok_meth | apply ok_new | apply ok_blt | exact Nat.le_of_ble_eq_true rfl | rfl | decide)
structure HasOpen (G : Gam) : Prop where
  ex : ∃ ci, G.ci "Open" = some ci ∧ ci.init = "Open.__init__" ∧ ∀ (low : Int), IsOp low → xf G "Open.__init__" [.obj "Open" [] [], .int low] = .ok (opn low)
theorem ok_open {G : Gam} {ρ : Ev.Env} {as : E} {low : Int} (H : HasOpen G) (hs : xvs G ρ as = .ok [.int low]) (h : IsOp low) : xv G ρ (.new "Open" as) = .ok (opn low) := by
  obtain ⟨ci, h1, h2, h3⟩ := H.ex
  exact ok_new hs h1 (by rw [h2]; exact h3 low h)
theorem pow_le {a b : Nat} (h : a ≤ b) : (2 : Int) ^ a ≤ 2 ^ b := by
  have := Nat.pow_le_pow_right (n := 2) (by decide) h
  have e1 : ((2 ^ a : Nat) : Int) = 2 ^ a := by simp
  have e2 : ((2 ^ b : Nat) : Int) = 2 ^ b := by simp
  rw [← e1, ← e2]
  omega
theorem pow_lt {a b : Nat} (h : a < b) : (2 : Int) ^ a < 2 ^ b := by
  have := Nat.pow_lt_pow_right (a := 2) (by decide) h
  have e1 : ((2 ^ a : Nat) : Int) = 2 ^ a := by simp
  have e2 : ((2 ^ b : Nat) : Int) = 2 ^ b := by simp
  rw [← e1, ← e2]
  omega
theorem ohalves_ok (G : Gam) (H : HasHalf G) (HO : HasOpen G) (n : Nat) (hn : n < 1000) : callD G d_Open_halves [opn (2 ^ n)] = .ok (.tup [half (2 ^ n) n, opn (2 * 2 ^ n)]) := by
  have pn := pow_i n
  generalize hP : (2 : Int) ^ n = P at pn
  have sP : Sm 1001 P := by
    subst hP
    exact (sm_pow (b := 2) (e := n) (n := 1001) (Nat.pow_lt_pow_right (by decide) (by omega)))
  have mP := mulOk_of (sm_lit (x := 2) (n := 10) (by decide)) sP (by decide)
  obtain ⟨δ', e1, e2⟩ := whC_ok (c := fun δ => ev G (shareE δ) (.cmp .lt (.bin .shl (.int 1) (.var 1)) (.fld (.var 0) "low"))) (b := exec G (.aug 1 .add (.int 1))) (fun δ => ∃ b : Nat, b ≤ n ∧ δ = [some (opn P), some (.int b)]) (fun δ => δ = [some (opn P), some (.int n)]) (fun δ => match δ with | [_, some (.int b)] => n - b.toNat | _ => 0) (by
      rintro δ ⟨b, hb, rfl⟩
      have hc : xv G (shareE [some (opn P), some (.int b)]) (.cmp .lt (.bin .shl (.int 1) (.var 1)) (.fld (.var 0) "low")) = .ok (.bl (decide ((2 : Int) ^ b < P))) := by
        repeat' (first | exact o_shl1 (n := b) (by omega) | (apply ok_var; rfl) | exact ok_int | exact ok_bl | exact ok_str | exact ok_non | (apply ok_cst; rfl) | exact oks_nil | exact o_add | exact o_sub | exact o_and | exact o_xor | exact o_eq | exact o_ne | exact o_lt | exact o_le | exact o_gt | exact o_ge | exact o_eqb | exact o_neb | exact o_isn | exact o_nisn | apply x_seq | exact x_skip | apply x_asg | apply x_ret | exact x_retN | apply m_ex | (apply m_mv; rfl) | apply m_exf | apply ok_bin | apply ok_cmp | apply ok_chain | apply ok_not | apply ok_neg | apply ok_and | apply ok_or | apply oks_cons | apply ok_tup | apply ok_lst | apply ok_idx | apply ok_fld | apply ok_call | apply ok_meth | apply ok_new | apply ok_blt | exact Nat.le_of_ble_eq_true rfl | rfl | decide)
      by_cases h : b = n
      · subst h
        rw [hP] at hc
        refine .inl ⟨by rw [← xv_eq, hc]; simp, rfl⟩
      · refine .inr ⟨?_, [some (opn P), some (.int ((b + 1 : Nat) : Int))], .inl ?_, ⟨b + 1, by omega, rfl⟩, ?_⟩
        · rw [← xv_eq, hc]
          have : (2 : Int) ^ b < P := by rw [← hP]; exact pow_lt (by omega)
          simp [this]
        · rw [← xc_eq]
          exact x_aug rfl ok_int rfl
        · simp
          omega) n [some (opn P), some (.int 0)] (by simp) ⟨0, by omega, rfl⟩
  refine fn_rt rfl ?_
  refine x_seq (δ1 := [some (opn P), none]) ?_ ?_
  · apply x_ifF
    · repeat' (first | (apply ok_var; rfl) | exact ok_int | exact ok_bl | exact ok_str | exact ok_non | (apply ok_cst; rfl) | exact oks_nil | exact o_add | exact o_sub | exact o_and | exact o_xor | exact o_eq | exact o_ne | exact o_lt | exact o_le | exact o_gt | exact o_ge | exact o_eqb | exact o_neb | exact o_isn | exact o_nisn | apply x_seq | exact x_skip | apply x_asg | apply x_ret | exact x_retN | apply m_ex | (apply m_mv; rfl) | apply m_exf | apply ok_bin | apply ok_cmp | apply ok_chain | apply ok_not | apply ok_neg | apply ok_and | apply ok_or | apply oks_cons | apply ok_tup | apply ok_lst | apply ok_idx | apply ok_fld | apply ok_call | apply ok_meth | apply ok_new | apply ok_blt | exact Nat.le_of_ble_eq_true rfl | rfl | decide)
    · simp; omega
    · exact x_skip
  refine x_seq (δ1 := [some (opn P), some (.int 0)]) ?_ ?_
  · repeat' (first | (apply ok_var; rfl) | exact ok_int | exact ok_bl | exact ok_str | exact ok_non | (apply ok_cst; rfl) | exact oks_nil | exact o_add | exact o_sub | exact o_and | exact o_xor | exact o_eq | exact o_ne | exact o_lt | exact o_le | exact o_gt | exact o_ge | exact o_eqb | exact o_neb | exact o_isn | exact o_nisn | apply x_seq | exact x_skip | apply x_asg | apply x_ret | exact x_retN | apply m_ex | (apply m_mv; rfl) | apply m_exf | apply ok_bin | apply ok_cmp | apply ok_chain | apply ok_not | apply ok_neg | apply ok_and | apply ok_or | apply oks_cons | apply ok_tup | apply ok_lst | apply ok_idx | apply ok_fld | apply ok_call | apply ok_meth | apply ok_new | apply ok_blt | exact Nat.le_of_ble_eq_true rfl | rfl | decide)
  refine x_seq (δ1 := δ') (x_whl e1) ?_
  subst e2
  refine x_retE (d := .tup [half P n, opn (2 * P)]) (ok_tup (oks_cons (ok_half H ?_ (by omega) (by omega) (by rw [hP]; exact Int.emod_self)) (oks_cons (ok_open HO ?_ (.inr ⟨n + 1, by omega, by rw [← hP, Int.pow_succ]; omega⟩)) oks_nil)) (Nat.le_of_ble_eq_true rfl)) rfl
  · repeat' (first | (apply ok_var; rfl) | exact ok_int | exact ok_bl | exact ok_str | exact ok_non | (apply ok_cst; rfl) | exact oks_nil | exact o_add | exact o_sub | exact o_and | exact o_xor | exact o_eq | exact o_ne | exact o_lt | exact o_le | exact o_gt | exact o_ge | exact o_eqb | exact o_neb | exact o_isn | exact o_nisn | apply x_seq | exact x_skip | apply x_asg | apply x_ret | exact x_retN | apply m_ex | (apply m_mv; rfl) | apply m_exf | apply ok_bin | apply ok_cmp | apply ok_chain | apply ok_not | apply ok_neg | apply ok_and | apply ok_or | apply oks_cons | apply ok_tup | apply ok_lst | apply ok_idx | apply ok_fld | apply ok_call | apply ok_meth | apply ok_new | apply ok_blt | exact Nat.le_of_ble_eq_true rfl | rfl | decide)
  · repeat' (first | exact o_mul mP | (apply ok_var; rfl) | exact ok_int | exact ok_bl | exact ok_str | exact ok_non | (apply ok_cst; rfl) | exact oks_nil | exact o_add | exact o_sub | exact o_and | exact o_xor | exact o_eq | exact o_ne | exact o_lt | exact o_le | exact o_gt | exact o_ge | exact o_eqb | exact o_neb | exact o_isn | exact o_nisn | apply x_seq | exact x_skip | apply x_asg | apply x_ret | exact x_retN | apply m_ex | (apply m_mv; rfl) | apply m_exf | apply ok_bin | apply ok_cmp | apply ok_chain | apply ok_not | apply ok_neg | apply ok_and | apply ok_or | apply oks_cons | apply ok_tup | apply ok_lst | apply ok_idx | apply ok_fld | apply ok_call | apply ok_meth | apply ok_new | apply ok_blt | exact Nat.le_of_ble_eq_true rfl | rfl | decide)
theorem ohalves0 (G : Gam) (H : HasHalf G) (HO : HasOpen G) : callD G d_Open_halves [opn 0] = .ok (.tup [half 0 0, opn 1]) := by
  refine fn_rt rfl ?_
  refine x_seqR ?_
  apply x_ifT
  · repeat' (first | (apply ok_var; rfl) | exact ok_int | exact ok_bl | exact ok_str | exact ok_non | (apply ok_cst; rfl) | exact oks_nil | exact o_add | exact o_sub | exact o_and | exact o_xor | exact o_eq | exact o_ne | exact o_lt | exact o_le | exact o_gt | exact o_ge | exact o_eqb | exact o_neb | exact o_isn | exact o_nisn | apply x_seq | exact x_skip | apply x_asg | apply x_ret | exact x_retN | apply m_ex | (apply m_mv; rfl) | apply m_exf | apply ok_bin | apply ok_cmp | apply ok_chain | apply ok_not | apply ok_neg | apply ok_and | apply ok_or | apply oks_cons | apply ok_tup | apply ok_lst | apply ok_idx | apply ok_fld | apply ok_call | apply ok_meth | apply ok_new | apply ok_blt | exact Nat.le_of_ble_eq_true rfl | rfl | decide)
  · rfl
  · refine x_retE (d := .tup [half 0 0, opn 1]) (ok_tup (oks_cons (ok_half (n := 0) H ?_ (by omega) (by omega) (by decide)) (oks_cons (ok_open HO ?_ (.inr ⟨0, by omega, rfl⟩)) oks_nil)) (Nat.le_of_ble_eq_true rfl)) rfl
    · repeat' (first | (apply ok_var; rfl) | exact ok_int | exact ok_bl | exact ok_str | exact ok_non | (apply ok_cst; rfl) | exact oks_nil | exact o_add | exact o_sub | exact o_and | exact o_xor | exact o_eq | exact o_ne | exact o_lt | exact o_le | exact o_gt | exact o_ge | exact o_eqb | exact o_neb | exact o_isn | exact o_nisn | apply x_seq | exact x_skip | apply x_asg | apply x_ret | exact x_retN | apply m_ex | (apply m_mv; rfl) | apply m_exf | apply ok_bin | apply ok_cmp | apply ok_chain | apply ok_not | apply ok_neg | apply ok_and | apply ok_or | apply oks_cons | apply ok_tup | apply ok_lst | apply ok_idx | apply ok_fld | apply ok_call | apply ok_meth | apply ok_new | apply ok_blt | exact Nat.le_of_ble_eq_true rfl | rfl | decide)
    · repeat' (first | (apply ok_var; rfl) | exact ok_int | exact ok_bl | exact ok_str | exact ok_non | (apply ok_cst; rfl) | exact oks_nil | exact o_add | exact o_sub | exact o_and | exact o_xor | exact o_eq | exact o_ne | exact o_lt | exact o_le | exact o_gt | exact o_ge | exact o_eqb | exact o_neb | exact o_isn | exact o_nisn | apply x_seq | exact x_skip | apply x_asg | apply x_ret | exact x_retN | apply m_ex | (apply m_mv; rfl) | apply m_exf | apply ok_bin | apply ok_cmp | apply ok_chain | apply ok_not | apply ok_neg | apply ok_and | apply ok_or | apply oks_cons | apply ok_tup | apply ok_lst | apply ok_idx | apply ok_fld | apply ok_call | apply ok_meth | apply ok_new | apply ok_blt | exact Nat.le_of_ble_eq_true rfl | rfl | decide)
theorem oholds_ok (G : Gam) (c : String) (low z : Int) : callD G d_Span_holds [.obj c ["low"] [.int low], .int z] = .ok (.bl (decide (low ≤ z))) := by
  refine fn_rt rfl ?_
  repeat' (first | (apply ok_var; rfl) | exact ok_int | exact ok_bl | exact ok_str | exact ok_non | (apply ok_cst; rfl) | exact oks_nil | exact o_add | exact o_sub | exact o_and | exact o_xor | exact o_eq | exact o_ne | exact o_lt | exact o_le | exact o_gt | exact o_ge | exact o_eqb | exact o_neb | exact o_isn | exact o_nisn | apply x_seq | exact x_skip | apply x_asg | apply x_ret | exact x_retN | apply m_ex | (apply m_mv; rfl) | apply m_exf | apply ok_bin | apply ok_cmp | apply ok_chain | apply ok_not | apply ok_neg | apply ok_and | apply ok_or | apply oks_cons | apply ok_tup | apply ok_lst | apply ok_idx | apply ok_fld | apply ok_call | apply ok_meth | apply ok_new | apply ok_blt | exact Nat.le_of_ble_eq_true rfl | rfl | decide)
theorem olowest_ok (G : Gam) (c : String) (low : Int) : callD G d_Span_lowest [.obj c ["low"] [.int low]] = .ok (.int low) := by
  refine fn_rt rfl ?_
  repeat' (first | (apply ok_var; rfl) | exact ok_int | exact ok_bl | exact ok_str | exact ok_non | (apply ok_cst; rfl) | exact oks_nil | exact o_add | exact o_sub | exact o_and | exact o_xor | exact o_eq | exact o_ne | exact o_lt | exact o_le | exact o_gt | exact o_ge | exact o_eqb | exact o_neb | exact o_isn | exact o_nisn | apply x_seq | exact x_skip | apply x_asg | apply x_ret | exact x_retN | apply m_ex | (apply m_mv; rfl) | apply m_exf | apply ok_bin | apply ok_cmp | apply ok_chain | apply ok_not | apply ok_neg | apply ok_and | apply ok_or | apply oks_cons | apply ok_tup | apply ok_lst | apply ok_idx | apply ok_fld | apply ok_call | apply ok_meth | apply ok_new | apply ok_blt | exact Nat.le_of_ble_eq_true rfl | rfl | decide)
/-! ## Bounds -/
theorem room_ok (G : Gam) (n : Nat) (c : Int) (hn : n ≤ 1000) (h : c ≤ 2 ^ n) : callD G d_need_room [.int n, .int c] = .ok .non := by
  refine fn_nx (δ := env0 2 [.int n, .int c]) rfl ?_
  apply x_ifF
  · repeat' (first | exact o_shl1 (n := n) (by omega) | (apply ok_var; rfl) | exact ok_int | exact ok_bl | exact ok_str | exact ok_non | (apply ok_cst; rfl) | exact oks_nil | exact o_add | exact o_sub | exact o_and | exact o_xor | exact o_eq | exact o_ne | exact o_lt | exact o_le | exact o_gt | exact o_ge | exact o_eqb | exact o_neb | exact o_isn | exact o_nisn | apply x_seq | exact x_skip | apply x_asg | apply x_ret | exact x_retN | apply m_ex | (apply m_mv; rfl) | apply m_exf | apply ok_bin | apply ok_cmp | apply ok_chain | apply ok_not | apply ok_neg | apply ok_and | apply ok_or | apply oks_cons | apply ok_tup | apply ok_lst | apply ok_idx | apply ok_fld | apply ok_call | apply ok_meth | apply ok_new | apply ok_blt | exact Nat.le_of_ble_eq_true rfl | rfl | decide)
  · simp; omega
  · exact x_skip
theorem room_er (G : Gam) (n : Nat) (c : Int) (hn : n ≤ 1000) (h : 2 ^ n < c) : callD G d_need_room [.int n, .int c] = .er "NoHands" := by
  refine fn_er (δ := env0 2 [.int n, .int c]) rfl ?_
  apply x_ifT
  · repeat' (first | exact o_shl1 (n := n) (by omega) | (apply ok_var; rfl) | exact ok_int | exact ok_bl | exact ok_str | exact ok_non | (apply ok_cst; rfl) | exact oks_nil | exact o_add | exact o_sub | exact o_and | exact o_xor | exact o_eq | exact o_ne | exact o_lt | exact o_le | exact o_gt | exact o_ge | exact o_eqb | exact o_neb | exact o_isn | exact o_nisn | apply x_seq | exact x_skip | apply x_asg | apply x_ret | exact x_retN | apply m_ex | (apply m_mv; rfl) | apply m_exf | apply ok_bin | apply ok_cmp | apply ok_chain | apply ok_not | apply ok_neg | apply ok_and | apply ok_or | apply oks_cons | apply ok_tup | apply ok_lst | apply ok_idx | apply ok_fld | apply ok_call | apply ok_meth | apply ok_new | apply ok_blt | exact Nat.le_of_ble_eq_true rfl | rfl | decide)
  · simp; omega
  · exact x_rse
def fewF (c : Int) : Int := if c = 0 then 1 else 2 * c - 1
def minsF (n : Nat) (h : Int) : List Int := (List.range n).map fun l => min (2 ^ l) h
def mostF (n : Nat) (c : Int) : Int := if c < 2 then 1 else 1 + 2 * (minsF n (c / 2)).sum
theorem few_ok (G : Gam) (n : Nat) (c : Int) (hr : xf G "need_room" [.int n, .int c] = .ok .non) (hs : Sm 1001 c) : callD G d_fewest_turns [.int n, .int c] = .ok (.int (fewF c)) := by
  have m := o_mul (mulOk_of (sm_lit (x := 2) (n := 10) (by decide)) hs (by decide))
  refine fn_rt rfl ?_
  refine x_seq (δ1 := env0 2 [.int n, .int c]) ?_ ?_
  · apply x_exp (d := .non)
    repeat' (first | exact hr | (apply ok_var; rfl) | exact ok_int | exact ok_bl | exact ok_str | exact ok_non | (apply ok_cst; rfl) | exact oks_nil | exact o_add | exact o_sub | exact o_and | exact o_xor | exact o_eq | exact o_ne | exact o_lt | exact o_le | exact o_gt | exact o_ge | exact o_eqb | exact o_neb | exact o_isn | exact o_nisn | apply x_seq | exact x_skip | apply x_asg | apply x_ret | exact x_retN | apply m_ex | (apply m_mv; rfl) | apply m_exf | apply ok_bin | apply ok_cmp | apply ok_chain | apply ok_not | apply ok_neg | apply ok_and | apply ok_or | apply oks_cons | apply ok_tup | apply ok_lst | apply ok_idx | apply ok_fld | apply ok_call | apply ok_meth | apply ok_new | apply ok_blt | exact Nat.le_of_ble_eq_true rfl | rfl | decide)
  by_cases h : c = 0
  · refine x_seqR ?_
    apply x_ifT
    · repeat' (first | (apply ok_var; rfl) | exact ok_int | exact ok_bl | exact ok_str | exact ok_non | (apply ok_cst; rfl) | exact oks_nil | exact o_add | exact o_sub | exact o_and | exact o_xor | exact o_eq | exact o_ne | exact o_lt | exact o_le | exact o_gt | exact o_ge | exact o_eqb | exact o_neb | exact o_isn | exact o_nisn | apply x_seq | exact x_skip | apply x_asg | apply x_ret | exact x_retN | apply m_ex | (apply m_mv; rfl) | apply m_exf | apply ok_bin | apply ok_cmp | apply ok_chain | apply ok_not | apply ok_neg | apply ok_and | apply ok_or | apply oks_cons | apply ok_tup | apply ok_lst | apply ok_idx | apply ok_fld | apply ok_call | apply ok_meth | apply ok_new | apply ok_blt | exact Nat.le_of_ble_eq_true rfl | rfl | decide)
    · simp [h]
    · rw [fewF, if_pos h]
      repeat' (first | (apply ok_var; rfl) | exact ok_int | exact ok_bl | exact ok_str | exact ok_non | (apply ok_cst; rfl) | exact oks_nil | exact o_add | exact o_sub | exact o_and | exact o_xor | exact o_eq | exact o_ne | exact o_lt | exact o_le | exact o_gt | exact o_ge | exact o_eqb | exact o_neb | exact o_isn | exact o_nisn | apply x_seq | exact x_skip | apply x_asg | apply x_ret | exact x_retN | apply m_ex | (apply m_mv; rfl) | apply m_exf | apply ok_bin | apply ok_cmp | apply ok_chain | apply ok_not | apply ok_neg | apply ok_and | apply ok_or | apply oks_cons | apply ok_tup | apply ok_lst | apply ok_idx | apply ok_fld | apply ok_call | apply ok_meth | apply ok_new | apply ok_blt | exact Nat.le_of_ble_eq_true rfl | rfl | decide)
  · refine x_seq (δ1 := env0 2 [.int n, .int c]) ?_ ?_
    · apply x_ifF
      · repeat' (first | (apply ok_var; rfl) | exact ok_int | exact ok_bl | exact ok_str | exact ok_non | (apply ok_cst; rfl) | exact oks_nil | exact o_add | exact o_sub | exact o_and | exact o_xor | exact o_eq | exact o_ne | exact o_lt | exact o_le | exact o_gt | exact o_ge | exact o_eqb | exact o_neb | exact o_isn | exact o_nisn | apply x_seq | exact x_skip | apply x_asg | apply x_ret | exact x_retN | apply m_ex | (apply m_mv; rfl) | apply m_exf | apply ok_bin | apply ok_cmp | apply ok_chain | apply ok_not | apply ok_neg | apply ok_and | apply ok_or | apply oks_cons | apply ok_tup | apply ok_lst | apply ok_idx | apply ok_fld | apply ok_call | apply ok_meth | apply ok_new | apply ok_blt | exact Nat.le_of_ble_eq_true rfl | rfl | decide)
      · simp [h]
      · exact x_skip
    · rw [fewF, if_neg h]
      repeat' (first | exact m | (apply ok_var; rfl) | exact ok_int | exact ok_bl | exact ok_str | exact ok_non | (apply ok_cst; rfl) | exact oks_nil | exact o_add | exact o_sub | exact o_and | exact o_xor | exact o_eq | exact o_ne | exact o_lt | exact o_le | exact o_gt | exact o_ge | exact o_eqb | exact o_neb | exact o_isn | exact o_nisn | apply x_seq | exact x_skip | apply x_asg | apply x_ret | exact x_retN | apply m_ex | (apply m_mv; rfl) | apply m_exf | apply ok_bin | apply ok_cmp | apply ok_chain | apply ok_not | apply ok_neg | apply ok_and | apply ok_or | apply oks_cons | apply ok_tup | apply ok_lst | apply ok_idx | apply ok_fld | apply ok_call | apply ok_meth | apply ok_new | apply ok_blt | exact Nat.le_of_ble_eq_true rfl | rfl | decide)
theorem sum_le {n : Nat} {h : Int} : (minsF n h).sum ≤ 2 ^ n - 1 := by
  induction n with
  | zero => simp [minsF]
  | succ n ih =>
    unfold minsF at ih ⊢
    rw [List.range_succ, List.map_append, List.sum_append]
    have e : (2 : Int) ^ (n + 1) = 2 ^ n * 2 := Int.pow_succ 2 n
    simp only [List.map_cons, List.map_nil, List.sum_cons, List.sum_nil]
    omega
theorem sum_ge {n : Nat} {h : Int} (h0 : 0 ≤ h) : min (2 * h) (2 ^ n - 1) ≤ (minsF n h).sum := by
  induction n with
  | zero => simp [minsF]; omega
  | succ n ih =>
    unfold minsF at ih ⊢
    rw [List.range_succ, List.map_append, List.sum_append]
    have e : (2 : Int) ^ (n + 1) = 2 ^ n * 2 := Int.pow_succ 2 n
    have p := pow_i n
    simp only [List.map_cons, List.map_nil, List.sum_cons, List.sum_nil]
    omega
theorem sum_nn {n : Nat} {h : Int} (h0 : 0 ≤ h) : 0 ≤ (minsF n h).sum := by
  have := sum_ge (n := n) h0
  have := pow_i n
  omega
theorem most_ok (G : Gam) (n : Nat) (c : Int) (hn : n ≤ 300) (hr : xf G "need_room" [.int n, .int c] = .ok .non) (h0 : 0 ≤ c) : callD G d_most_turns [.int n, .int c] = .ok (.int (mostF n c)) := by
  have hs : Sm 400 (minsF n (c / 2)).sum := by
    have a := sum_nn (n := n) (h := c / 2) (by omega)
    have b := sum_le (n := n) (h := c / 2)
    have hp := pow_lt (a := n) (b := 400) (by omega)
    exact sm_of a (by omega)
  have m := o_mul (mulOk_of (sm_lit (x := 2) (n := 10) (by decide)) hs (by decide))
  refine fn_rt rfl ?_
  refine x_seq (δ1 := env0 3 [.int n, .int c]) ?_ ?_
  · apply x_exp (d := .non)
    repeat' (first | exact hr | (apply ok_var; rfl) | exact ok_int | exact ok_bl | exact ok_str | exact ok_non | (apply ok_cst; rfl) | exact oks_nil | exact o_add | exact o_sub | exact o_and | exact o_xor | exact o_eq | exact o_ne | exact o_lt | exact o_le | exact o_gt | exact o_ge | exact o_eqb | exact o_neb | exact o_isn | exact o_nisn | apply x_seq | exact x_skip | apply x_asg | apply x_ret | exact x_retN | apply m_ex | (apply m_mv; rfl) | apply m_exf | apply ok_bin | apply ok_cmp | apply ok_chain | apply ok_not | apply ok_neg | apply ok_and | apply ok_or | apply oks_cons | apply ok_tup | apply ok_lst | apply ok_idx | apply ok_fld | apply ok_call | apply ok_meth | apply ok_new | apply ok_blt | exact Nat.le_of_ble_eq_true rfl | rfl | decide)
  by_cases h : c < 2
  · refine x_seqR ?_
    apply x_ifT
    · repeat' (first | (apply ok_var; rfl) | exact ok_int | exact ok_bl | exact ok_str | exact ok_non | (apply ok_cst; rfl) | exact oks_nil | exact o_add | exact o_sub | exact o_and | exact o_xor | exact o_eq | exact o_ne | exact o_lt | exact o_le | exact o_gt | exact o_ge | exact o_eqb | exact o_neb | exact o_isn | exact o_nisn | apply x_seq | exact x_skip | apply x_asg | apply x_ret | exact x_retN | apply m_ex | (apply m_mv; rfl) | apply m_exf | apply ok_bin | apply ok_cmp | apply ok_chain | apply ok_not | apply ok_neg | apply ok_and | apply ok_or | apply oks_cons | apply ok_tup | apply ok_lst | apply ok_idx | apply ok_fld | apply ok_call | apply ok_meth | apply ok_new | apply ok_blt | exact Nat.le_of_ble_eq_true rfl | rfl | decide)
    · simp [h]
    · rw [mostF, if_pos h]
      repeat' (first | (apply ok_var; rfl) | exact ok_int | exact ok_bl | exact ok_str | exact ok_non | (apply ok_cst; rfl) | exact oks_nil | exact o_add | exact o_sub | exact o_and | exact o_xor | exact o_eq | exact o_ne | exact o_lt | exact o_le | exact o_gt | exact o_ge | exact o_eqb | exact o_neb | exact o_isn | exact o_nisn | apply x_seq | exact x_skip | apply x_asg | apply x_ret | exact x_retN | apply m_ex | (apply m_mv; rfl) | apply m_exf | apply ok_bin | apply ok_cmp | apply ok_chain | apply ok_not | apply ok_neg | apply ok_and | apply ok_or | apply oks_cons | apply ok_tup | apply ok_lst | apply ok_idx | apply ok_fld | apply ok_call | apply ok_meth | apply ok_new | apply ok_blt | exact Nat.le_of_ble_eq_true rfl | rfl | decide)
  · refine x_seq (δ1 := env0 3 [.int n, .int c]) ?_ ?_
    · apply x_ifF
      · repeat' (first | (apply ok_var; rfl) | exact ok_int | exact ok_bl | exact ok_str | exact ok_non | (apply ok_cst; rfl) | exact oks_nil | exact o_add | exact o_sub | exact o_and | exact o_xor | exact o_eq | exact o_ne | exact o_lt | exact o_le | exact o_gt | exact o_ge | exact o_eqb | exact o_neb | exact o_isn | exact o_nisn | apply x_seq | exact x_skip | apply x_asg | apply x_ret | exact x_retN | apply m_ex | (apply m_mv; rfl) | apply m_exf | apply ok_bin | apply ok_cmp | apply ok_chain | apply ok_not | apply ok_neg | apply ok_and | apply ok_or | apply oks_cons | apply ok_tup | apply ok_lst | apply ok_idx | apply ok_fld | apply ok_call | apply ok_meth | apply ok_new | apply ok_blt | exact Nat.le_of_ble_eq_true rfl | rfl | decide)
      · simp; omega
      · exact x_skip
    · rw [mostF, if_neg h]
      have two : (0 : Int) < 2 := by decide
      have hc := ok_comp (G := G) (ρ := shareE (env0 3 [.int n, .int c])) (t := .nm 2) (k := .rng1) (as := .cons (.var 0) .nil) (c := .bl true) (e := .blt .min (.cons (.bin .shl (.int 1) (.var 2)) (.cons (.bin .fdiv (.var 1) (.int 2)) .nil))) (ds := [.int n]) (xs := rngD 0 n 1) (fun _ => true) (fun d => match d with | .int l => .int (min (2 ^ l.toNat) (c / 2)) | d => d) (by repeat' (first | (apply ok_var; rfl) | exact ok_int | exact ok_bl | exact ok_str | exact ok_non | (apply ok_cst; rfl) | exact oks_nil | exact o_add | exact o_sub | exact o_and | exact o_xor | exact o_eq | exact o_ne | exact o_lt | exact o_le | exact o_gt | exact o_ge | exact o_eqb | exact o_neb | exact o_isn | exact o_nisn | apply x_seq | exact x_skip | apply x_asg | apply x_ret | exact x_retN | apply m_ex | (apply m_mv; rfl) | apply m_exf | apply ok_bin | apply ok_cmp | apply ok_chain | apply ok_not | apply ok_neg | apply ok_and | apply ok_or | apply oks_cons | apply ok_tup | apply ok_lst | apply ok_idx | apply ok_fld | apply ok_call | apply ok_meth | apply ok_new | apply ok_blt | exact Nat.le_of_ble_eq_true rfl | rfl | decide)) (rng1_ok (by omega)) (by
        intro x hx
        obtain ⟨i, hi⟩ := List.mem_iff_getElem?.mp hx
        obtain ⟨hi2, rfl⟩ := rng_at hi
        refine ⟨_, rfl, ok_bl, fun _ => ?_⟩
        repeat' (first | exact o_shl1 (n := i) (by omega) | exact o_fdivS (j := 2) two (sm_lit (n := 10) (by decide)) (by decide) | (apply ok_var; rfl) | exact ok_int | exact ok_bl | exact ok_str | exact ok_non | (apply ok_cst; rfl) | exact oks_nil | exact o_add | exact o_sub | exact o_and | exact o_xor | exact o_eq | exact o_ne | exact o_lt | exact o_le | exact o_gt | exact o_ge | exact o_eqb | exact o_neb | exact o_isn | exact o_nisn | apply x_seq | exact x_skip | apply x_asg | apply x_ret | exact x_retN | apply m_ex | (apply m_mv; rfl) | apply m_exf | apply ok_bin | apply ok_cmp | apply ok_chain | apply ok_not | apply ok_neg | apply ok_and | apply ok_or | apply oks_cons | apply ok_tup | apply ok_lst | apply ok_idx | apply ok_fld | apply ok_call | apply ok_meth | apply ok_new | apply ok_blt | exact Nat.le_of_ble_eq_true rfl | rfl | decide)) (by rw [rngD]; simp [lineN]; omega)
      have he : ((rngD 0 n 1).filter (fun _ => true)).map (fun d => match d with | .int l => D.int (min (2 ^ l.toNat) (c / 2)) | d => d) = (minsF n (c / 2)).map .int := by
        rw [List.filter_eq_self.mpr (by simp)]
        unfold rngD minsF
        rw [List.map_map, List.map_map]
        apply List.map_congr_left
        intro l _
        simp
      rw [he] at hc
      repeat' (first | exact hc | exact sum_ints | exact m | (apply ok_var; rfl) | exact ok_int | exact ok_bl | exact ok_str | exact ok_non | (apply ok_cst; rfl) | exact oks_nil | exact o_add | exact o_sub | exact o_and | exact o_xor | exact o_eq | exact o_ne | exact o_lt | exact o_le | exact o_gt | exact o_ge | exact o_eqb | exact o_neb | exact o_isn | exact o_nisn | apply x_seq | exact x_skip | apply x_asg | apply x_ret | exact x_retN | apply m_ex | (apply m_mv; rfl) | apply m_exf | apply ok_bin | apply ok_cmp | apply ok_chain | apply ok_not | apply ok_neg | apply ok_and | apply ok_or | apply oks_cons | apply ok_tup | apply ok_lst | apply ok_idx | apply ok_fld | apply ok_call | apply ok_meth | apply ok_new | apply ok_blt | exact Nat.le_of_ble_eq_true rfl | rfl | decide)
theorem few_most {n : Nat} {c : Int} (h0 : 0 ≤ c) (h : c ≤ 2 ^ n) : fewF c ≤ mostF n c := by
  unfold fewF mostF
  have := sum_ge (n := n) (h := c / 2) (by omega)
  split <;> split <;> omega
theorem few_all (n : Nat) : fewF (2 ^ n) = mostF n (2 ^ n) := by
  unfold fewF mostF
  have a := sum_ge (n := n) (h := 2 ^ n / 2) (by have := pow_i n; omega)
  have b := sum_le (n := n) (h := 2 ^ n / 2)
  have p := pow_i n
  cases n with
  | zero => simp
  | succ n =>
    have e : (2 : Int) ^ (n + 1) = 2 ^ n * 2 := Int.pow_succ 2 n
    have p2 := pow_i n
    rw [if_neg (by omega)]
    split <;> omega
/-! ## Drawn sizes -/
structure HasDrawn (G : Gam) : Prop where
  ex : ∀ (cell : Int) (ss : List Int), ss.length ≤ 1000 → (∀ s ∈ ss, 0 < s ∧ Sm 9000 s) →
    ∃ xs : List Int, xf G "_law_drawn" [.int cell, .lst false (ss.map .int)] = .ok (.lst true (xs.map .int)) ∧ xs.length = ss.length ∧ ∀ (i : Nat) (x s : Int), xs[i]? = some x → ss[i]? = some s → 0 ≤ x ∧ x < s
theorem cell_ok (G : Gam) (ns : List Int) (k : Nat) : ∃ z : Int, callD G d__law_cell_at [.scr ns, .int k] = .ok (.int z) := by
  have hl : bltF G .len [.scr ns] = .ok (.int (ns.length : Nat)) := rfl
  by_cases h : k < ns.length
  · refine ⟨ns[k], fn_rt rfl (x_seqR ?_)⟩
    apply x_ifT
    · repeat' (first | exact hl | (apply ok_var; rfl) | exact ok_int | exact ok_bl | exact ok_str | exact ok_non | (apply ok_cst; rfl) | exact oks_nil | exact o_add | exact o_sub | exact o_and | exact o_xor | exact o_eq | exact o_ne | exact o_lt | exact o_le | exact o_gt | exact o_ge | exact o_eqb | exact o_neb | exact o_isn | exact o_nisn | apply x_seq | exact x_skip | apply x_asg | apply x_ret | exact x_retN | apply m_ex | (apply m_mv; rfl) | apply m_exf | apply ok_bin | apply ok_cmp | apply ok_chain | apply ok_not | apply ok_neg | apply ok_and | apply ok_or | apply oks_cons | apply ok_tup | apply ok_lst | apply ok_idx | apply ok_fld | apply ok_call | apply ok_meth | apply ok_new | apply ok_blt | exact Nat.le_of_ble_eq_true rfl | rfl | decide)
    · simp; omega
    · refine x_retE (d := .int ns[k]) (ok_idx (d := .scr ns) (d1 := .int k) ?_ ?_ ?_) rfl
      · repeat' (first | (apply ok_var; rfl) | exact ok_int | exact ok_bl | exact ok_str | exact ok_non | (apply ok_cst; rfl) | exact oks_nil | exact o_add | exact o_sub | exact o_and | exact o_xor | exact o_eq | exact o_ne | exact o_lt | exact o_le | exact o_gt | exact o_ge | exact o_eqb | exact o_neb | exact o_isn | exact o_nisn | apply x_seq | exact x_skip | apply x_asg | apply x_ret | exact x_retN | apply m_ex | (apply m_mv; rfl) | apply m_exf | apply ok_bin | apply ok_cmp | apply ok_chain | apply ok_not | apply ok_neg | apply ok_and | apply ok_or | apply oks_cons | apply ok_tup | apply ok_lst | apply ok_idx | apply ok_fld | apply ok_call | apply ok_meth | apply ok_new | apply ok_blt | exact Nat.le_of_ble_eq_true rfl | rfl | decide)
      · repeat' (first | (apply ok_var; rfl) | exact ok_int | exact ok_bl | exact ok_str | exact ok_non | (apply ok_cst; rfl) | exact oks_nil | exact o_add | exact o_sub | exact o_and | exact o_xor | exact o_eq | exact o_ne | exact o_lt | exact o_le | exact o_gt | exact o_ge | exact o_eqb | exact o_neb | exact o_isn | exact o_nisn | apply x_seq | exact x_skip | apply x_asg | apply x_ret | exact x_retN | apply m_ex | (apply m_mv; rfl) | apply m_exf | apply ok_bin | apply ok_cmp | apply ok_chain | apply ok_not | apply ok_neg | apply ok_and | apply ok_or | apply oks_cons | apply ok_tup | apply ok_lst | apply ok_idx | apply ok_fld | apply ok_call | apply ok_meth | apply ok_new | apply ok_blt | exact Nat.le_of_ble_eq_true rfl | rfl | decide)
      · rw [idxF, atI_nat]; simp [h]
  · refine ⟨0, fn_rt rfl (x_seq (δ1 := env0 2 [.scr ns, .int k]) ?_ ?_)⟩
    · apply x_ifF
      · repeat' (first | exact hl | (apply ok_var; rfl) | exact ok_int | exact ok_bl | exact ok_str | exact ok_non | (apply ok_cst; rfl) | exact oks_nil | exact o_add | exact o_sub | exact o_and | exact o_xor | exact o_eq | exact o_ne | exact o_lt | exact o_le | exact o_gt | exact o_ge | exact o_eqb | exact o_neb | exact o_isn | exact o_nisn | apply x_seq | exact x_skip | apply x_asg | apply x_ret | exact x_retN | apply m_ex | (apply m_mv; rfl) | apply m_exf | apply ok_bin | apply ok_cmp | apply ok_chain | apply ok_not | apply ok_neg | apply ok_and | apply ok_or | apply oks_cons | apply ok_tup | apply ok_lst | apply ok_idx | apply ok_fld | apply ok_call | apply ok_meth | apply ok_new | apply ok_blt | exact Nat.le_of_ble_eq_true rfl | rfl | decide)
      · simp; omega
      · exact x_skip
    · repeat' (first | (apply ok_var; rfl) | exact ok_int | exact ok_bl | exact ok_str | exact ok_non | (apply ok_cst; rfl) | exact oks_nil | exact o_add | exact o_sub | exact o_and | exact o_xor | exact o_eq | exact o_ne | exact o_lt | exact o_le | exact o_gt | exact o_ge | exact o_eqb | exact o_neb | exact o_isn | exact o_nisn | apply x_seq | exact x_skip | apply x_asg | apply x_ret | exact x_retN | apply m_ex | (apply m_mv; rfl) | apply m_exf | apply ok_bin | apply ok_cmp | apply ok_chain | apply ok_not | apply ok_neg | apply ok_and | apply ok_or | apply oks_cons | apply ok_tup | apply ok_lst | apply ok_idx | apply ok_fld | apply ok_call | apply ok_meth | apply ok_new | apply ok_blt | exact Nat.le_of_ble_eq_true rfl | rfl | decide)
theorem o_max {G : Gam} {i j : Int} : bltF G .max [.int i, .int j] = .ok (.int (max i j)) := rfl
theorem o_min {G : Gam} {i j : Int} : bltF G .min [.int i, .int j] = .ok (.int (min i j)) := rfl
theorem size_ok (G : Gam) (H : HasDrawn G) (cell : Int) : ∃ (n : Nat) (c : Int), n ≤ 200 ∧ 0 ≤ c ∧ c ≤ 2 ^ n ∧ callD G d__law_size [.int cell] = .ok (.tup [.int n, .int c]) := by
  obtain ⟨B, e60, p60, t60, _⟩ := lit_powX 10 60 200 (by decide) (by decide) (by decide) (by decide)
  obtain ⟨xs, h1, h2, h3⟩ := H.ex cell [3, 201, 4, 121, B] (by simp) (by
    intro s hs
    simp only [List.mem_cons, List.not_mem_nil, or_false] at hs
    rcases hs with h | h | h | h | h <;> subst h
    · exact ⟨by decide, (sm_lit (n := 10) (by decide)).up (by decide)⟩
    · exact ⟨by decide, (sm_lit (n := 10) (by decide)).up (by decide)⟩
    · exact ⟨by decide, (sm_lit (n := 10) (by decide)).up (by decide)⟩
    · exact ⟨by decide, (sm_lit (n := 10) (by decide)).up (by decide)⟩
    · exact ⟨p60, t60.up (by decide)⟩)
  obtain ⟨kind, width, few, some_, count, rfl⟩ := len5 h2
  obtain ⟨k0, k1⟩ := h3 0 kind 3 rfl rfl
  obtain ⟨w0, w1⟩ := h3 1 width 201 rfl rfl
  obtain ⟨f0, f1⟩ := h3 2 few 4 rfl rfl
  obtain ⟨s0, s1⟩ := h3 3 some_ 121 rfl rfl
  obtain ⟨y, hy, ey⟩ := idx3 (o := false) (a := 201) (b := 21) (c := 7) k0 k1
  have hy2 : 0 < y ∧ y ≤ 201 := by rcases hy with h | h | h <;> subst h <;> decide
  have wm := Int.emod_lt_of_pos width hy2.1
  have wm0 := Int.emod_nonneg width (show y ≠ 0 by omega)
  obtain ⟨n, hn⟩ : ∃ n : Nat, width % y = n := ⟨(width % y).toNat, by omega⟩
  have pn := pow_i n
  have three : (0 : Int) < 3 := by decide
  have eight : (0 : Int) < 8 := by decide
  have r1 : (0 : Int) < 2 ^ n + 1 := by omega
  have st1 : ∀ {o : Out}, xc G (.seq (.asg (.nm 6) (.ex (.bin .shl (.int 1) (.var 2))))
  (.seq (.ife (.cmp .eq (.var 3) (.int 3))
  (.ret (.ex (.tup (.cons (.var 2) (.cons (.blt .max (.cons (.int 0) (.cons (.bin .sub (.bin .sub (.blt .min (.cons (.var 6) (.cons (.bin .pow (.int 10) (.int 60)) .nil))) (.int 1)) (.bin .mod (.var 4) (.int 3))) .nil))) .nil)))))
  .skip)
  (.ret (.ex (.tup (.cons (.var 2) (.cons (.idx (.lst (.cons (.blt .min (.cons (.var 4) (.cons (.var 6) .nil))) (.cons (.blt .min (.cons (.bin .mod (.var 4) (.int 8)) (.cons (.var 6) .nil))) (.cons (.bin .mod (.var 5) (.bin .add (.var 6) (.int 1))) .nil)))) (.var 3)) .nil))))))) [some (.int cell), some (.int kind), some (.int n), some (.int few), some (.int some_), some (.int count), none] = o → callD G d__law_size [.int cell] = outV o := by
    intro o ho
    have hb : xc G (.seq (.asg (.tp [1, 2, 3, 4, 5]) (.ex (.call "_law_drawn" (.cons (.var 0) (.cons (.lst (.cons (.int 3) (.cons (.int 201) (.cons (.int 4) (.cons (.int 121) (.cons (.bin .pow (.int 10) (.int 60)) .nil)))))) .nil)))))
  (.seq (.asg (.nm 2) (.ex (.bin .mod (.var 2) (.idx (.lst (.cons (.int 201) (.cons (.int 21) (.cons (.int 7) .nil)))) (.var 1)))))
  (.seq (.asg (.nm 6) (.ex (.bin .shl (.int 1) (.var 2))))
  (.seq (.ife (.cmp .eq (.var 3) (.int 3))
  (.ret (.ex (.tup (.cons (.var 2) (.cons (.blt .max (.cons (.int 0) (.cons (.bin .sub (.bin .sub (.blt .min (.cons (.var 6) (.cons (.bin .pow (.int 10) (.int 60)) .nil))) (.int 1)) (.bin .mod (.var 4) (.int 3))) .nil))) .nil)))))
  .skip)
  (.ret (.ex (.tup (.cons (.var 2) (.cons (.idx (.lst (.cons (.blt .min (.cons (.var 4) (.cons (.var 6) .nil))) (.cons (.blt .min (.cons (.bin .mod (.var 4) (.int 8)) (.cons (.var 6) .nil))) (.cons (.bin .mod (.var 5) (.bin .add (.var 6) (.int 1))) .nil)))) (.var 3)) .nil))))))))) (env0 7 [.int cell]) = o := by
      refine x_seq (δ1 := [some (.int cell), some (.int kind), some (.int width), some (.int few), some (.int some_), some (.int count), none]) ?_ ?_
      · refine x_asgT (d := .lst true ([kind, width, few, some_, count].map .int)) (δ2 := env0 7 [.int cell]) ?_ rfl
        repeat' (first | exact h1 | exact e60 | (apply ok_var; rfl) | exact ok_int | exact ok_bl | exact ok_str | exact ok_non | (apply ok_cst; rfl) | exact oks_nil | exact o_add | exact o_sub | exact o_and | exact o_xor | exact o_eq | exact o_ne | exact o_lt | exact o_le | exact o_gt | exact o_ge | exact o_eqb | exact o_neb | exact o_isn | exact o_nisn | apply x_seq | exact x_skip | apply x_asg | apply x_ret | exact x_retN | apply m_ex | (apply m_mv; rfl) | apply m_exf | apply ok_bin | apply ok_cmp | apply ok_chain | apply ok_not | apply ok_neg | apply ok_and | apply ok_or | apply oks_cons | apply ok_tup | apply ok_lst | apply ok_idx | apply ok_fld | apply ok_call | apply ok_meth | apply ok_new | apply ok_blt | exact Nat.le_of_ble_eq_true rfl | rfl | decide)
      refine x_seq (δ1 := [some (.int cell), some (.int kind), some (.int n), some (.int few), some (.int some_), some (.int count), none]) ?_ ho
      rw [← hn]
      repeat' (first | exact ey | exact o_mod hy2.1 | (apply ok_var; rfl) | exact ok_int | exact ok_bl | exact ok_str | exact ok_non | (apply ok_cst; rfl) | exact oks_nil | exact o_add | exact o_sub | exact o_and | exact o_xor | exact o_eq | exact o_ne | exact o_lt | exact o_le | exact o_gt | exact o_ge | exact o_eqb | exact o_neb | exact o_isn | exact o_nisn | apply x_seq | exact x_skip | apply x_asg | apply x_ret | exact x_retN | apply m_ex | (apply m_mv; rfl) | apply m_exf | apply ok_bin | apply ok_cmp | apply ok_chain | apply ok_not | apply ok_neg | apply ok_and | apply ok_or | apply oks_cons | apply ok_tup | apply ok_lst | apply ok_idx | apply ok_fld | apply ok_call | apply ok_meth | apply ok_new | apply ok_blt | exact Nat.le_of_ble_eq_true rfl | rfl | decide)
    rw [xc_eq] at hb
    unfold d__law_size
    rw [callD, if_pos (show [D.int cell].length = 1 from rfl), hb]
  by_cases hf : few = 3
  · refine ⟨n, max 0 (min (2 ^ n) B - 1 - some_ % 3), by omega, by omega, by omega, st1 (o := .rt (.tup [.int n, .int (max 0 (min (2 ^ n) B - 1 - some_ % 3))])) ?_⟩
    refine x_seq (δ1 := [some (.int cell), some (.int kind), some (.int n), some (.int few), some (.int some_), some (.int count), some (.int (2 ^ n))]) ?_ ?_
    · repeat' (first | exact o_shl1 (n := n) (by omega) | (apply ok_var; rfl) | exact ok_int | exact ok_bl | exact ok_str | exact ok_non | (apply ok_cst; rfl) | exact oks_nil | exact o_add | exact o_sub | exact o_and | exact o_xor | exact o_eq | exact o_ne | exact o_lt | exact o_le | exact o_gt | exact o_ge | exact o_eqb | exact o_neb | exact o_isn | exact o_nisn | apply x_seq | exact x_skip | apply x_asg | apply x_ret | exact x_retN | apply m_ex | (apply m_mv; rfl) | apply m_exf | apply ok_bin | apply ok_cmp | apply ok_chain | apply ok_not | apply ok_neg | apply ok_and | apply ok_or | apply oks_cons | apply ok_tup | apply ok_lst | apply ok_idx | apply ok_fld | apply ok_call | apply ok_meth | apply ok_new | apply ok_blt | exact Nat.le_of_ble_eq_true rfl | rfl | decide)
    refine x_seqR ?_
    apply x_ifT
    · repeat' (first | (apply ok_var; rfl) | exact ok_int | exact ok_bl | exact ok_str | exact ok_non | (apply ok_cst; rfl) | exact oks_nil | exact o_add | exact o_sub | exact o_and | exact o_xor | exact o_eq | exact o_ne | exact o_lt | exact o_le | exact o_gt | exact o_ge | exact o_eqb | exact o_neb | exact o_isn | exact o_nisn | apply x_seq | exact x_skip | apply x_asg | apply x_ret | exact x_retN | apply m_ex | (apply m_mv; rfl) | apply m_exf | apply ok_bin | apply ok_cmp | apply ok_chain | apply ok_not | apply ok_neg | apply ok_and | apply ok_or | apply oks_cons | apply ok_tup | apply ok_lst | apply ok_idx | apply ok_fld | apply ok_call | apply ok_meth | apply ok_new | apply ok_blt | exact Nat.le_of_ble_eq_true rfl | rfl | decide)
    · simp [hf]
    · repeat' (first | exact o_max | exact o_min | exact o_mod three | exact e60 | (apply ok_var; rfl) | exact ok_int | exact ok_bl | exact ok_str | exact ok_non | (apply ok_cst; rfl) | exact oks_nil | exact o_add | exact o_sub | exact o_and | exact o_xor | exact o_eq | exact o_ne | exact o_lt | exact o_le | exact o_gt | exact o_ge | exact o_eqb | exact o_neb | exact o_isn | exact o_nisn | apply x_seq | exact x_skip | apply x_asg | apply x_ret | exact x_retN | apply m_ex | (apply m_mv; rfl) | apply m_exf | apply ok_bin | apply ok_cmp | apply ok_chain | apply ok_not | apply ok_neg | apply ok_and | apply ok_or | apply oks_cons | apply ok_tup | apply ok_lst | apply ok_idx | apply ok_fld | apply ok_call | apply ok_meth | apply ok_new | apply ok_blt | exact Nat.le_of_ble_eq_true rfl | rfl | decide)
  · obtain ⟨z, hz, ez⟩ := idx3 (o := true) (a := min some_ (2 ^ n)) (b := min (some_ % 8) (2 ^ n)) (c := count % (2 ^ n + 1)) f0 (by omega)
    have q1 := Int.emod_lt_of_pos count r1
    have q2 := Int.emod_nonneg count (show (2 : Int) ^ n + 1 ≠ 0 by omega)
    refine ⟨n, z, by omega, by rcases hz with h | h | h <;> omega, by rcases hz with h | h | h <;> omega, st1 (o := .rt (.tup [.int n, .int z])) ?_⟩
    refine x_seq (δ1 := [some (.int cell), some (.int kind), some (.int n), some (.int few), some (.int some_), some (.int count), some (.int (2 ^ n))]) ?_ ?_
    · repeat' (first | exact o_shl1 (n := n) (by omega) | (apply ok_var; rfl) | exact ok_int | exact ok_bl | exact ok_str | exact ok_non | (apply ok_cst; rfl) | exact oks_nil | exact o_add | exact o_sub | exact o_and | exact o_xor | exact o_eq | exact o_ne | exact o_lt | exact o_le | exact o_gt | exact o_ge | exact o_eqb | exact o_neb | exact o_isn | exact o_nisn | apply x_seq | exact x_skip | apply x_asg | apply x_ret | exact x_retN | apply m_ex | (apply m_mv; rfl) | apply m_exf | apply ok_bin | apply ok_cmp | apply ok_chain | apply ok_not | apply ok_neg | apply ok_and | apply ok_or | apply oks_cons | apply ok_tup | apply ok_lst | apply ok_idx | apply ok_fld | apply ok_call | apply ok_meth | apply ok_new | apply ok_blt | exact Nat.le_of_ble_eq_true rfl | rfl | decide)
    refine x_seq (δ1 := [some (.int cell), some (.int kind), some (.int n), some (.int few), some (.int some_), some (.int count), some (.int (2 ^ n))]) ?_ ?_
    · apply x_ifF
      · repeat' (first | (apply ok_var; rfl) | exact ok_int | exact ok_bl | exact ok_str | exact ok_non | (apply ok_cst; rfl) | exact oks_nil | exact o_add | exact o_sub | exact o_and | exact o_xor | exact o_eq | exact o_ne | exact o_lt | exact o_le | exact o_gt | exact o_ge | exact o_eqb | exact o_neb | exact o_isn | exact o_nisn | apply x_seq | exact x_skip | apply x_asg | apply x_ret | exact x_retN | apply m_ex | (apply m_mv; rfl) | apply m_exf | apply ok_bin | apply ok_cmp | apply ok_chain | apply ok_not | apply ok_neg | apply ok_and | apply ok_or | apply oks_cons | apply ok_tup | apply ok_lst | apply ok_idx | apply ok_fld | apply ok_call | apply ok_meth | apply ok_new | apply ok_blt | exact Nat.le_of_ble_eq_true rfl | rfl | decide)
      · simp [hf]
      · exact x_skip
    · repeat' (first | exact ez | exact o_min | exact o_mod eight | exact o_mod r1 | (apply ok_var; rfl) | exact ok_int | exact ok_bl | exact ok_str | exact ok_non | (apply ok_cst; rfl) | exact oks_nil | exact o_add | exact o_sub | exact o_and | exact o_xor | exact o_eq | exact o_ne | exact o_lt | exact o_le | exact o_gt | exact o_ge | exact o_eqb | exact o_neb | exact o_isn | exact o_nisn | apply x_seq | exact x_skip | apply x_asg | apply x_ret | exact x_retN | apply m_ex | (apply m_mv; rfl) | apply m_exf | apply ok_bin | apply ok_cmp | apply ok_chain | apply ok_not | apply ok_neg | apply ok_and | apply ok_or | apply oks_cons | apply ok_tup | apply ok_lst | apply ok_idx | apply ok_fld | apply ok_call | apply ok_meth | apply ok_new | apply ok_blt | exact Nat.le_of_ble_eq_true rfl | rfl | decide)
end Lb
namespace Ev
open PySem L2

/-! ## Normal forms of what is shared -/
class Shd (d : D) (d' : outParam D) : Prop where
  eq : share d = d'
class Shds (d : List D) (d' : outParam (List D)) : Prop where
  eq : shares d = d'
class ShO (d : Option D) (d' : outParam (Option D)) : Prop where
  eq : shareO d = d'
class ShEnv (d : Env) (d' : outParam Env) : Prop where
  eq : shareE d = d'
instance (priority := low) shd_any (d : D) : Shd d (share d) := ⟨rfl⟩
instance shd_int (i : Int) : Shd (.int i) (.int i) := ⟨rfl⟩
instance shd_str (i : Str) : Shd (.str i) (.str i) := ⟨rfl⟩
instance shd_bl (i : Bool) : Shd (.bl i) (.bl i) := ⟨rfl⟩
instance shd_non : Shd .non .non := ⟨rfl⟩
instance shd_scr (ns : List Int) : Shd (.scr ns) (.scr ns) := ⟨rfl⟩
instance shd_obj (c : String) (ns : List String) (ds : List D) : Shd (.obj c ns ds) (.obj c ns ds) := ⟨rfl⟩
instance shd_exc (c : String) : Shd (.exc c) (.exc c) := ⟨rfl⟩
instance shd_cls (c : String) : Shd (.cls c) (.cls c) := ⟨rfl⟩
instance shd_ty (c : String) : Shd (.ty c) (.ty c) := ⟨rfl⟩
instance shd_tup (ds ds' : List D) [h : Shds ds ds'] : Shd (.tup ds) (.tup ds') := ⟨by rw [share, h.eq]⟩
instance shd_lst (o : Bool) (ds ds' : List D) [h : Shds ds ds'] : Shd (.lst o ds) (.lst false ds') := ⟨by rw [share, h.eq]⟩
instance (priority := low) shds_any (d : List D) : Shds d (shares d) := ⟨rfl⟩
instance shds_nil : Shds [] [] := ⟨rfl⟩
instance shds_cons (d d' : D) (r r' : List D) [h : Shd d d'] [q : Shds r r'] : Shds (d :: r) (d' :: r') := ⟨by rw [shares, h.eq, q.eq]⟩
instance shds_map {α : Type} (f g : α → D) (xs : List α) [h : ∀ x, Shd (f x) (g x)] : Shds (xs.map f) (xs.map g) := ⟨by
  rw [shares_map, List.map_map]
  exact List.map_congr_left fun x _ => (h x).eq⟩
instance shds_app (a b a' b' : List D) [h : Shds a a'] [q : Shds b b'] : Shds (a ++ b) (a' ++ b') := ⟨by rw [shares_map, List.map_append, ← shares_map, ← shares_map, h.eq, q.eq]⟩
instance sho_none : ShO none none := ⟨rfl⟩
instance sho_some (d d' : D) [h : Shd d d'] : ShO (some d) (some d') := ⟨by rw [shareO, h.eq]⟩
instance (priority := low) sho_any (d : Option D) : ShO d (shareO d) := ⟨rfl⟩
instance she_nil : ShEnv [] [] := ⟨rfl⟩
instance she_cons (d d' : Option D) (r r' : Env) [h : ShO d d'] [q : ShEnv r r'] : ShEnv (d :: r) (d' :: r') := ⟨by
  have e := q.eq
  unfold shareE at e ⊢
  rw [List.map_cons, h.eq, e]⟩
/-- no shared list within -/
class NF (d : D) : Prop where
  eq : noFrz d = true
class NFs (d : List D) : Prop where
  eq : noFrzs d = true
instance nf_int (i : Int) : NF (.int i) := ⟨rfl⟩
instance nf_str (i : Str) : NF (.str i) := ⟨rfl⟩
instance nf_bl (i : Bool) : NF (.bl i) := ⟨rfl⟩
instance nf_non : NF .non := ⟨rfl⟩
instance nf_scr (ns : List Int) : NF (.scr ns) := ⟨rfl⟩
instance nf_exc (c : String) : NF (.exc c) := ⟨rfl⟩
instance nf_obj (c : String) (ns : List String) (ds : List D) [h : NFs ds] : NF (.obj c ns ds) := ⟨h.eq⟩
instance nf_tup (ds : List D) [h : NFs ds] : NF (.tup ds) := ⟨h.eq⟩
instance nf_lst (ds : List D) [h : NFs ds] : NF (.lst true ds) := ⟨by rw [noFrz, h.eq]; rfl⟩
instance nfs_nil : NFs [] := ⟨rfl⟩
instance nfs_cons (d : D) (r : List D) [h : NF d] [q : NFs r] : NFs (d :: r) := ⟨by rw [noFrzs, h.eq, q.eq]; rfl⟩
instance nfs_map {α : Type} (f : α → D) (xs : List α) [h : ∀ x, NF (f x)] : NFs (xs.map f) := ⟨noFrzs_all fun y m => by
  obtain ⟨x, _, e⟩ := List.mem_map.mp m
  rw [← e]; exact (h x).eq⟩
theorem noFrzs_app : ∀ {a b : List D}, noFrzs a = true → noFrzs b = true → noFrzs (a ++ b) = true
  | [], _, _, h => h
  | x :: a, b, h, q => by
    rw [noFrzs, Bool.and_eq_true] at h
    rw [List.cons_append, noFrzs, h.1, noFrzs_app h.2 q]; rfl
instance nfs_app (a b : List D) [h : NFs a] [q : NFs b] : NFs (a ++ b) := ⟨noFrzs_app h.eq q.eq⟩
instance shd_dct (o : Bool) (kvs : List (Int × Int)) : Shd (.dct o kvs) (.dct false kvs) := ⟨rfl⟩
instance nf_dct (kvs : List (Int × Int)) : NF (.dct true kvs) := ⟨rfl⟩
instance shd_pair (p : Int × Int) : Shd (pairD p) (pairD p) := ⟨rfl⟩
instance nf_pair (p : Int × Int) : NF (pairD p) := ⟨rfl⟩
/-! ## Slots -/
@[irreducible] def SetN (δ : Env) (i : Nat) (a : Option D) (δ' : Env) : Prop := δ.set i a = δ'
theorem set0 {x a : Option D} {r : Env} : SetN (x :: r) 0 a (a :: r) := by unfold SetN; rfl
theorem setS {x a : Option D} {r r' : Env} {i : Nat} (h : SetN r i a r') : SetN (x :: r) (i + 1) a (x :: r') := by unfold SetN at *; exact congrArg (x :: ·) h
@[irreducible] def GetN (δ : Env) (i : Nat) (a : Option D) : Prop := δ[i]? = some a
theorem get0 {a : Option D} {r : Env} : GetN (a :: r) 0 a := by unfold GetN; rfl
theorem getS {x a : Option D} {r : Env} {i : Nat} (h : GetN r i a) : GetN (x :: r) (i + 1) a := by
  unfold GetN at *
  simpa using h
@[irreducible] def BindN (t : Tg) (d : D) (δ δ' : Env) : Prop := bindT t d δ = some δ'
@[irreducible] def BindsN (is : List Nat) (ds : List D) (δ δ' : Env) : Prop := bindS is ds δ = some δ'
theorem bn_nm {i : Nat} {d : D} {δ δ' : Env} (h : SetN δ i (some d) δ') : BindN (.nm i) d δ δ' := by
  unfold SetN at h
  unfold BindN
  rw [bindT, h]
theorem bn_tup {is : List Nat} {ds : List D} {δ δ' : Env} (h : BindsN is ds δ δ') : BindN (.tp is) (.tup ds) δ δ' := by unfold BindN; unfold BindsN at h; exact h
theorem bn_lst {is : List Nat} {ds : List D} {o : Bool} {δ δ' : Env} (h : BindsN is ds δ δ') : BindN (.tp is) (.lst o ds) δ δ' := by unfold BindN; unfold BindsN at h; exact h
theorem bs_nil {δ : Env} : BindsN [] [] δ δ := by unfold BindsN; rfl
theorem bs_cons {i : Nat} {is : List Nat} {d : D} {ds : List D} {δ δ1 δ2 : Env} (h : SetN δ i (some d) δ1) (q : BindsN is ds δ1 δ2) : BindsN (i :: is) (d :: ds) δ δ2 := by
  unfold SetN at h
  unfold BindsN bindS at *
  split at q
  · rename_i e
    cases q
    rw [List.length_cons, List.length_cons, if_pos (by omega), List.zip_cons_cons, setAll, h]
  · cases q
@[irreducible] def FrzN (vs : List Nat) (δ δ' : Env) : Prop := frzAt vs δ = δ'
theorem fz_nil {δ : Env} : FrzN [] δ δ := by unfold FrzN; rfl
theorem fz_cons {i : Nat} {vs : List Nat} {a b : Option D} {δ δ1 δ2 : Env} (g : GetN δ i a) (h : ShO a b) (s : SetN δ i b δ1) (q : FrzN vs δ1 δ2) : FrzN (i :: vs) δ δ2 := by
  unfold FrzN GetN SetN at *
  rw [frzAt, g, Option.getD_some, h.eq, s, q]
@[irreducible] def MaskN (vs : List Nat) (k : Nat) (δ ρ : Env) : Prop := (δ.zipIdx k).map (fun p => if vs.contains p.2 then p.1 else none) = ρ
theorem mk_nil {vs : List Nat} {k : Nat} : MaskN vs k [] [] := by unfold MaskN; rfl
theorem mk_in {vs : List Nat} {k : Nat} {a : Option D} {r r' : Env} (h : vs.contains k = true) (q : MaskN vs (k + 1) r r') : MaskN vs k (a :: r) (a :: r') := by
  unfold MaskN at *
  rw [List.zipIdx_cons, List.map_cons, q]
  dsimp only
  rw [if_pos h]
theorem mk_out {vs : List Nat} {k : Nat} {a : Option D} {r r' : Env} (h : vs.contains k = false) (q : MaskN vs (k + 1) r r') : MaskN vs k (a :: r) (none :: r') := by
  unfold MaskN at *
  rw [List.zipIdx_cons, List.map_cons, q]
  dsimp only
  rw [if_neg (by rw [h]; exact Bool.false_ne_true)]
theorem mask_eq {vs : List Nat} {δ ρ : Env} (h : MaskN vs 0 δ ρ) : maskE vs δ = ρ := by unfold MaskN at h; exact h
@[irreducible] def E0N (n : Nat) (ds : List D) (δ : Env) : Prop := env0 n ds = δ
theorem e0_nil : E0N 0 [] [] := by unfold E0N; rfl
theorem e0_none {n : Nat} {δ : Env} (h : E0N n [] δ) : E0N (n + 1) [] (none :: δ) := by
  unfold E0N env0 at *
  rw [← h]
  simp [List.replicate_succ]
theorem e0_cons {n : Nat} {d : D} {ds : List D} {δ : Env} (h : E0N n ds δ) : E0N (n + 1) (d :: ds) (some d :: δ) := by
  unfold E0N env0 at *
  rw [← h]
  simp
/-! ## Names that do not unfold -/
@[irreducible] def xI (k : ItK) (ds : List D) : Res (List D) := itemsF k ds
@[irreducible] def xL (G : Gam) (f : Blt) (ds : List D) : Res D := bltF G f ds
@[irreducible] def xX (d e : D) : Res D := idxF d e
@[irreducible] def xS (d : D) (l h : Option Int) : Res D := slcF d l h
theorem xI_eq {k : ItK} {ds : List D} : xI k ds = itemsF k ds := by rw [xI]
theorem xL_eq {G : Gam} {f : Blt} {ds : List D} : xL G f ds = bltF G f ds := by rw [xL]
theorem xX_eq {d e : D} : xX d e = idxF d e := by rw [xX]
theorem xS_eq {d : D} {l h : Option Int} : xS d l h = slcF d l h := by rw [xS]
/-! ## Expressions -/
section
variable {G : Gam} {ρ δ δ1 δ2 : Env} {a b c e o as : E} {d d1 d2 r : D} {ds ds' : List D} {i j n : Nat} {p q : Bool}
theorem v_var (h : GetN ρ i (some d)) : xv G ρ (.var i) = .ok d := by unfold GetN at h; exact ok_var h
theorem v_blt {f : Blt} (hs : xvs G ρ as = .ok ds) (h : xL G f ds = .ok r) : xv G ρ (.blt f as) = .ok r := ok_blt hs (by rw [← xL_eq]; exact h)
theorem v_idx (ha : xv G ρ a = .ok d) (hb : xv G ρ b = .ok d1) (h : xX d d1 = .ok r) : xv G ρ (.idx a b) = .ok r := ok_idx ha hb (by rw [← xX_eq]; exact h)
theorem v_call {f : String} (hs : xvs G ρ as = .ok ds) (hh : Shds ds ds') (h : xf G f ds' = .ok r) : xv G ρ (.call f as) = .ok r := ok_call hs (by rw [hh.eq]; exact h)
theorem v_meth {m fk : String} (ha : xv G ρ o = .ok d) (hm : methF G d m = some fk) (hs : xvs G ρ as = .ok ds) (hh : Shds ds ds') (h : xf G fk (d :: ds') = .ok r) : xv G ρ (.meth o m as) = .ok r := ok_meth ha hm hs (by rw [hh.eq]; exact h)
theorem v_new {x : String} {ci : ClsI} (hs : xvs G ρ as = .ok ds) (hh : Shds ds ds') (hi : G.ci x = some ci) (h : xf G ci.init (.obj x [] [] :: ds') = .ok r) : xv G ρ (.new x as) = .ok r := ok_new hs hi (by rw [hh.eq]; exact h)
/-- that raises -/
theorem er_call {f x : String} (hs : xvs G ρ as = .ok ds) (hh : Shds ds ds') (h : xf G f ds' = .er x) : xv G ρ (.call f as) = .er x := by
  rw [xvs_eq] at hs
  rw [xf_eq] at h
  rw [xv_eq, ev, hs, Res.bind, hh.eq, h]
theorem er_meth {m fk x : String} (ha : xv G ρ o = .ok d) (hm : methF G d m = some fk) (hs : xvs G ρ as = .ok ds) (hh : Shds ds ds') (h : xf G fk (d :: ds') = .er x) : xv G ρ (.meth o m as) = .er x := by
  rw [xvs_eq] at hs
  rw [xv_eq] at ha
  rw [xf_eq] at h
  rw [xv_eq, ev, ha, Res.bind, hm]; dsimp only; rw [hs, Res.bind, hh.eq, h]
theorem er_new {x y : String} {ci : ClsI} (hs : xvs G ρ as = .ok ds) (hh : Shds ds ds') (hi : G.ci x = some ci) (h : xf G ci.init (.obj x [] [] :: ds') = .er y) : xv G ρ (.new x as) = .er y := by
  rw [xvs_eq] at hs
  rw [xf_eq] at h
  rw [xv_eq, ev, hs, Res.bind, hi]; dsimp only; rw [hh.eq, h]
theorem er_call1 {f x : String} (hs : xvs G ρ as = .er x) : xv G ρ (.call f as) = .er x := by
  rw [xvs_eq] at hs
  rw [xv_eq, ev, hs, Res.bind]
theorem er_blt {f : Blt} {x : String} (hs : xvs G ρ as = .er x) : xv G ρ (.blt f as) = .er x := by
  rw [xvs_eq] at hs
  rw [xv_eq, ev, hs, Res.bind]
theorem er_tup {x : String} (hs : xvs G ρ as = .er x) : xv G ρ (.tup as) = .er x := by
  rw [xvs_eq] at hs
  rw [xv_eq, ev, hs, Res.bind]
theorem er_bin1 {op : Bop} {x : String} (h : xv G ρ a = .er x) : xv G ρ (.bin op a b) = .er x := by
  rw [xv_eq] at *
  rw [ev, h, Res.bind]
theorem er_bin2 {op : Bop} {x : String} (ha : xv G ρ a = .ok d) (h : xv G ρ b = .er x) : xv G ρ (.bin op a b) = .er x := by
  rw [xv_eq] at *
  rw [ev, ha, Res.bind, h, Res.bind]
theorem er_fst {x : String} (h : xv G ρ a = .er x) : xvs G ρ (.cons a as) = .er x := by
  rw [xv_eq] at *
  rw [xvs_eq, evs, h, Res.bind]
theorem er_rst {x : String} (ha : xv G ρ a = .ok d) (h : xvs G ρ as = .er x) : xvs G ρ (.cons a as) = .er x := by
  rw [xv_eq] at *
  rw [xvs_eq] at *
  rw [evs, ha, Res.bind, h, Res.bind]
theorem v_slc {lo hi : E} {l h : Int} (ha : xv G ρ a = .ok d) (nl : lo.isNop = false) (hl : xv G ρ lo = .ok (.int l)) (nh : hi.isNop = false) (hh : xv G ρ hi = .ok (.int h)) (hr : xS d (some l) (some h) = .ok r) : xv G ρ (.slc a lo hi) = .ok r := by
  rw [xS_eq] at hr
  rw [xv_eq] at *
  rw [ev, ha, Res.bind, if_neg (by rw [nl]; exact Bool.false_ne_true), hl, Res.bind, toI, Res.bind, if_neg (by rw [nh]; exact Bool.false_ne_true), hh, Res.bind, toI, Res.bind, hr]
theorem v_slcL {lo : E} {l : Int} (ha : xv G ρ a = .ok d) (nl : lo.isNop = false) (hl : xv G ρ lo = .ok (.int l)) (hr : xS d (some l) none = .ok r) : xv G ρ (.slc a lo .nop) = .ok r := by
  rw [xS_eq] at hr
  rw [xv_eq] at *
  rw [ev, ha, Res.bind, if_neg (by rw [nl]; exact Bool.false_ne_true), hl, Res.bind, toI, Res.bind, if_pos (show E.nop.isNop = true from rfl), Res.bind, hr]
theorem v_slcH {hi : E} {h : Int} (ha : xv G ρ a = .ok d) (nh : hi.isNop = false) (hh : xv G ρ hi = .ok (.int h)) (hr : xS d none (some h) = .ok r) : xv G ρ (.slc a .nop hi) = .ok r := ok_slcN ha nh hh (by rw [← xS_eq]; exact hr)
theorem v_slc0 (ha : xv G ρ a = .ok d) (hr : xS d none none = .ok r) : xv G ρ (.slc a .nop .nop) = .ok r := by
  rw [xS_eq] at hr
  rw [xv_eq] at *
  rw [ev, ha, Res.bind, if_pos (show E.nop.isNop = true from rfl), Res.bind, Res.bind, hr]
/-- of one thing walked: the target bound, the test, what is told -/
@[irreducible] def Cb (G : Gam) (t : Tg) (d : D) (ρ : Env) (c e : E) (p : Bool) (r : D) : Prop := ∃ ρ', BindN t d ρ ρ' ∧ xv G ρ' c = .ok (.bl p) ∧ (p = true → xv G ρ' e = .ok r)
theorem cb {t : Tg} {ρ' : Env} (h1 : BindN t d ρ ρ') (h2 : xv G ρ' c = .ok (.bl p)) (h3 : p = true → xv G ρ' e = .ok r) : Cb G t d ρ c e p r := by
  unfold Cb; exact ⟨ρ', h1, h2, h3⟩
@[irreducible] def Ca (G : Gam) (t : Tg) (d : D) (ρ : Env) (e : E) (r : D) : Prop := ∃ ρ', BindN t d ρ ρ' ∧ xv G ρ' e = .ok r
theorem cA {t : Tg} {ρ' : Env} (h1 : BindN t d ρ ρ') (h3 : xv G ρ' e = .ok r) : Ca G t d ρ e r := by
  unfold Ca; exact ⟨ρ', h1, h3⟩
/-- a method's answer -/
@[irreducible] def MethR (G : Gam) (d : D) (m : String) (ds : List D) (r : Res D) : Prop := ∃ fk, methF G d m = some fk ∧ xf G fk (d :: ds) = r
theorem mr_mk {m fk : String} {x : Res D} (h : methF G d m = some fk) (h2 : xf G fk (d :: ds) = x) : MethR G d m ds x := by unfold MethR; exact ⟨fk, h, h2⟩
theorem v_methR {m : String} (ha : xv G ρ o = .ok d) (hs : xvs G ρ as = .ok ds) (hh : Shds ds ds') (h : MethR G d m ds' (.ok r)) : xv G ρ (.meth o m as) = .ok r := by
  unfold MethR at h
  obtain ⟨fk, h1, h2⟩ := h
  exact v_meth ha h1 hs hh h2
theorem er_methR {m x : String} (ha : xv G ρ o = .ok d) (hs : xvs G ρ as = .ok ds) (hh : Shds ds ds') (h : MethR G d m ds' (.er x)) : xv G ρ (.meth o m as) = .er x := by
  unfold MethR at h
  obtain ⟨fk, h1, h2⟩ := h
  exact er_meth ha h1 hs hh h2
/-- an instance made -/
@[irreducible] def NewR (G : Gam) (c : String) (ds : List D) (r : Res D) : Prop := ∃ ci, G.ci c = some ci ∧ xf G ci.init (.obj c [] [] :: ds) = r
theorem nr_mk {c : String} {ci : ClsI} {x : Res D} (h : G.ci c = some ci) (h2 : xf G ci.init (.obj c [] [] :: ds) = x) : NewR G c ds x := by unfold NewR; exact ⟨ci, h, h2⟩
theorem v_newR {x : String} (hs : xvs G ρ as = .ok ds) (hh : Shds ds ds') (h : NewR G x ds' (.ok r)) : xv G ρ (.new x as) = .ok r := by
  unfold NewR at h
  obtain ⟨ci, h1, h2⟩ := h
  exact v_new hs hh h1 h2
theorem er_newR {x y : String} (hs : xvs G ρ as = .ok ds) (hh : Shds ds ds') (h : NewR G x ds' (.er y)) : xv G ρ (.new x as) = .er y := by
  unfold NewR at h
  obtain ⟨ci, h1, h2⟩ := h
  exact er_new hs hh h1 h2
/-- a comprehension over typed things -/
theorem v_comp0 {α : Type} (f : α → D) (p : α → Bool) (g : α → D) {t : Tg} {k : ItK} {xs : List α} (hs : xvs G ρ as = .ok ds) (hi : itemsF k ds = .ok (xs.map f)) (h : ∀ x ∈ xs, ∃ ρ', BindN t (f x) ρ ρ' ∧ xv G ρ' c = .ok (.bl (p x)) ∧ (p x = true → xv G ρ' e = .ok (g x))) (hl : xs.length ≤ lineN) :
    xv G ρ (.comp t k as c e) = .ok (.lst true ((xs.filter p).map g)) := by
  have key : ∀ ys : List α, (∀ x ∈ ys, ∃ ρ', BindN t (f x) ρ ρ' ∧ xv G ρ' c = .ok (.bl (p x)) ∧ (p x = true → xv G ρ' e = .ok (g x))) → mapF (compF G ρ t c e) (ys.map f) = .ok ((ys.filter p).map g) := by
    intro ys
    induction ys with
    | nil => intro _; rfl
    | cons x r ih =>
      intro hh
      obtain ⟨ρ', h1, h2, h3⟩ := hh x (List.mem_cons_self ..)
      have ih := ih fun y m => hh y (List.mem_cons_of_mem _ m)
      unfold BindN at h1
      rw [xv_eq] at h2
      rw [List.map_cons, mapF]
      unfold compF at ih ⊢
      rw [h1]
      dsimp only
      rw [h2, Res.bind]
      cases q : p x with
      | false =>
        dsimp only
        rw [ih, List.filter_cons_of_neg (by rw [q]; exact Bool.false_ne_true)]
      | true =>
        have h4 := h3 q
        rw [xv_eq] at h4
        dsimp only
        rw [h4, Res.bind]
        dsimp only
        rw [ih, Res.bind, List.filter_cons_of_pos q, List.map_cons]
  rw [xvs_eq] at hs
  rw [xv_eq, ev, hs, Res.bind, hi, Res.bind]
  show (chkLen (mapF (compF G ρ t c e) (xs.map f))).bind (fun ys => Res.ok (D.lst true ys)) = _
  have l : ((xs.filter p).map g).length ≤ lineN := Nat.le_trans (by rw [List.length_map]; exact List.length_filter_le _ _) hl
  rw [key xs h, chkLen, Res.bind, if_pos l, Res.bind]
theorem v_comp {α : Type} {f : α → D} {p : α → Bool} {g : α → D} {t : Tg} {k : ItK} {xs : List α} (hs : xvs G ρ as = .ok ds) (hi : xI k ds = .ok (xs.map f)) (h : ∀ x ∈ xs, Cb G t (f x) ρ c e (p x) (g x)) (hl : xs.length ≤ lineN) :
    xv G ρ (.comp t k as c e) = .ok (.lst true ((xs.filter p).map g)) := v_comp0 f p g hs (by rw [← xI_eq]; exact hi) (fun x m => by have := h x m; unfold Cb at this; exact this) hl
/-- without a test -/
theorem v_compA {α : Type} {f : α → D} {g : α → D} {t : Tg} {k : ItK} {xs : List α} (hs : xvs G ρ as = .ok ds) (hi : xI k ds = .ok (xs.map f)) (h : ∀ x ∈ xs, Ca G t (f x) ρ e (g x)) (hl : xs.length ≤ lineN) :
    xv G ρ (.comp t k as (.bl true) e) = .ok (.lst true (xs.map g)) := by
  have := v_comp0 (G := G) (ρ := ρ) (as := as) (e := e) (c := .bl true) f (fun _ => true) g (t := t) (k := k) (xs := xs) hs (by rw [← xI_eq]; exact hi) (fun x m => by
    have := h x m
    unfold Ca at this
    obtain ⟨ρ', h1, h2⟩ := this
    exact ⟨ρ', h1, ok_bl, fun _ => h2⟩) hl
  rwa [List.filter_eq_self.mpr (fun _ _ => rfl)] at this
end
/-! ## What comes of a statement -/
@[irreducible] noncomputable def Wp (G : Gam) (s : S) (δ : Env) (Q : Out → Prop) : Prop := Q (xc G s δ)
theorem wp_eq {G : Gam} {s : S} {δ : Env} {Q : Out → Prop} : Wp G s δ Q = Q (xc G s δ) := by rw [Wp]
/-- and then t -/
@[irreducible] noncomputable def Sq (G : Gam) (t : S) (Q : Out → Prop) : Out → Prop
  | .nx δ => Wp G t δ Q
  | o => Q o
/-- within a loop whose invariant is I -/
@[irreducible] noncomputable def Lq (I : Env → Prop) (Q : Out → Prop) : Out → Prop
  | .nx δ => I δ
  | .ct δ => I δ
  | .bk δ => Q (.nx δ)
  | o => Q o
/-- what a function answers -/
@[irreducible] noncomputable def Rq (R : Res D → Prop) : Out → Prop := fun o => R (outV o)
@[irreducible] noncomputable def Fl (G : Gam) (s : S) (t : Tg) (xs : List D) (δ : Env) (Q : Out → Prop) : Prop := Q (forL (xc G s) t xs δ)
@[irreducible] noncomputable def Tq (G : Gam) (h : S) (Q : Out → Prop) : Out → Prop
  | .er c δ => Q (handle G h c δ)
  | o => Q o
@[irreducible] noncomputable def Bw (G : Gam) (s : S) (t : Tg) (d : D) (δ : Env) (Q : Out → Prop) : Prop := ∃ δ1, BindN t d δ δ1 ∧ Wp G s δ1 Q
@[irreducible] noncomputable def Cw (G : Gam) (c : E) (δ : Env) (k : Bool → Prop) : Prop := ∃ p, xv G (shareE δ) c = .ok (.bl p) ∧ k p
/-- goes on, so that P -/
@[irreducible] noncomputable def Nx (P : Env → Prop) : Out → Prop := fun o => ∃ δ, o = .nx δ ∧ P δ
@[irreducible] noncomputable def Hw (G : Gam) (h : S) (c : String) (δ : Env) (Q : Out → Prop) : Prop := Q (handle G h c δ)
@[irreducible] noncomputable def Nq (Q : Out → Prop) : Out → Prop := fun o => Q (noEr o)
@[irreducible] noncomputable def Aq (i : Nat) (Q : Out → Prop) : Out → Prop := fun o => Q (match noEr o with | .nx δ' => .nx (δ'.set i none) | .bk δ' => .bk (δ'.set i none) | .ct δ' => .ct (δ'.set i none) | o => o)
section
variable {G : Gam} {ρ δ δ1 δ2 δ3 : Env} {a b c e o as : E} {d d1 d2 r : D} {ds ds' : List D} {i j n : Nat} {p : Bool} {s t h : S} {m : M} {Q : Out → Prop} {I : Env → Prop} {R : Res D → Prop} {x : String}
theorem bw {tg : Tg} (hb : BindN tg d δ δ1) (k : Wp G s δ1 Q) : Bw G s tg d δ Q := by unfold Bw; exact ⟨δ1, hb, k⟩
theorem cw {k : Bool → Prop} (hr : ShEnv δ ρ) (h : xv G ρ c = .ok (.bl p)) (hk : k p) : Cw G c δ k := by unfold Cw; exact ⟨p, by rw [hr.eq]; exact h, hk⟩
theorem nx_nx {P : Env → Prop} (h : P δ) : Nx P (.nx δ) := by unfold Nx; exact ⟨δ, rfl, h⟩
theorem w_mid (P : Env → Prop) (h1 : Wp G s δ (Nx P)) (h2 : ∀ δ', P δ' → Wp G t δ' Q) : Wp G s δ (Sq G t Q) := by
  rw [wp_eq] at h1 ⊢
  unfold Nx at h1
  obtain ⟨δ', e, p⟩ := h1
  rw [e]
  unfold Sq
  exact h2 δ' p
theorem q_nx (h : Wp G t δ Q) : Sq G t Q (.nx δ) := by unfold Sq; exact h
theorem q_rt (h : Q (.rt d)) : Sq G t Q (.rt d) := by unfold Sq; exact h
theorem q_er (h : Q (.er x δ)) : Sq G t Q (.er x δ) := by unfold Sq; exact h
theorem q_bk (h : Q (.bk δ)) : Sq G t Q (.bk δ) := by unfold Sq; exact h
theorem q_ct (h : Q (.ct δ)) : Sq G t Q (.ct δ) := by unfold Sq; exact h
theorem l_nx (h : I δ) : Lq I Q (.nx δ) := by unfold Lq; exact h
theorem l_ct (h : I δ) : Lq I Q (.ct δ) := by unfold Lq; exact h
theorem l_bk (h : Q (.nx δ)) : Lq I Q (.bk δ) := by unfold Lq; exact h
theorem l_rt (h : Q (.rt d)) : Lq I Q (.rt d) := by unfold Lq; exact h
theorem l_er (h : Q (.er x δ)) : Lq I Q (.er x δ) := by unfold Lq; exact h
theorem r_nx (h : R (.ok .non)) : Rq R (.nx δ) := by unfold Rq; exact h
theorem r_rt (h : R (.ok d)) : Rq R (.rt d) := by unfold Rq; exact h
theorem r_er (h : R (.er x)) : Rq R (.er x δ) := by unfold Rq; exact h
theorem t_nx (h : Q (.nx δ)) : Tq G s Q (.nx δ) := by unfold Tq; exact h
theorem t_rt (h : Q (.rt d)) : Tq G s Q (.rt d) := by unfold Tq; exact h
theorem t_er (h : Hw G s x δ Q) : Tq G s Q (.er x δ) := by unfold Tq; unfold Hw at h; exact h
theorem n_nx (h : Q (.nx δ)) : Nq Q (.nx δ) := by unfold Nq; exact h
theorem n_rt (h : Q (.rt d)) : Nq Q (.rt d) := by unfold Nq; exact h
theorem n_bk (h : Q (.bk δ)) : Nq Q (.bk δ) := by unfold Nq; exact h
theorem n_ct (h : Q (.ct δ)) : Nq Q (.ct δ) := by unfold Nq; exact h
theorem a_nx (hs : SetN δ i none δ1) (h : Q (.nx δ1)) : Aq i Q (.nx δ) := by unfold SetN at hs; subst hs; unfold Aq; exact h
theorem a_rt (h : Q (.rt d)) : Aq i Q (.rt d) := by unfold Aq; exact h
theorem w_seq (h : Wp G s δ (Sq G t Q)) : Wp G (.seq s t) δ Q := by
  rw [wp_eq, xc_eq] at *
  rw [exec]
  unfold Sq at h
  cases q : exec G s δ <;> rw [q] at h <;> first | exact h | (dsimp only at h; rw [wp_eq, xc_eq] at h; exact h)
theorem w_skip (h : Q (.nx δ)) : Wp G .skip δ Q := by rw [wp_eq, x_skip]; exact h
theorem w_of {o : Out} (e : xc G s δ = o) (h : Q o) : Wp G s δ Q := by rw [wp_eq, e]; exact h
theorem k_ex (hr : ShEnv δ ρ) (h : xv G ρ e = .ok d) (nf : NF d) : xM G δ (.ex e) = .ok (d, δ) := m_ex (by rw [hr.eq]; exact h) nf.eq
theorem k_mv (hg : GetN δ i (some d)) (hs : SetN δ i none δ1) : xM G δ (.mv i) = .ok (d, δ1) := by
  unfold SetN at hs; subst hs; unfold GetN at hg; exact m_mv hg
theorem k_exf {vs : List Nat} (hf : FrzN vs δ δ1) (hm : MaskN vs 0 δ1 ρ) (h : xv G ρ e = .ok d) : xM G δ (.exf vs e) = .ok (d, δ1) := by
  unfold FrzN at hf; subst hf
  exact m_exf (by rw [mask_eq hm]; exact h)
theorem w_asg (h : xM G δ m = .ok (d, δ1)) (hz : SetN δ1 i (some d) δ2) (k : Q (.nx δ2)) : Wp G (.asg (.nm i) m) δ Q := w_of (by unfold SetN at hz; exact x_asg h hz) k
theorem w_asgT {tg : Tg} (h : xM G δ m = .ok (d, δ1)) (hz : BindN tg d δ1 δ2) (k : Q (.nx δ2)) : Wp G (.asg tg m) δ Q := w_of (by unfold BindN at hz; exact x_asgT h hz) k
theorem w_asgX {tg : Tg} (hr : ShEnv δ ρ) (h : xv G ρ e = .er x) (k : Q (.er x δ)) : Wp G (.asg tg (.ex e)) δ Q := w_of (o := .er x δ) (by
  rw [xv_eq] at h
  rw [xc_eq, exec, evM, hr.eq, h, Res.bind, Res.go]) k
theorem w_expX (hr : ShEnv δ ρ) (h : xv G ρ e = .er x) (k : Q (.er x δ)) : Wp G (.exp e) δ Q := w_of (o := .er x δ) (by
  rw [xv_eq] at h
  rw [xc_eq, exec, hr.eq, h, Res.go]) k
theorem w_retX (hr : ShEnv δ ρ) (h : xv G ρ e = .er x) (k : Q (.er x δ)) : Wp G (.ret (.ex e)) δ Q := w_of (o := .er x δ) (by
  rw [xv_eq] at h
  rw [xc_eq, exec, evM, hr.eq, h, Res.bind, Res.go]) k
theorem w_exp (hr : ShEnv δ ρ) (h : xv G ρ e = .ok d) (k : Q (.nx δ)) : Wp G (.exp e) δ Q := w_of (x_exp (by rw [hr.eq]; exact h)) k
theorem w_app (h : xM G δ m = .ok (d, δ1)) (hg0 : GetN δ i (some (.lst true ds'))) (hg : GetN δ1 i (some (.lst true ds))) (hl : ds.length < lineN) (hz : SetN δ1 i (some (.lst true (ds ++ [d]))) δ2) (k : Q (.nx δ2)) : Wp G (.app i m) δ Q := w_of (by unfold GetN at *; unfold SetN at hz; exact x_app hg0 h hg hl hz) k
theorem w_appM {α : Type} {f : α → D} {xs ys : List α} {x : α} (hg0 : GetN δ i (some (.lst true (ys.map f)))) (h : xM G δ m = .ok (f x, δ1)) (hg : GetN δ1 i (some (.lst true (xs.map f)))) (hl : xs.length < lineN) (hz : SetN δ1 i (some (.lst true ((xs ++ [x]).map f))) δ2) (k : Q (.nx δ2)) : Wp G (.app i m) δ Q :=
  w_app h hg0 hg (by rw [List.length_map]; exact hl) (by rw [List.map_append] at hz; exact hz) k
theorem w_ext {es : List D} (h : xM G δ m = .ok (.lst true es, δ1)) (hg0 : GetN δ i (some (.lst true ds'))) (hg : GetN δ1 i (some (.lst true ds))) (hl : ds.length + es.length ≤ lineN) (hz : SetN δ1 i (some (.lst true (ds ++ es))) δ2) (k : Q (.nx δ2)) : Wp G (.ext i m) δ Q := w_of (o := .nx δ2) (by
  unfold GetN at *
  unfold SetN at hz
  rw [xM_eq] at h
  rw [xc_eq, exec, ownAt, hg0]; dsimp only; rw [h, Res.go, ownAt, hg]; dsimp only; rw [if_pos hl, hz]) k
theorem w_pop {tg : Tg} (hg : GetN δ i (some (.lst true ds))) (hl : ds.getLast? = some d) (hz : SetN δ i (some (.lst true ds.dropLast)) δ1) (hb : BindN tg d δ1 δ2) (k : Q (.nx δ2)) : Wp G (.pop tg i) δ Q := w_of (o := .nx δ2) (by
  unfold GetN at *
  unfold SetN at hz
  unfold BindN at hb
  rw [xc_eq, exec, ownAt, hg]; dsimp only; rw [hl]; dsimp only; rw [hz, bindG, hb]) k
/-- the pile without its last one -/
theorem w_popA {tg : Tg} {es : List D} (hg : GetN δ i (some (.lst true (es ++ [d])))) (hz : SetN δ i (some (.lst true es)) δ1) (hb : BindN tg d δ1 δ2) (k : Q (.nx δ2)) : Wp G (.pop tg i) δ Q :=
  w_pop hg (by simp) (by rw [List.dropLast_concat]; exact hz) hb k
theorem w_clr (hg : GetN δ i (some (.lst true ds))) (hz : SetN δ i (some (.lst true [])) δ1) (k : Q (.nx δ1)) : Wp G (.clr i) δ Q := w_of (o := .nx δ1) (by
  unfold GetN at *
  unfold SetN at hz
  rw [xc_eq, exec, ownAt, hg]; dsimp only; rw [hz]) k
theorem w_setd {kvs : List (Int × Int)} {k v : E} {m n : Int} (hg : GetN δ i (some (.dct true kvs))) (hr : ShEnv δ ρ) (hv : xv G ρ v = .ok (.int n)) (hk : xv G ρ k = .ok (.int m)) (hl : kvs.length < lineN) (hz : SetN δ i (some (.dct true (putD kvs m n))) δ1) (q : Q (.nx δ1)) : Wp G (.setd i k v) δ Q := w_of (o := .nx δ1) (by
  unfold GetN at *
  unfold SetN at hz
  rw [xv_eq] at hv hk
  rw [xc_eq, exec, hg]; dsimp only; rw [hr.eq, hv, Res.go]; (try dsimp only)
  rw [hk, Res.go]; (try dsimp only)
  rw [if_pos hl, hz]) q
theorem w_clrT {i j : Nat} {es : List D} (hg : GetN δ i (some (.tup ds))) (hj : ds[j]? = some (.lst true es)) (hz : SetN δ i none δ1) (k : Q (.nx δ1)) : Wp G (.clrT i j) δ Q := w_of (o := .nx δ1) (by
  unfold GetN at *
  unfold SetN at hz
  have h : ownT δ i j = true := by
    unfold ownT
    rw [hg]; dsimp only; rw [hj]
  rw [xc_eq, exec, h]; dsimp only; rw [hz]) k
theorem erase_find : ∀ {ns : List Int} {k : Int}, k ∈ ns → ∃ j, ns.findIdx? (· == k) = some j ∧ ns.eraseIdx j = ns.erase k
  | n :: r, k, m => by
    by_cases q : n = k
    · exact ⟨0, by rw [List.findIdx?_cons, if_pos (by simpa using q)], by rw [q, List.erase_cons_head]; rfl⟩
    · have m' : k ∈ r := by
        rcases List.mem_cons.mp m with e | m
        · exact (q e.symm).elim
        · exact m
      obtain ⟨j, e1, e2⟩ := erase_find m'
      exact ⟨j + 1, by rw [List.findIdx?_cons, if_neg (by simpa using q), e1]; rfl, by rw [List.erase_cons_tail (by simpa using q), List.eraseIdx_cons_succ, e2]⟩
theorem w_rem {ns : List Int} {k : Int} (hg : GetN δ i (some (.lst true (ns.map .int)))) (hr : ShEnv δ ρ) (h : xv G ρ e = .ok (.int k)) (hm : k ∈ ns) (hz : SetN δ i (some (.lst true ((ns.erase k).map .int))) δ1) (q : Q (.nx δ1)) : Wp G (.rem i e) δ Q := w_of (o := .nx δ1) (by
  unfold GetN at *
  unfold SetN at hz
  obtain ⟨j, e1, e2⟩ := erase_find hm
  rw [xv_eq] at h
  rw [xc_eq, exec, ownAt, hg]; dsimp only; rw [hr.eq, h, Res.go]; dsimp only
  rw [ints_of]; dsimp only; rw [e1]; dsimp only; rw [e2, hz]) q
theorem w_rvs (hg : GetN δ i (some (.lst true ds))) (hz : SetN δ i (some (.lst true ds.reverse)) δ1) (k : Q (.nx δ1)) : Wp G (.rvs i) δ Q := w_of (o := .nx δ1) (by
  unfold GetN at *
  unfold SetN at hz
  rw [xc_eq, exec, ownAt, hg]; dsimp only; rw [hz]) k
theorem w_rvsM {α : Type} {f : α → D} {xs : List α} (hg : GetN δ i (some (.lst true (xs.map f)))) (hz : SetN δ i (some (.lst true (xs.reverse.map f))) δ1) (k : Q (.nx δ1)) : Wp G (.rvs i) δ Q := w_rvs hg (by rw [← List.map_reverse]; exact hz) k
theorem w_drp (hg : GetN δ i (some (.lst true ds))) (h0 : ds.length ≠ 0) (hz : SetN δ i (some (.lst true ds.dropLast)) δ1) (k : Q (.nx δ1)) : Wp G (.drp i) δ Q := w_of (o := .nx δ1) (by
  unfold GetN at *
  unfold SetN at hz
  rw [xc_eq, exec, ownAt, hg]; dsimp only; rw [if_neg h0, hz]) k
theorem w_seti {j : Int} {k' : Nat} (h : xM G δ m = .ok (d, δ1)) (hg : GetN δ1 i (some (.lst true ds))) (hr : ShEnv δ1 ρ) (hj : xv G ρ e = .ok (.int j)) (hk : ixN ds.length j = some k') (hz : SetN δ1 i (some (.lst true (ds.set k' d))) δ2) (k : Q (.nx δ2)) : Wp G (.seti i e m) δ Q := w_of (o := .nx δ2) (by
  unfold GetN at *
  unfold SetN at hz
  rw [xM_eq] at h
  rw [xv_eq] at hj
  rw [xc_eq, exec, h, Res.go, ownAt, hg]; dsimp only; rw [hr.eq, hj, Res.go]; dsimp only; rw [hk]; dsimp only; rw [hz]) k
theorem w_aug {a b : Int} (hg : GetN δ i (some (.int a))) (hr : ShEnv δ ρ) (h : xv G ρ e = .ok (.int b)) (hz : SetN δ i (some (.int (a + b))) δ1) (k : Q (.nx δ1)) : Wp G (.aug i .add e) δ Q := w_of (by unfold GetN at hg; unfold SetN at hz; exact x_aug hg (by rw [hr.eq]; exact h) hz) k
theorem w_augS {a b : Int} (hg : GetN δ i (some (.int a))) (hr : ShEnv δ ρ) (h : xv G ρ e = .ok (.int b)) (hz : SetN δ i (some (.int (a - b))) δ1) (k : Q (.nx δ1)) : Wp G (.aug i .sub e) δ Q := w_of (by unfold GetN at hg; unfold SetN at hz; exact x_augS hg (by rw [hr.eq]; exact h) hz) k
theorem w_ret (h : xM G δ m = .ok (d, δ1)) (k : Q (.rt d)) : Wp G (.ret m) δ Q := w_of (x_ret h) k
theorem w_retN (k : Q (.rt .non)) : Wp G .retN δ Q := w_of x_retN k
theorem w_rse (k : Q (.er x δ)) : Wp G (.rse x) δ Q := w_of x_rse k
theorem w_brk (k : Q (.bk δ)) : Wp G .brk δ Q := w_of (o := .bk δ) (by rw [xc_eq, exec]) k
theorem w_cnt (k : Q (.ct δ)) : Wp G .cnt δ Q := w_of (o := .ct δ) (by rw [xc_eq, exec]) k
theorem w_if (hr : ShEnv δ ρ) (h : xv G ρ c = .ok (.bl p)) (k1 : p = true → Wp G s δ Q) (k2 : p = false → Wp G t δ Q) : Wp G (.ife c s t) δ Q := by
  rw [wp_eq, x_if (by rw [hr.eq]; exact h)]
  cases p
  · have := k2 rfl; rw [wp_eq] at this; rw [if_neg Bool.false_ne_true]; exact this
  · have := k1 rfl; rw [wp_eq] at this; rw [if_pos rfl]; exact this
theorem w_ifT (hr : ShEnv δ ρ) (h : xv G ρ c = .ok (.bl p)) (hp : p = true) (k1 : Wp G s δ Q) : Wp G (.ife c s t) δ Q := w_if hr h (fun _ => k1) (fun q => by rw [hp] at q; cases q)
theorem w_ifF (hr : ShEnv δ ρ) (h : xv G ρ c = .ok (.bl p)) (hp : p = false) (k1 : Wp G t δ Q) : Wp G (.ife c s t) δ Q := w_if hr h (fun q => by rw [hp] at q; cases q) (fun _ => k1)
theorem w_for {tg : Tg} {k : ItK} {xs : List D} (hr : ShEnv δ ρ) (h : xvs G ρ as = .ok ds) (nf : NFs ds) (hi : xI k ds = .ok xs) (hl : Fl G s tg xs δ Q) : Wp G (.for_ tg k none as s) δ Q := by
  unfold Fl at hl
  exact w_of (x_for (by rw [hr.eq]; exact h) nf.eq (by rw [← xI_eq]; exact hi) rfl) hl
theorem w_forF {tg : Tg} {k : ItK} {xs : List D} {vs : List Nat} (hf : FrzN vs δ δ1) (hm : MaskN vs 0 δ1 ρ) (h : xvs G ρ as = .ok ds) (hi : xI k ds = .ok xs) (hl : Fl G s tg xs δ1 Q) : Wp G (.for_ tg k (some vs) as s) δ Q := by
  unfold FrzN at hf; subst hf
  unfold Fl at hl
  exact w_of (x_forF (by rw [mask_eq hm]; exact h) (by rw [← xI_eq]; exact hi) rfl) hl
theorem w_apAll {r j : Nat} {c : Int} (hg : GetN δ i (some (.lst true ds))) (ne : (i != r) = true) (hl : Nat.ble (r + 1) δ.length = true) (ha : ∀ d ∈ ds, isApT j d = true) (hz : SetN δ i (some (.lst true (ds.map (apT j c)))) δ1) (hz2 : SetN δ1 r none δ2) (k : Q (.nx δ2)) : Wp G (.apAll i r j c) δ Q := w_of (o := .nx δ2) (by
  unfold GetN at *
  unfold SetN at hz hz2
  have h2 : decide (r < δ.length) = true := decide_eq_true (Nat.le_of_ble_eq_true hl)
  have h3 : ds.all (isApT j) = true := List.all_eq_true.mpr ha
  rw [xc_eq, exec, hg]; dsimp only; rw [ne, h2, h3, if_pos (by rfl), hz, hz2]) k
theorem w_stL {j : Nat} {n a : Int} {es : List D} (hg : GetN δ i (some (.lst true (ds ++ [.lst true es])))) (hr : ShEnv δ ρ) (h : xv G ρ e = .ok (.int n)) (ho : es[j]? = some (.int a)) (hz : SetN δ i (some (.lst true (ds ++ [.lst true (es.set j (.int n))]))) δ1) (k : Q (.nx δ1)) : Wp G (.stL i j e) δ Q := w_of (o := .nx δ1) (by
  unfold GetN at *
  unfold SetN at hz
  rw [xv_eq] at h
  rw [xc_eq, exec, hg]; dsimp only; rw [hr.eq, h, Res.go]; dsimp only
  rw [List.getLast?_append, List.getLast?_singleton, Option.some_or]; dsimp only
  rw [ho]; dsimp only
  rw [List.dropLast_append_of_ne_nil (by simp), List.dropLast_singleton, List.append_nil, hz]) k
@[irreducible] noncomputable def Kq (i : Nat) (d : D) (Q : Out → Prop) : Out → Prop := fun o => Q (keepO i d o)
theorem kq_nx (hl : Nat.ble (i + 1) δ.length = true) (hz : SetN δ i (some d) δ1) (k : Q (.nx δ1)) : Kq i d Q (.nx δ) := by
  unfold SetN at hz
  unfold Kq
  rw [keepO, if_pos (show i < δ.length from Nat.le_of_ble_eq_true hl), hz]
  exact k
theorem kq_er (hl : Nat.ble (i + 1) δ.length = true) (hz : SetN δ i (some d) δ1) (k : Q (.er x δ1)) : Kq i d Q (.er x δ) := by
  unfold SetN at hz
  unfold Kq
  rw [keepO, if_pos (show i < δ.length from Nat.le_of_ble_eq_true hl), hz]
  exact k
theorem kq_rt (k : Q (.rt r)) : Kq i d Q (.rt r) := by unfold Kq; exact k
/-- a walk over what the name i holds, which holds it still -/
theorem w_forK {ρ2 : Env} {tg : Tg} {k : ItK} {xs : List D} (hg : GetN δ i (some d)) (hc : (refD d && (tg.noV i && s.noV i)) = true) (hr : ShEnv δ ρ) (hm : MaskN [i] 0 ρ ρ2) (h : xvs G ρ2 as = .ok ds) (hi : xI k ds = .ok xs) (nf : NFs xs) (hz : SetN δ i none δ1) (hl : Fl G s tg xs δ1 (Kq i d Q)) : Wp G (.forK i tg k as s) δ Q := by
  unfold GetN at hg
  unfold SetN at hz
  unfold Fl Kq at hl
  rw [wp_eq, xc_eq, exec, hg]
  dsimp only
  rw [if_pos hc, hr.eq, mask_eq hm]
  rw [xvs_eq] at h
  rw [h, Res.go]
  rw [xI_eq] at hi
  rw [hi, Res.go]
  rw [if_pos nf.eq, hz, ← xc_fun]
  exact hl
theorem fl_nil {tg : Tg} (k : Q (.nx δ)) : Fl G s tg [] δ Q := by unfold Fl; exact k
theorem fl_cons {tg : Tg} {x : D} {xs : List D} (hb : BindN tg x δ δ1) (k : Wp G s δ1 (Lq (fun δ2 => Fl G s tg xs δ2 Q) Q)) : Fl G s tg (x :: xs) δ Q := by
  rw [wp_eq] at k
  unfold BindN at hb
  unfold Lq Fl at k
  unfold Fl
  rw [forL, hb]
  dsimp only
  cases q : xc G s δ1 <;> rw [q] at k <;> exact k
/-- by what has been walked and what has not -/
theorem fl_pre {α : Type} {f : α → D} {tg : Tg} {ys : List α} (J : List α → Env → Prop) (h0 : J [] δ)
    (hs : ∀ done y rest δ, ys = done ++ y :: rest → J done δ → Bw G s tg (f y) δ (Lq (J (done ++ [y])) Q)) (hn : ∀ δ, J ys δ → Q (.nx δ)) : Fl G s tg (ys.map f) δ Q := by
  suffices key : ∀ (rest done : List α) (δ : Env), ys = done ++ rest → J done δ → Fl G s tg (rest.map f) δ Q from key ys [] δ rfl h0
  intro rest
  induction rest with
  | nil => intro done δ e hj; rw [List.append_nil] at e; subst e; exact fl_nil (hn δ hj)
  | cons y rest ih =>
    intro done δ e hj
    have hbw := hs done y rest δ e hj
    unfold Bw at hbw
    obtain ⟨δ1, hb, hw⟩ := hbw
    refine fl_cons hb ?_
    rw [wp_eq] at hw ⊢
    have ih' := fun δ => ih (done ++ [y]) δ (by rw [e]; simp)
    unfold Lq at hw ⊢
    cases q : xc G s δ1 <;> rw [q] at hw <;> first | exact hw | exact ih' _ hw
/-- by the turn -/
theorem fl_idx {xs : List D} {tg : Tg} (J : Nat → Env → Prop) (h0 : J 0 δ)
    (hs : ∀ i x δ, xs[i]? = some x → J i δ → Bw G s tg x δ (Lq (J (i + 1)) Q)) (hn : ∀ δ, J xs.length δ → Q (.nx δ)) : Fl G s tg xs δ Q := by
  rw [← List.map_id xs]
  refine fl_pre (fun done δ => J done.length δ) h0 (fun done y rest δ e hj => ?_) hn
  have hbw := hs done.length y δ (by rw [e]; simp) hj
  rw [List.length_append]; exact hbw
/-- over typed things, by the turn -/
theorem fl_ix {α : Type} {f : α → D} {tg : Tg} {ys : List α} (J : Nat → Env → Prop) (h0 : J 0 δ)
    (hs : ∀ i y δ, ys[i]? = some y → J i δ → Bw G s tg (f y) δ (Lq (J (i + 1)) Q)) (hn : ∀ δ, J ys.length δ → Q (.nx δ)) : Fl G s tg (ys.map f) δ Q := by
  refine fl_pre (fun done δ => J done.length δ) h0 (fun done y rest δ e hj => ?_) hn
  have hbw := hs done.length y δ (by rw [e]; simp) hj
  rw [List.length_append]; exact hbw
/-- over the numbers below n -/
theorem fl_rng {tg : Tg} {n : Nat} (J : Nat → Env → Prop) (h0 : J 0 δ)
    (hs : ∀ i δ, i < n → J i δ → Bw G s tg (.int (i : Int)) δ (Lq (J (i + 1)) Q)) (hn : ∀ δ, J n δ → Q (.nx δ)) : Fl G s tg ((List.range n).map fun (k : Nat) => D.int (k : Int)) δ Q := by
  refine fl_ix J h0 (fun i y δ e hj => ?_) (by rw [List.length_range]; exact hn)
  have hi : i < n := by
    have := (List.getElem?_eq_some_iff.mp e).1
    simpa using this
  rw [List.getElem?_range hi] at e
  cases e
  exact hs i δ hi hj
/-- the rest of a loop, whatever was before: for loops that leave early -/
theorem w_whl {α : Type} (J : α → Env → Prop) (μ : α → Nat) (a0 : α) (h0 : J a0 δ)
    (hs : ∀ a δ, J a δ → Cw G c δ fun p => (p = false → Q (.nx δ)) ∧ (p = true → Wp G s δ (Lq (fun δ' => ∃ a', J a' δ' ∧ μ a' < μ a) Q))) : Wp G (.whl c s) δ Q := by
  suffices key : ∀ (n : Nat) (a : α) (δ : Env), μ a ≤ n → J a δ → Q (whC (fun δ => ev G (shareE δ) c) (exec G s) δ) from w_of (x_whl rfl) (key _ a0 δ (Nat.le_refl _) h0)
  intro n
  induction n with
  | zero =>
    intro a δ hn hj
    have hcw := hs a δ hj
    unfold Cw at hcw
    obtain ⟨p, hc, hf, ht⟩ := hcw
    rw [xv_eq] at hc
    rw [whC_eq, hc]
    cases p with
    | false => exact hf rfl
    | true =>
      have := ht rfl
      rw [wp_eq, xc_eq] at this
      unfold Lq at this
      dsimp only
      cases q : exec G s δ <;> rw [q] at this <;> dsimp only <;> first | exact this | (obtain ⟨a', _, lt⟩ := this; omega)
  | succ n ih =>
    intro a δ hn hj
    have hcw := hs a δ hj
    unfold Cw at hcw
    obtain ⟨p, hc, hf, ht⟩ := hcw
    rw [xv_eq] at hc
    rw [whC_eq, hc]
    cases p with
    | false => exact hf rfl
    | true =>
      have := ht rfl
      rw [wp_eq, xc_eq] at this
      unfold Lq at this
      dsimp only
      cases q : exec G s δ <;> rw [q] at this <;> dsimp only <;> first | exact this | (obtain ⟨a', hj', lt⟩ := this; exact ih a' _ (by omega) hj')
theorem w_tri (k : Wp G s δ (Tq G h Q)) : Wp G (.tri s h) δ Q := by
  rw [wp_eq] at *
  rw [xc_eq] at *
  rw [exec]
  unfold Tq at k
  cases q : exec G s δ <;> rw [q] at k <;> exact k
theorem h_one {cs : List String} (hc : catchB G cs x = some true) (k : Wp G s δ (Nq Q)) : Hw G (.hnd cs none s h) x δ Q := by
  rw [wp_eq, xc_eq] at k
  unfold Nq at k
  unfold Hw
  rw [handle, hc]
  exact k
theorem h_no {cs : List String} {oi : Option Nat} (hc : catchB G cs x = some false) (k : Hw G h x δ Q) : Hw G (.hnd cs oi s h) x δ Q := by
  unfold Hw at *
  cases oi <;> rw [handle, hc] <;> exact k
theorem h_as {cs : List String} (hc : catchB G cs x = some true) (hs : SetN δ i (some (.exc x)) δ1) (k : Wp G s δ1 (Aq i Q)) : Hw G (.hnd cs (some i) s h) x δ Q := by
  unfold SetN at hs; subst hs
  rw [wp_eq, xc_eq] at k
  unfold Aq at k
  unfold Hw
  rw [handle, hc]
  exact k
theorem call_w {np : Nat} (hn : ds.length = np) (he : E0N n ds δ) (k : Wp G s δ (Rq R)) : R (callD G (.fn np n s) ds) := by
  rw [wp_eq, xc_eq] at k
  unfold E0N at he; subst he
  unfold Rq at k
  rw [callD, if_pos hn]
  exact k
end
end Ev
namespace Ev
open PySem L2
/-! ## Operators, with what they ask -/
section
variable {i j : Int} {n m k : Nat} {G : Gam} {o o1 o2 : Bool}
theorem p_mul (hi : Sm n i) (hj : Sm m j) (h : n + m ≤ 134217728) : xb .mul (.int i) (.int j) = .ok (.int (i * j)) := o_mul (mulOk_of hi hj h)
theorem p_fdiv (h : 0 < j) (hs : Sm n j) (hn : n ≤ 9000) : xb .fdiv (.int i) (.int j) = .ok (.int (i / j)) := o_fdivS h hs hn
theorem p_shlN (hi : Sm m i) (hm : m ≤ 1000000) (h : n ≤ 1000000) : xb .shl (.int i) (.int (n : Int)) = .ok (.int (i * 2 ^ n)) := o_shlS hi hm h
/-- powers: of digits -/
theorem p_pow {a : Nat} {e : Nat} (h : e ≤ 1000000) (h2 : a < 2 ^ 64) : xb .pow (.int (OfNat.ofNat a)) (.int (OfNat.ofNat e)) = .ok (.int ((OfNat.ofNat a : Int) ^ e)) := by
  rw [xb]; exact b_powN h h2
theorem p_shlL (hi : Sm m i) (hm : m ≤ 1000000) (h : n ≤ 1000000) : xb .shl (.int i) (.int (OfNat.ofNat n)) = .ok (.int (i * 2 ^ n)) := o_shlS hi hm h
theorem p_shrL : xb .shr (.int i) (.int (OfNat.ofNat n)) = .ok (.int (i / 2 ^ n)) := o_shr
theorem sm_lpow {a e : Nat} (h : a ^ e < 2 ^ k) : Sm k ((OfNat.ofNat a : Int) ^ e) := sm_pow (b := a) h
theorem pos_lpow {a e : Nat} (h : 0 < a) : (0 : Int) < (OfNat.ofNat a : Int) ^ e := Int.pow_pos (show (0 : Int) < (a : Int) by omega)
theorem sm_int {x : Int} (h : x.natAbs < 2 ^ 64) : Sm 64 x := h
theorem sm_int2 {x : Int} (h : x.natAbs < 2 ^ 220) : Sm 220 x := h
theorem sm_nat {x : Nat} (h : x ≤ 1000000) : Sm 20 ((x : Nat) : Int) := by
  unfold Sm
  rw [Int.natAbs_natCast]
  have : (2 : Nat) ^ 20 = 1048576 := by decide
  omega
theorem sm_p2 {n k : Nat} (h : n < k) : Sm k ((2 : Int) ^ n) := sm_pow (b := 2) (Nat.pow_lt_pow_right (by decide) h)
theorem sm_max {x y : Int} (hx : Sm n x) (hy : Sm m y) : Sm (max n m) (max x y) := by
  have h1 := hx.up (Nat.le_max_left n m)
  have h2 := hy.up (Nat.le_max_right n m)
  rcases Int.le_total x y with h | h
  · rw [Int.max_eq_right h]; exact h2
  · rw [Int.max_eq_left h]; exact h1
theorem sm_min {x y : Int} (hx : Sm n x) (hy : Sm m y) : Sm (max n m) (min x y) := by
  have h1 := hx.up (Nat.le_max_left n m)
  have h2 := hy.up (Nat.le_max_right n m)
  rcases Int.le_total x y with h | h
  · rw [Int.min_eq_left h]; exact h1
  · rw [Int.min_eq_right h]; exact h2
theorem sm_neg {x : Int} (hx : Sm n x) : Sm n (-x) := by
  unfold Sm at *
  rw [Int.natAbs_neg]; exact hx
theorem b_max : xL G .max [.int i, .int j] = .ok (.int (max i j)) := by rw [xL_eq]; exact rfl
theorem b_min : xL G .min [.int i, .int j] = .ok (.int (min i j)) := by rw [xL_eq]; exact rfl
theorem b_lenM {α : Type} {f : α → D} {xs : List α} : xL G .len [.lst o (xs.map f)] = .ok (.int (xs.length : Nat)) := by
  rw [xL_eq]
  rw [bltF, lenF, List.length_map]
theorem b_lenS {ns : List Int} : xL G .len [.scr ns] = .ok (.int (ns.length : Nat)) := by rw [xL_eq]; exact rfl
theorem b_sorted {xs : List Int} : xL G .sorted [.lst o (xs.map .int)] = .ok (.lst true ((sortI xs).map .int)) := by
  rw [xL_eq]
  show sortedF [.lst o (xs.map .int)] = _
  rw [sortedF, ints_of]
theorem b_list {ds ds' : List D} (h : Shds ds ds') : xL G .list [.lst o ds] = .ok (.lst true ds') := by
  rw [xL_eq]
  show listF [.lst o ds] = _
  rw [listF, h.eq]
theorem b_listrevM {α : Type} {f g : α → D} {xs : List α} (h : Shds (xs.map f) (xs.map g)) : xL G .listrev [.lst o (xs.map f)] = .ok (.lst true (xs.reverse.map g)) := by
  rw [xL_eq]
  show listrevF [.lst o (xs.map f)] = _
  rw [listrevF, h.eq, List.map_reverse]
theorem b_listT {ds ds' : List D} (h : Shds ds ds') : xL G .list [.tup ds] = .ok (.lst true ds') := by
  rw [xL_eq]
  show listF [.tup ds] = _
  rw [listF, h.eq]
theorem b_sum {xs : List Int} : xL G .sum [.lst o (xs.map .int)] = .ok (.int xs.sum) := by rw [xL_eq]; exact sum_ints
theorem bls_of : ∀ xs : List Bool, blsOf (xs.map .bl) = some xs
  | [] => rfl
  | x :: r => by rw [List.map_cons, blsOf, bls_of r]; rfl
theorem b_all {xs : List Bool} : xL G .all [.lst o (xs.map .bl)] = .ok (.bl (xs.all id)) := by
  rw [xL_eq]
  show allF [.lst o (xs.map .bl)] = _
  rw [allF, bls_of]
theorem b_intB {b : Bool} : xL G .int [.bl b] = .ok (.int (if b then 1 else 0)) := by rw [xL_eq]; exact rfl
theorem b_intT : xL G .int [.bl true] = .ok (.int 1) := by rw [xL_eq]; rfl
theorem b_intF : xL G .int [.bl false] = .ok (.int 0) := by rw [xL_eq]; rfl
theorem b_intI : xL G .int [.int i] = .ok (.int i) := by rw [xL_eq]; exact rfl
theorem b_abs : xL G .abs [.int i] = .ok (.int (if i < 0 then -i else i)) := by rw [xL_eq]; exact rfl
theorem b_str (h : Sm n i) (hn : n ≤ 1919) : xL G .str [.int i] = .ok (.str (toString i)) := by rw [xL_eq]; exact o_strS h hn
/-- a list of typed things at a place -/
theorem i_map {α : Type} {f : α → D} {xs : List α} {x : α} {d : D} (h : xs[k]? = some x) (s : Shd (f x) d) : xX (.lst o (xs.map f)) (.int (k : Int)) = .ok d := by
  rw [xX_eq]
  rw [idxF, atI_nat, List.getElem?_map, h, ← s.eq]
  rfl
theorem i_mapI {α : Type} {f : α → D} {xs : List α} {x : α} {d : D} (h : atI xs i = some x) (s : Shd (f x) d) : xX (.lst o (xs.map f)) (.int i) = .ok d := by
  rw [xX_eq]
  rw [idxF, atI_map, h, ← s.eq]
  rfl
theorem i_scr {ns : List Int} {x : Int} (h : ns[k]? = some x) : xX (.scr ns) (.int (k : Int)) = .ok (.int x) := by
  rw [xX_eq]
  rw [idxF, atI_nat, h]
theorem i_mapL {α : Type} {f : α → D} {xs : List α} {x : α} {d : D} (h : xs[k]? = some x) (s : Shd (f x) d) : xX (.lst o (xs.map f)) (.int (OfNat.ofNat k)) = .ok d := i_map h s
theorem i_lstL {xs : List D} {x d : D} (h : xs[k]? = some x) (s : Shd x d) : xX (.lst o xs) (.int (OfNat.ofNat k)) = .ok d := by
  rw [xX_eq]
  show idxF (.lst o xs) (.int ((k : Nat) : Int)) = .ok d
  rw [idxF, atI_nat, h, ← s.eq]
theorem i_tupL {xs : List D} {x d : D} (h : xs[k]? = some x) (s : Shd x d) : xX (.tup xs) (.int (OfNat.ofNat k)) = .ok d := by
  rw [xX_eq]
  show idxF (.tup xs) (.int ((k : Nat) : Int)) = .ok d
  rw [idxF, atI_nat, h, ← s.eq]
theorem i_scrL {ns : List Int} {x : Int} (h : ns[k]? = some x) : xX (.scr ns) (.int (OfNat.ofNat k)) = .ok (.int x) := i_scr h
theorem shape_tup {xs : List PyData} (h : PyData.canLayAll0 xs = true) (d : PyData.depthAll xs ≤ 60) : SeqAt.shaped (.tuple xs) = true := by
  unfold SeqAt.shaped
  rw [PyData.canLay0, h, Bool.true_and, decide_eq_true_eq, PyData.depth]
  omega
/-- slices -/
theorem s_map {α : Type} {f g : α → D} {xs : List α} {l h : Option Int} (s : Shds (xs.map f) (xs.map g)) : xS (.lst o (xs.map f)) l h = .ok (.lst true ((cutD xs l h).map g)) := by
  rw [xS_eq]
  show Res.ok (D.lst true (cutD (shares (xs.map f)) l h)) = _
  rw [s.eq]
  unfold cutD
  rw [List.length_map, List.map_take, List.map_drop]
theorem s_scr {ns : List Int} {l h : Option Int} : xS (.scr ns) l h = .ok (.lst true ((cutD ns l h).map .int)) := by rw [xS_eq]; exact rfl
theorem s_str {z : Str} {l h : Option Int} (hl : z.length ≤ lineN) : xS (.str z) l h = .ok (.str (L2.cutS z l h)) := by
  rw [xS_eq]
  show (if z.length ≤ lineN then Res.ok (D.str (L2.cutS z l h)) else .st) = _
  rw [if_pos hl]
/-! ## Dicts, and pairs in order -/
theorem pairs_of : ∀ ps : List (Int × Int), pairsOf (ps.map pairD) = some ps
  | [] => rfl
  | p :: r => by rw [List.map_cons, pairD, pairsOf, pairs_of r]; rfl
theorem b_dnew : xL G .dnew [] = .ok (.dct true []) := by rw [xL_eq]; rfl
theorem b_dget {kvs : List (Int × Int)} {k v : Int} (h : valD kvs k = some v) : xL G .dget [.dct o kvs, .int k] = .ok (.int v) := by
  rw [xL_eq]
  show dgetF [.dct o kvs, .int k] = _
  rw [dgetF, h]
theorem b_dict {ps : List (Int × Int)} : xL G .dict [.lst o (ps.map pairD)] = .ok (.dct true (mergeD [] ps)) := by
  rw [xL_eq]
  show dictF [.lst o (ps.map pairD)] = _
  rw [dictF, pairs_of]
theorem b_sortd {kvs : List (Int × Int)} (h : kvs.length < 64) : xL G .sortd [.dct o kvs] = .ok (.lst true ((sortI (kvs.map (·.1))).map .int)) := by
  rw [xL_eq]
  show sortdF [.dct o kvs] = _
  rw [sortdF, if_pos h]
theorem strs_of : ∀ ys : List Str, strsOf (ys.map D.str) = some ys
  | [] => rfl
  | y :: r => by rw [List.map_cons, strsOf, strs_of r]; rfl
theorem b_join {a : Str} {ys : List Str} (h : (ys.map (·.length)).sum + ys.length * a.length ≤ lineN) : xL G .join [.str a, .lst o (ys.map .str)] = .ok (.str (Txt.join a ys)) := by
  rw [xL_eq]
  show joinF [.str a, .lst o (ys.map .str)] = _
  rw [joinF, strs_of]
  dsimp only
  rw [if_pos h]
theorem b_split {a b : Str} (hb : (b.length == 0) = false) (h : a.length + 2 ≤ lineN) : xL G .split [.str a, .str b] = .ok (.lst true ((Txt.split a b).map .str)) := by
  rw [xL_eq]
  show splitF [.str a, .str b] = _
  rw [splitF, if_pos ⟨hb, h⟩]
theorem b_part {a b : Str} (hb : (b.length == 0) = false) (h : a.length ≤ lineN) : xL G .part [.str a, .str b] = .ok (.tup [.str (Txt.partition a b).1, .str (Txt.partition a b).2.1, .str (Txt.partition a b).2.2]) := by
  rw [xL_eq]
  show partF [.str a, .str b] = _
  rw [partF, if_pos ⟨hb, h⟩]
theorem b_sortp {ps : List (Int × Int)} : xL G .sortp [.lst o (ps.map pairD)] = .ok (.lst true ((sortP ps).map pairD)) := by
  rw [xL_eq]
  show sortpF [.lst o (ps.map pairD)] = _
  rw [sortpF, pairs_of]
/-- lists put together -/
theorem c_lst {xs ys xs' ys' : List D} (s1 : Shds xs xs') (s2 : Shds ys ys') (h : xs.length + ys.length ≤ lineN) : xb .add (.lst o1 xs) (.lst o2 ys) = .ok (.lst true (xs' ++ ys')) := by rw [o_cat h, s1.eq, s2.eq]
theorem c_map {α : Type} {f g : α → D} {xs ys : List α} (s1 : ∀ x, Shd (f x) (g x)) (h : xs.length + ys.length ≤ lineN) : xb .add (.lst o1 (xs.map f)) (.lst o2 (ys.map f)) = .ok (.lst true ((xs ++ ys).map g)) := by
  rw [List.map_append]
  exact c_lst (shds_map f g xs) (shds_map f g ys) (by rw [List.length_map, List.length_map]; exact h)
/-- what is walked -/
theorem it_seq {ds ds' : List D} (s : Shds ds ds') : xI .seq [.lst o ds] = .ok ds' := by
  rw [xI_eq]
  show seqF [.lst o ds] = _
  rw [seqF, s.eq]
theorem it_seqT {ds ds' : List D} (s : Shds ds ds') : xI .seq [.tup ds] = .ok ds' := by
  rw [xI_eq]
  show seqF [.tup ds] = _
  rw [seqF, s.eq]
theorem it_scr {ns : List Int} : xI .seq [.scr ns] = .ok (ns.map .int) := by rw [xI_eq]; exact rfl
theorem it_rng {n : Nat} (h : n < 2 ^ 62) : xI .rng1 [.int (n : Int)] = .ok ((List.range n).map fun (k : Nat) => D.int (k : Int)) := by
  rw [xI_eq]
  rw [rng1_ok h]
  unfold rngD
  congr 1
  refine List.map_congr_left fun k _ => ?_
  congr 1
  omega
theorem it_rng2 {a b : Int} (ha : -1000 ≤ a ∧ a ≤ 1000) (hb : -1000 ≤ b ∧ b < 2 ^ 62) : xI .rng2 [.int a, .int b] = .ok ((List.range (b - a).toNat).map fun (k : Nat) => D.int (a + (k : Int))) := by
  have e1 : rngOk a = true := by unfold rngOk; simp; omega
  have e2 : rngOk b = true := by unfold rngOk; simp; omega
  rw [xI_eq]
  show rng2F [.int a, .int b] = _
  rw [rng2F, e1, e2, if_pos (by rfl)]
  unfold rngD
  congr 1
  refine List.map_congr_left fun k _ => ?_
  congr 1
  omega
/-- 0, c, 2 c … below b -/
theorem it_rng3 {b c : Nat} (hb : b ≤ 1000) (hc : 0 < c ∧ c ≤ 1000) : xI .rng3 [.int 0, .int (b : Int), .int (c : Int)] = .ok ((List.range ((b + c - 1) / c)).map fun (k : Nat) => D.int ((c * k : Nat) : Int)) := by
  have e1 : rng3Ok 0 b c = true := by
    unfold rng3Ok Builtin.Range.small Builtin.Range.rangeFitsLong
    have e0 : Builtin.Range.rangeSize 0 b c ≤ b := by
      unfold Builtin.Range.rangeSize
      rw [if_pos (by omega)]
      split
      · have := Int.ediv_le_self (a := (b : Int) - 0 - 1) (c : Int) (by omega)
        omega
      · omega
    have e2 := rngSize_nn 0 b c (by omega)
    have p63 : (2 : Int) ^ 63 = 9223372036854775808 := by decide
    rw [p63]
    have b0 : (0 : Int) ≤ (b : Int) := by omega
    generalize Builtin.Range.rangeSize 0 b c = r at *
    have h1 : decide ((c : Int) ≠ 0) = true := decide_eq_true (by omega)
    have h2 : decide ((c : Int).natAbs < 1073741824) = true := decide_eq_true (by omega)
    have i1 : (decide (-(9223372036854775808 : Int) ≤ 0) && decide ((0 : Int) < 9223372036854775808)) = true := by decide
    have i2 : ∀ x : Int, 0 ≤ x → x ≤ 2000 → (decide (-(9223372036854775808 : Int) ≤ x) && decide (x < 9223372036854775808)) = true := fun x h h' => by
      rw [Bool.and_eq_true]; exact ⟨decide_eq_true (by omega), decide_eq_true (by omega)⟩
    rw [h1, h2, i1, i2 _ b0 (by omega), i2 (c : Int) (by omega) (by omega), i2 r e2 (by omega), if_pos (show (c : Int) > 0 by omega), i2 ((b : Int) + ((c : Int) - 1)) (by omega) (by omega), Bool.or_true]
    rfl
  rw [xI_eq]
  show rng3F [.int 0, .int (b : Int), .int (c : Int)] = _
  rw [rng3F, e1, if_pos rfl]
  unfold rngD
  have n : (Builtin.Range.rangeSize 0 b c).toNat = (b + c - 1) / c := by
    unfold Builtin.Range.rangeSize
    rw [if_pos (by omega)]
    split
    · rename_i h
      have e : ((b : Int) - 0 - 1) = ((b - 1 : Nat) : Int) := by omega
      rw [e, ← Int.natCast_ediv]
      have : (b + c - 1) / c = (b - 1) / c + 1 := by
        rw [show b + c - 1 = (b - 1) + c by omega, Nat.add_div_right _ hc.1]
      rw [this]
      generalize (b - 1) / c = q
      omega
    · have : b = 0 := by omega
      subst this
      rw [Nat.zero_add, Nat.div_eq_of_lt (by omega)]
      rfl
  rw [n]
  congr 1
  refine List.map_congr_left fun k _ => ?_
  congr 1
  rw [Int.zero_add, Int.mul_comm, Int.natCast_mul]
theorem it_enum {α : Type} {f g : α → D} {xs : List α} (s : Shds (xs.map f) (xs.map g)) : xI .enum [.lst o (xs.map f)] = .ok (xs.zipIdx.map fun p => .tup [.int (p.2 : Nat), g p.1]) := by
  rw [xI_eq]
  show enumF [.lst o (xs.map f)] = _
  rw [enumF, s.eq, List.zipIdx_map, List.map_map]
  rfl
theorem it_zip {α β : Type} {f f' : α → D} {g g' : β → D} {xs : List α} {ys : List β} (s : Shds (xs.map f) (xs.map f')) (s2 : Shds (ys.map g) (ys.map g')) : xI .zip [.lst o1 (xs.map f), .lst o2 (ys.map g)] = .ok ((xs.zip ys).map fun p => .tup [f' p.1, g' p.2]) := by
  rw [xI_eq]
  show zipF [.lst o1 (xs.map f), .lst o2 (ys.map g)] = _
  rw [zipF, s.eq, s2.eq]
  congr 1
  rw [List.zip_map, List.map_map]
  rfl
/-- texts -/
@[irreducible] def SLen (n : Nat) (s : Str) : Prop := s.length ≤ n
theorem sl_le {s : Str} (h : s.length ≤ n) : SLen n s := by unfold SLen; exact h
theorem sl_out {s : Str} (h : SLen n s) : s.length ≤ n := by unfold SLen at h; exact h
theorem sl_int (h : Sm n i) (hn : n ≤ 1919) : SLen 1921 (toString i) := sl_le (PyProof.Rows.int_text_len_1921 (by
  by_cases z : i.natAbs = 0
  · rw [z]; decide
  · have := (Nat.log2_lt z).mpr (h.up hn)
    omega))
theorem sl_app {a b : Str} (ha : SLen n a) (hb : SLen m b) : SLen (n + m) (a ++ b) := by
  unfold SLen at *
  rw [PySem.Str.length_append]; omega
theorem p_cat {a b : Str} (ha : SLen n a) (hb : SLen m b) (h : n + m ≤ lineN) : xb .add (.str a) (.str b) = .ok (.str (a ++ b)) := o_catS (by
  unfold SLen at *; omega)
/-- x in a list of whole numbers -/
theorem flat_ints : ∀ xs : List Int, (xs.map D.int).all flatD = true
  | [] => rfl
  | x :: r => by rw [List.map_cons, List.all_cons, flat_ints r]; rfl
theorem any_ints (x : Int) : ∀ xs : List Int, ((xs.map D.int).any fun y => eqD y (.int x)) = xs.contains x
  | [] => rfl
  | y :: r => by
    rw [List.map_cons, List.any_cons, any_ints x r, List.contains_cons]
    congr 1
    show (y == x) = (x == y)
    by_cases e : y = x
    · rw [e]
    · rw [beq_eq_false_iff_ne.mpr e, beq_eq_false_iff_ne.mpr (fun z => e z.symm)]
theorem in_ints {x : Int} {xs : List Int} : xp .in_ (.int x) (.lst o (xs.map .int)) = .ok (xs.contains x) := by
  rw [xp]
  show inF true (.int x) (xs.map .int) = _
  rw [inF, flat_ints, if_pos (show (flatD (.int x) && true) = true from rfl), any_ints]
theorem nin_ints {x : Int} {xs : List Int} : xp .nin (.int x) (.lst o (xs.map .int)) = .ok (!xs.contains x) := by
  rw [xp]
  show (inF true (.int x) (xs.map .int)).bind _ = _
  rw [inF, flat_ints, if_pos (show (flatD (.int x) && true) = true from rfl), any_ints]
  rfl
/-- is there anything in it -/
theorem eq_nil {α : Type} {f : α → D} {xs : List α} (h : ∀ x, toPy (f x) ≠ none) (hs : ∀ ps, toPys (xs.map f) = some ps → SeqAt.shaped (.list ps) = true) : xp .eq (.lst o1 (xs.map f)) (.lst o2 []) = .ok xs.isEmpty := by
  obtain ⟨ps, hp⟩ : ∃ ps, toPys (xs.map f) = some ps := by
    clear hs
    induction xs with
    | nil => exact ⟨[], rfl⟩
    | cons x r ih =>
      obtain ⟨ps, hp⟩ := ih
      cases e : toPy (f x) with
      | none => exact (h x e).elim
      | some p => exact ⟨p :: ps, by rw [List.map_cons, toPys, e, hp]⟩
  rw [xp, cmpF, eqF_ll hp (by rfl) (hs ps hp) (by decide)]
  cases xs with
  | nil => cases hp; rfl
  | cons x r =>
    rw [List.map_cons, toPys] at hp
    split at hp
    · cases hp; rfl
    · cases hp
/-- things that hold instances: such a list is only asked whether it is empty -/
class NoPy {α : Type} (f : α → D) : Prop where
  no : ∀ x, toPy (f x) = none
theorem eq_nilO {α : Type} {f : α → D} {xs : List α} [h : NoPy f] : xp .eq (.lst o1 (xs.map f)) (.lst o2 []) = .ok xs.isEmpty := by
  rw [xp]
  cases xs with
  | nil =>
    show eqF (.lst o1 []) (.lst o2 []) = _
    rw [eqF_ll (ps := []) (qs := []) rfl rfl (by decide) (by decide)]; rfl
  | cons x r =>
    have e : toPys (f x :: r.map f) = none := by rw [toPys, h.no x]
    have e2 : toPy (.lst o1 (f x :: r.map f)) = none := by rw [toPy, e]; rfl
    show eqF (.lst o1 (f x :: r.map f)) (.lst o2 []) = _
    unfold eqF
    simp only [e2]
    rfl
theorem ne_nilO {α : Type} {f : α → D} {xs : List α} [h : NoPy f] : xp .ne (.lst o1 (xs.map f)) (.lst o2 []) = .ok (!xs.isEmpty) := by
  have := eq_nilO (o1 := o1) (o2 := o2) (f := f) (xs := xs)
  rw [xp, cmpF] at this
  rw [xp, cmpF, this]
  rfl
/-- things that are data -/
class PyOk {α : Type} (f : α → D) : Prop where
  ok : ∀ x, ∃ p, toPy (f x) = some p ∧ PyData.canLay0 p = true ∧ PyData.depth p ≤ 50
theorem pyok_all {α : Type} {f : α → D} [h : PyOk f] : ∀ xs : List α, ∃ ps, toPys (xs.map f) = some ps ∧ PyData.canLayAll0 ps = true ∧ PyData.depthAll ps ≤ 51 ∧ ps.length = xs.length
  | [] => ⟨[], rfl, rfl, by simp [PyData.depthAll], rfl⟩
  | x :: r => by
    obtain ⟨p, e, c, d⟩ := h.ok x
    obtain ⟨ps, e2, c2, d2, l⟩ := pyok_all (f := f) r
    refine ⟨p :: ps, by rw [List.map_cons, toPys, e, e2], by rw [PyData.canLayAll0, c, c2]; rfl, ?_, by simp [l]⟩
    simp only [PyData.depthAll]
    omega
theorem eq_nilP {α : Type} {f : α → D} {xs : List α} [h : PyOk f] : xp .eq (.lst o1 (xs.map f)) (.lst o2 []) = .ok xs.isEmpty := by
  obtain ⟨ps, e, c, d, l⟩ := pyok_all (f := f) xs
  rw [xp, cmpF, eqF_ll e (by rfl) (shape_list c (by omega)) (by decide)]
  cases xs with
  | nil => cases ps with | nil => rfl | cons p r => simp at l
  | cons x r => cases ps with | nil => simp at l | cons p r => rfl
theorem ne_nilP {α : Type} {f : α → D} {xs : List α} [h : PyOk f] : xp .ne (.lst o1 (xs.map f)) (.lst o2 []) = .ok (!xs.isEmpty) := by
  have := eq_nilP (o1 := o1) (o2 := o2) (f := f) (xs := xs)
  rw [xp, cmpF] at this
  rw [xp, cmpF, this]
  rfl
theorem eq_nilI {xs : List Int} : xp .eq (.lst o1 (xs.map .int)) (.lst o2 []) = .ok xs.isEmpty := by
  have := o_eqI (o1 := o1) (o2 := o2) (xs := xs) (ys := [])
  rw [List.map_nil] at this
  rw [this]
  cases xs <;> rfl
theorem ne_nilI {xs : List Int} : xp .ne (.lst o1 (xs.map .int)) (.lst o2 []) = .ok (!xs.isEmpty) := by
  have := o_neI (o1 := o1) (o2 := o2) (xs := xs) (ys := [])
  rw [List.map_nil] at this
  rw [this]
  cases xs <;> rfl
end
@[irreducible] def Ans (F : Res D) (R : Res D → Prop) : Prop := R F
theorem to_ans {F : Res D} {R : Res D → Prop} (h : Ans F R) : ∀ o, F = o → R o := fun o e => by unfold Ans at h; exact e ▸ h
theorem call_g {G : Gam} {s : S} {np n : Nat} {ds : List D} {δ : Env} {R : Res D → Prop} (hn : ds.length = np) (he : E0N n ds δ) (k : Wp G s δ (Rq R)) : Ans (callD G (.fn np n s) ds) R := by unfold Ans; exact call_w hn he k
/-- what a function of the program answers, from outside -/
@[irreducible] noncomputable def Rk (kn : String → Bool) (R : Res D → Prop) : Out → Prop := fun o => R (chkE kn (outV o))
section
variable {kn : String → Bool} {R : Res D → Prop} {d : D} {δ : Env} {x : String}
theorem k_nx (h : R (.ok .non)) : Rk kn R (.nx δ) := by unfold Rk; exact h
theorem k_rt (h : R (.ok d)) : Rk kn R (.rt d) := by unfold Rk; exact h
theorem k_er (hk : kn x = true) (h : R (.er x)) : Rk kn R (.er x δ) := by
  unfold Rk
  show R (chkE kn (.er x))
  rw [chkE, if_pos hk]
  exact h
theorem call_x {G G1 : Gam} {f : String} {s : S} {np n : Nat} {ds : List D} (hG : ∀ ds, xf G f ds = chkE kn (callD G1 (.fn np n s) ds)) (hn : ds.length = np) (he : E0N n ds δ) (k : Wp G1 s δ (Rk kn R)) : Ans (xf G f ds) R := by
  unfold Ans
  rw [hG]
  unfold Rk at k
  exact call_w (R := fun o => R (chkE kn o)) hn he (by unfold Rq; exact k)
end
theorem xf_of {kn : String → Bool} {G : Gam} {l : List (String × Def)} {f : String} {ds : List D} {o : Res D} (h : cfOf kn G l f ds = o) : xf (withD kn G l) f ds = o := by rw [xf_eq]; exact h
theorem cf_here {kn : String → Bool} {G : Gam} {r : List (String × Def)} {f : String} {d : Def} {ds : List D} : cfOf kn G ((f, d) :: r) f ds = chkE kn (callD (withD kn G r) d ds) := by
  rw [cfOf, if_pos rfl]; rfl
theorem cf_skip {kn : String → Bool} {G : Gam} {r : List (String × Def)} {f n : String} {d : Def} {ds : List D} {o : Res D} (h : decide (f = n) = false) (q : cfOf kn G r f ds = o) : cfOf kn G ((n, d) :: r) f ds = o := by
  rw [cfOf, if_neg (of_decide_eq_false h)]; exact q
theorem idx4 {o : Bool} {a b c d k : Int} (h0 : 0 ≤ k) (h3 : k < 4) : ∃ x, (k = 0 ∧ x = a ∨ k = 1 ∧ x = b ∨ k = 2 ∧ x = c ∨ k = 3 ∧ x = d) ∧ idxF (.lst o [.int a, .int b, .int c, .int d]) (.int k) = .ok (.int x) := by
  have : k = 0 ∨ k = 1 ∨ k = 2 ∨ k = 3 := by omega
  rcases this with h | h | h | h <;> subst h
  · exact ⟨a, by simp, rfl⟩
  · exact ⟨b, by simp, rfl⟩
  · exact ⟨c, by simp, rfl⟩
  · exact ⟨d, by simp, rfl⟩
theorem o_isb {a b : Bool} : xp .is (.bl a) (.bl b) = .ok (a == b) := by rw [xp]; rfl
theorem o_nisb {a b : Bool} : xp .nis (.bl a) (.bl b) = .ok (!(a == b)) := by rw [xp]; rfl
theorem v_nisF {G : Gam} {ρ : Env} {a b : E} (h : xv G ρ a = .ok .non) : xv G ρ (.and (.cmp .nis a .non) b) = .ok (.bl false) := ok_andF (ok_cmp h ok_non o_nisn)
/-! ## Tuples and lists put together of what names give away -/
@[irreducible] def xMs (G : Gam) (δ : Env) (m : M) : Res (List D × Env) := evMs G δ m
section
variable {G : Gam} {δ δ1 δ2 : Env} {a as : M} {d : D} {ds : List D}
theorem ks_nil : xMs G δ .nil = .ok ([], δ) := by rw [xMs, evMs]
theorem ks_cons (h : xM G δ a = .ok (d, δ1)) (q : xMs G δ1 as = .ok (ds, δ2)) : xMs G δ (.cons a as) = .ok (d :: ds, δ2) := by
  rw [xM_eq] at h
  rw [xMs] at *
  rw [evMs, h, Res.bind, q, Res.bind]
theorem k_tp (h : xMs G δ as = .ok (ds, δ1)) (hl : ds.length ≤ lineN) : xM G δ (.tp as) = .ok (.tup ds, δ1) := by
  rw [xMs] at h
  rw [xM_eq, evM, h, Res.bind, if_pos hl]
theorem k_ls (h : xMs G δ as = .ok (ds, δ1)) (hl : ds.length ≤ lineN) : xM G δ (.ls as) = .ok (.lst true ds, δ1) := by
  rw [xMs] at h
  rw [xM_eq, evM, h, Res.bind, if_pos hl]
end
/-! ## Things known by where they stand -/
@[irreducible] def Eo (o0 o : Out) : Prop := o = o0
theorem eo {o : Out} : Eo o o := by unfold Eo; rfl
section
variable {G : Gam} {ρ δ δ1 : Env} {d d' : D} {ds ds' : List D} {as : List Addr} {i : Nat} {o o1 o2 : Bool} {Q : Out → Prop} {s : S}
theorem v_unt (h : GetN ρ i (some d)) (hu : untag d = d') : xv G ρ (.unt i) = .ok d' := by
  unfold GetN at h
  rw [xv_eq, ev, h, ← hu]
theorem w_untg (h : GetN δ i (some d)) (hu : untag d = d') (hs : SetN δ i (some d') δ1) (k : Q (.nx δ1)) : Wp G (.untg i) δ Q := w_of (o := .nx δ1) (by
  unfold GetN at h
  unfold SetN at hs
  rw [xc_eq, exec, h]
  simp only
  rw [hu, hs]) k
theorem w_tag {o0 : Out} (hg : GetN δ i (some (.lst o ds))) (hr : ds.all refT = true) (h : ∀ as, as.length = ds.length → ∃ δ1, SetN δ i (some (.lst o (tagL as ds))) δ1 ∧ Wp G s δ1 (Eo o0)) (k : Q o0) : Wp G (.tag i s) δ Q := w_of (o := o0) (by
  unfold GetN at hg
  rw [xc_eq, exec, hg]
  simp only
  rw [if_pos hr]
  refine uni_ok fun as l => ?_
  obtain ⟨δ1, h1, h2⟩ := h as l
  unfold SetN at h1
  subst h1
  rw [wp_eq, xc_eq] at h2
  unfold Eo at h2
  exact h2) k
theorem tag_len (l : as.length = ds.length) : (tagL as ds).length = ds.length := by
  unfold tagL
  rw [List.length_zipWith, l, Nat.min_self]
theorem tag_shares : ∀ {as : List Addr} {ds : List D}, shares (tagL as ds) = tagL as (shares ds)
  | [], ds => by simp [tagL, shares]
  | _ :: _, [] => by simp [tagL, shares]
  | a :: as, d :: ds => by
    show share (.at a d) :: shares (tagL as ds) = D.at a (share d) :: tagL as (shares ds)
    rw [tag_shares, share]
instance shds_tag (as : List Addr) (ds ds' : List D) [h : Shds ds ds'] : Shds (tagL as ds) (tagL as ds') := ⟨by rw [tag_shares, h.eq]⟩
theorem tag_nf : ∀ {as : List Addr} {ds : List D}, noFrzs ds = true → noFrzs (tagL as ds) = true
  | [], ds, _ => by simp [tagL, noFrzs]
  | _ :: _, [], _ => by simp [tagL, noFrzs]
  | a :: as, d :: ds, h => by
    simp only [noFrzs, Bool.and_eq_true] at h
    show (noFrz (.at a d) && noFrzs (tagL as ds)) = true
    rw [tag_nf h.2, noFrz, h.1]
    rfl
instance nfs_tag (as : List Addr) (ds : List D) [h : NFs ds] : NFs (tagL as ds) := ⟨tag_nf h.eq⟩
theorem tag_untags : ∀ {as : List Addr} {ds : List D}, as.length = ds.length → untags ds = ds → untags (tagL as ds) = ds
  | [], [], _, _ => rfl
  | a :: as, d :: ds, l, h => by
    rw [untags] at h
    injection h with h1 h2
    show untag (.at a d) :: untags (tagL as ds) = _
    rw [tag_untags (by simpa using l) h2, untag, h1]
theorem unt_map {α : Type} {f : α → D} {xs : List α} (h : ∀ x, untag (f x) = f x) : untags (xs.map f) = xs.map f := by
  induction xs with
  | nil => rfl
  | cons x r ih => rw [List.map_cons, untags, ih, h]
theorem unt_tag (l : as.length = ds.length) (h : untags ds = ds) : untag (.lst o (tagL as ds)) = .lst o ds := by rw [untag, tag_untags l h]
theorem tags_tag : ∀ {as : List Addr} {ds : List D}, as.length = ds.length → tagsOf (tagL as ds) = some as
  | [], [], _ => rfl
  | a :: as, d :: ds, l => by
    show tagsOf (.at a d :: tagL as ds) = _
    rw [tagsOf, tags_tag (by simpa using l)]
    rfl
/-- two lists of the same things -/
theorem eq_tag (l : as.length = ds.length) (l' : as.length = ds'.length) : xp .eq (.lst o1 (tagL as ds)) (.lst o2 (tagL as ds')) = .ok true := by
  rw [xp]
  cases as with
  | nil =>
    cases ds with
    | cons d r => simp at l
    | nil =>
      cases ds' with
      | cons d r => simp at l'
      | nil =>
        show eqF (.lst o1 []) (.lst o2 []) = _
        rw [eqF_ll (ps := []) (qs := []) rfl rfl (by decide) (by decide)]; rfl
  | cons a r =>
    have e1 := tags_tag l
    have e2 := tags_tag l'
    have l1 := tag_len l
    have l2 := tag_len l'
    cases ds with
    | nil => simp at l
    | cons d q =>
      show (match toPy (.lst o1 (tagL (a :: r) (d :: q))), toPy (.lst o2 (tagL (a :: r) ds')) with
        | some p, some q => if SeqAt.shaped p && SeqAt.shaped q then Res.ok (PyData.eqv p q) else .st
        | _, _ => eqL (.lst o1 (tagL (a :: r) (d :: q))) (.lst o2 (tagL (a :: r) ds'))) = _
      have n : toPy (.lst o1 (tagL (a :: r) (d :: q))) = none := by
        rw [toPy]
        show (toPys (D.at a d :: tagL r q)).map _ = _
        rw [toPys, show toPy (D.at a d) = none by rw [toPy] <;> (intros; contradiction)]
        rfl
      rw [n]
      show eqL _ _ = _
      rw [eqL, if_pos (by rw [l1, l2]; omega), if_neg (by rw [l1]; simp), e1, e2]
      simp
theorem ne_tag (l : as.length = ds.length) (l' : as.length = ds'.length) : xp .ne (.lst o1 (tagL as ds)) (.lst o2 (tagL as ds')) = .ok false := by
  have := eq_tag (o1 := o1) (o2 := o2) l l'
  rw [xp, cmpF] at this
  rw [xp, cmpF, this]
  rfl
/-- one of them -/
theorem i_tag {k : Nat} {a : Addr} (ha : as[k]? = some a) (hd : ds[k]? = some d) (h : Shd d d') : xX (.lst o (tagL as ds)) (.int (k : Int)) = .ok (.at a d') := by
  rw [xX_eq]
  have e : (tagL as ds)[k]? = some (.at a d) := by
    unfold tagL
    rw [List.getElem?_zipWith, ha, hd]
  rw [idxF, atI_nat, e]
  show Res.ok (share (.at a d)) = _
  rw [share, h.eq]
theorem ne_at {a : Addr} {xs : List D} {e : D} : xp .ne (.at a (.tup xs)) (.at a e) = .ok false := by
  rw [xp, cmpF]
  show ((match toPy (.at a (.tup xs)), toPy (.at a e) with
        | some p, some q => if SeqAt.shaped p && SeqAt.shaped q then Res.ok (PyData.eqv p q) else .st
        | _, _ => eqL (.at a (.tup xs)) (.at a e)).bind fun b => .ok (!b)) = _
  rw [show toPy (.at a (.tup xs)) = none by rw [toPy] <;> (intros; contradiction)]
  show ((eqL (.at a (.tup xs)) (.at a e)).bind fun b => .ok (!b)) = _
  rw [eqL, if_pos ⟨rfl, rfl⟩]
  rfl
end
end Ev
/-! What the program's functions answer, by plain functions over plain data. -/
namespace Lc
open Ev Lb PySem L2
/-! ## Spans -/
inductive Span where
  | half (l : Int) (n : Nat) | opn (l : Int)
  deriving DecidableEq
def Span.enc : Span → D
  | .half l n => Lb.half l n
  | .opn l => Lb.opn l
instance shd_span (s : Span) : Shd s.enc s.enc := ⟨by cases s <;> rfl⟩
instance nf_span (s : Span) : NF s.enc := ⟨by cases s <;> rfl⟩
def Span.Ok : Span → Prop
  | .half l n => 0 ≤ l ∧ l % 2 ^ n = 0 ∧ n ≤ 1000 ∧ Sm 1900 l
  | .opn l => IsOp l
/-- halves alone -/
def Span.OkH (s : Span) : Prop := s.Ok ∧ ∃ l n, s = .half l n
def Span.low : Span → Int
  | .half l _ => l
  | .opn l => l
def Span.holds : Span → Int → Bool
  | .half l n, z => decide (l ≤ z) && decide (z < l + 2 ^ n)
  | .opn l, z => decide (l ≤ z)
def Span.lower : Span → Span
  | .half l n => .half l (n - 1)
  | .opn l => if l = 0 then .half 0 0 else .half l l.natAbs.log2
def Span.upper : Span → Span
  | .half l n => .half (l + 2 ^ (n - 1)) (n - 1)
  | .opn l => if l = 0 then .opn 1 else .opn (2 * l)
def Span.shown : Span → PySem.Str
  | .half l n => shownH l n
  | .opn l => shownO l
def Span.rank : Span → Nat
  | .half _ n => n
  | .opn l => if l = 0 then 2001 else 2000 - l.natAbs.log2
theorem log2_pow (n : Nat) : ((2 : Int) ^ n).natAbs.log2 = n := by
  rw [Int.natAbs_pow]
  exact Nat.log2_two_pow
theorem pow_ne (n : Nat) : (2 : Int) ^ n ≠ 0 := by have := pow_i n; omega
theorem IsOp.sm {l : Int} (h : IsOp l) : Sm 1900 l := by
  rcases h with h | ⟨n, hn, h⟩
  · subst h; exact sm_lit (by decide)
  · subst h; exact (sm_p2 (n := n) (k := 1001) (by omega)).up (by decide)
theorem Span.Ok.sm {s : Span} (h : s.Ok) : Sm 1900 s.low := by
  cases s with
  | half l n => exact h.2.2.2
  | opn l => exact IsOp.sm h
theorem Span.Ok.nn {s : Span} (h : s.Ok) : 0 ≤ s.low := by
  cases s with
  | half l n => exact h.1
  | opn l => exact IsOp.nn h
/-- what has halves -/
def Span.Two : Span → Prop
  | .half _ n => 0 < n
  | .opn l => l < 2 ^ 1000
theorem pow_inj {a b : Nat} (h : (2 : Int) ^ a < 2 ^ b) : a < b := by
  rcases Nat.lt_or_ge a b with q | q
  · exact q
  · have := pow_le q; omega
theorem Span.Ok.lower {s : Span} (h : s.Ok) (t : s.Two) : s.lower.Ok := by
  cases s with
  | half l n =>
    obtain ⟨h1, h2, h3, h4⟩ := h
    obtain ⟨m, rfl⟩ : ∃ m, n = m + 1 := ⟨n - 1, by simp only [Span.Two] at t; omega⟩
    exact ⟨h1, (half_mod h2).1, by omega, h4⟩
  | opn l =>
    simp only [Span.lower]
    rcases h with h | ⟨n, hn, h⟩
    · subst h; rw [if_pos rfl]; exact ⟨by decide, by decide, by decide, sm_lit (by decide)⟩
    · subst h
      rw [if_neg (pow_ne n), log2_pow]
      exact ⟨by have := pow_i n; omega, Int.emod_self, hn, (sm_p2 (n := n) (k := 1001) (by omega)).up (by decide)⟩
theorem Span.Ok.upper {s : Span} (h : s.Ok) (t : s.Two) (hs : Sm 1800 s.low) : s.upper.Ok := by
  cases s with
  | half l n =>
    obtain ⟨h1, h2, h3, h4⟩ := h
    obtain ⟨m, rfl⟩ : ∃ m, n = m + 1 := ⟨n - 1, by simp only [Span.Two] at t; omega⟩
    have pm := pow_i m
    exact ⟨by show 0 ≤ l + 2 ^ m; omega, (half_mod h2).2, by omega, by
      show Sm 1900 (l + 2 ^ m)
      exact (sm_add hs ((sm_p2 (n := m) (k := 1001) (by omega)))).up (by decide)⟩
  | opn l =>
    simp only [Span.upper]
    rcases h with h | ⟨n, hn, h⟩
    · subst h; rw [if_pos rfl]; exact .inr ⟨0, by decide, by decide⟩
    · subst h
      rw [if_neg (pow_ne n)]
      have := pow_inj (b := 1000) t
      exact .inr ⟨n + 1, by omega, by rw [Int.pow_succ]; omega⟩
/-! ## What is heard -/
inductive Hd where
  | hush | word (n : Int) | din
  deriving DecidableEq
def Hd.enc : Hd → D
  | .hush => .tup [.str "hush"]
  | .word n => .tup [.str "word", .int n]
  | .din => .tup [.str "din"]
def Hd.tag : Hd → PySem.Str
  | .hush => "hush"
  | .word _ => "word"
  | .din => "din"
instance shd_hd (s : Hd) : Shd s.enc s.enc := ⟨by cases s <;> rfl⟩
instance nf_hd (s : Hd) : NF s.enc := ⟨by cases s <;> rfl⟩
theorem hd_tag (h : Hd) : xX h.enc (.int 0) = .ok (.str h.tag) := by rw [xX_eq]; cases h <;> rfl
theorem hd_num (n : Int) : xX (Hd.word n).enc (.int 1) = .ok (.int n) := by rw [xX_eq]; rfl
theorem eqF_tt {xs ys : List D} {ps qs : List PySem.PyData} (hx : toPys xs = some ps) (hy : toPys ys = some qs) (h1 : SeqAt.shaped (.tuple ps) = true) (h2 : SeqAt.shaped (.tuple qs) = true) : eqF (.tup xs) (.tup ys) = .ok (PySem.PyData.eqvAll ps qs) := by
  show (match toPy (.tup xs), toPy (.tup ys) with
    | some p, some q => if SeqAt.shaped p && SeqAt.shaped q then Res.ok (PySem.PyData.eqv p q) else .st
    | _, _ => eqL (.tup xs) (.tup ys)) = _
  rw [toPy, toPy, hx, hy]
  simp only [Option.map_some, h1, h2, Bool.and_self, if_true]
  rw [PySem.PyData.eqv]
def Hd.py : Hd → List PySem.PyData
  | .hush => [.str "hush"]
  | .word n => [.str "word", .int n]
  | .din => [.str "din"]
theorem hd_eqv (g h : Hd) : PySem.PyData.eqvAll g.py h.py = decide (g = h) := by
  have e1 : (("hush" : PySem.Str) == "word") = false := by decide
  have e2 : (("hush" : PySem.Str) == "din") = false := by decide
  have e3 : (("word" : PySem.Str) == "hush") = false := by decide
  have e4 : (("word" : PySem.Str) == "din") = false := by decide
  have e5 : (("din" : PySem.Str) == "hush") = false := by decide
  have e6 : (("din" : PySem.Str) == "word") = false := by decide
  cases g <;> cases h <;> simp [Hd.py, PySem.PyData.eqvAll, PySem.PyData.eqv, e1, e2, e3, e4, e5, e6]
  first | rfl | exact Bool.eq_iff_iff.mpr (by simp)
theorem hd_eq (g h : Hd) : xp .eq g.enc h.enc = .ok (decide (g = h)) := by
  have sh : ∀ g : Hd, ∃ ds, g.enc = .tup ds ∧ toPys ds = some g.py ∧ SeqAt.shaped (.tuple g.py) = true := by
    intro g
    cases g
    · exact ⟨_, rfl, rfl, shape_tup (by simp [PyData.canLayAll0, PyData.canLay0, Hd.py]; decide +kernel) (by simp [PyData.depthAll, PyData.depth, Hd.py])⟩
    · exact ⟨_, rfl, rfl, shape_tup (by simp [PyData.canLayAll0, PyData.canLay0, Hd.py]; decide +kernel) (by simp [PyData.depthAll, PyData.depth, Hd.py])⟩
    · exact ⟨_, rfl, rfl, shape_tup (by simp [PyData.canLayAll0, PyData.canLay0, Hd.py]; decide +kernel) (by simp [PyData.depthAll, PyData.depth, Hd.py])⟩
  obtain ⟨ds, e1, e2, e3⟩ := sh g
  obtain ⟨es, f1, f2, f3⟩ := sh h
  rw [xp, cmpF, e1, f1, eqF_tt e2 f2 e3 f3, hd_eqv]
theorem hd_ne (g h : Hd) : xp .ne g.enc h.enc = .ok (!decide (g = h)) := by
  have := hd_eq g h
  rw [xp, cmpF] at this
  rw [xp, cmpF, this]
  rfl
theorem hd_eqDin (g : Hd) : xp .eq g.enc (.tup [.str "din"]) = .ok (decide (g = .din)) := hd_eq g .din
theorem hd_eqHush (g : Hd) : xp .eq g.enc (.tup [.str "hush"]) = .ok (decide (g = .hush)) := hd_eq g .hush
theorem hd_eqWord (g : Hd) (n : Int) : xp .eq g.enc (.tup [.str "word", .int n]) = .ok (decide (g = .word n)) := hd_eq g (.word n)
theorem hd_neDin (g : Hd) : xp .ne g.enc (.tup [.str "din"]) = .ok (!decide (g = .din)) := hd_ne g .din
theorem hd_neHush (g : Hd) : xp .ne g.enc (.tup [.str "hush"]) = .ok (!decide (g = .hush)) := hd_ne g .hush
theorem hd_neWord (g : Hd) (n : Int) : xp .ne g.enc (.tup [.str "word", .int n]) = .ok (!decide (g = .word n)) := hd_ne g (.word n)
def hearL : List Int → Hd
  | [] => .hush
  | [x] => .word x
  | _ => .din
def hearF (hs : List Int) (s : Span) : Hd := hearL (hs.filter s.holds)
/-! ## Rows -/
abbrev Row := Span × Hd
def rowE (r : Row) : D := .tup [r.1.enc, r.2.enc]
instance shd_row (r : Row) : Shd (rowE r) (rowE r) := ⟨by
  show D.tup (shares [r.1.enc, r.2.enc]) = _
  rw [(shds_cons _ _ _ _ (h := shd_span r.1) (q := shds_cons _ _ _ _ (h := shd_hd r.2))).eq]; rfl⟩
instance nf_row (r : Row) : NF (rowE r) := ⟨(nf_tup [r.1.enc, r.2.enc]).eq⟩
theorem row_0 (r : Row) : xX (rowE r) (.int 0) = .ok r.1.enc := by
  rw [xX_eq]
  obtain ⟨s, h⟩ := r
  cases s <;> rfl
theorem row_1 (r : Row) : xX (rowE r) (.int 1) = .ok r.2.enc := by
  rw [xX_eq]
  obtain ⟨s, h⟩ := r
  cases h <;> rfl
theorem fld_low (s : Span) : fldF s.enc "low" = .ok (.int s.low) := by cases s <;> rfl
theorem it_pair {a b : Span} : xI .seq [.tup [a.enc, b.enc]] = .ok ([a, b].map Span.enc) := by
  rw [it_seqT (ds' := [a.enc, b.enc]) inferInstance]; rfl
theorem v_row {G : Gam} {ρ : Ev.Env} {a b : E} {s : Span} {h : Hd} (h1 : xv G ρ a = .ok s.enc) (h2 : xv G ρ b = .ok h.enc) : xv G ρ (.tup (.cons a (.cons b .nil))) = .ok (rowE (s, h)) := ok_tup (oks_cons h1 (oks_cons h2 oks_nil)) (Nat.le_of_ble_eq_true rfl)
theorem row_bn {i j : Nat} {r : Row} {δ δ' : Ev.Env} (h : BindsN [i, j] [r.1.enc, r.2.enc] δ δ') : BindN (.tp [i, j]) (rowE r) δ δ' := bn_tup h
local macro_rules | `(tactic| infer_instance) => `(tactic| first | (show _ = _; assumption) | exact row_0 _ | exact row_1 _ | exact hd_tag _ | exact hd_num _ | exact hd_eqDin _ | exact hd_eqHush _ | exact hd_eqWord _ _ | exact hd_neDin _ | exact hd_neHush _ | exact hd_neWord _ _ | exact hd_eq _ _ | exact hd_ne _ _ | apply row_bn | exact it_pair | exact fld_low _ | (show Wp _ _ _ _; first | apply w_seq | apply w_asg | apply w_asgT | apply w_skip | (apply w_appM; (focus (repeat (first | exact get0 | apply getS)))) | apply w_app | apply w_exp | apply w_ret | apply w_retN | apply w_rse | apply w_brk | apply w_cnt | apply w_aug | apply w_augS | apply w_tri | apply w_clr | apply w_clrT | apply w_setd | apply w_rem | apply w_rvsM | apply w_rvs | apply w_popA | apply w_ext) | apply q_nx | apply q_rt | apply q_er | apply q_bk | apply q_ct | (apply kq_nx; (focus rfl)) | (apply kq_er; (focus rfl)) | apply kq_rt | apply l_nx | apply l_ct | apply l_bk | apply l_rt | apply l_er | apply r_rt | apply r_nx | apply r_er | apply t_nx | apply t_rt | apply t_er | apply n_nx | apply n_rt | apply n_bk | apply n_ct | apply a_nx | apply a_rt | apply k_nx | apply k_rt | apply k_er | apply nx_nx | apply h_as rfl | apply h_one rfl | apply h_no rfl | (show xM _ _ _ = _; first | apply k_ex | apply k_mv | apply k_exf | apply k_tp | apply k_ls) | (show xv _ _ _ = _; first | apply v_var | exact ok_int | exact ok_bl | exact ok_str | exact ok_non | (apply ok_cst; rfl) | apply ok_bin | apply ok_cmp | apply ok_not | apply v_call | apply v_blt | apply v_idx | apply ok_fld | apply v_methR | apply v_newR | apply v_compA | apply v_comp | apply ok_tup | apply ok_lst | apply ok_chain | apply ok_neg | apply ok_and | apply ok_or | apply v_slc0 | apply v_slcL (nl := rfl) | apply v_slcH (nh := rfl) | apply v_slc (nl := rfl) (nh := rfl)) | (show xvs _ _ _ = _; first | exact oks_nil | apply oks_cons) | (show xb _ _ _ = _; first | exact o_add | exact o_sub | exact o_and | exact o_xor | apply p_mul | apply o_mod (by first | decide | assumption | exact pos_lpow (by decide) | exact Int.pow_pos (by decide) | omega) | apply p_fdiv (by first | decide | assumption | exact pos_lpow (by decide) | exact Int.pow_pos (by decide) | omega) | exact p_pow (by decide) (by decide) | apply o_shl1 | apply p_shlN | apply p_shlL | exact o_shr | exact p_shrL | apply c_map | apply c_lst | apply p_cat) | (show xp _ _ _ = _; first | exact o_eq | exact o_ne | exact o_lt | exact o_le | exact o_gt | exact o_ge | exact o_eqb | exact o_neb | exact o_isn | exact o_nisn | exact o_isb | exact o_nisb | exact o_eqs | exact o_nes | exact eq_nilO | exact ne_nilO | exact eq_nilP | exact ne_nilP | exact eq_nilI | exact ne_nilI | exact o_eqI | exact o_neI | exact in_ints | exact nin_ints) | (show xL _ _ _ = _; first | exact b_max | exact b_min | exact b_lenM | exact b_lenS | exact b_sorted | exact b_sortp | exact b_dict | exact b_dnew | apply b_dget | apply b_sortd | apply b_list | apply b_listT | apply b_listrevM | exact b_sum | exact b_all | exact b_intT | exact b_intF | exact b_intB | exact b_intI | exact b_abs | apply b_str | (rw [xL_eq]; assumption) | (rw [xL_eq]; rfl)) | (show xI _ _ = _; first | exact it_scr | apply it_seq | apply it_rng | exact it_rng2 (by omega) (by omega) | apply it_enum | apply it_zip | apply it_seqT | (rw [xI_eq]; assumption)) | (show xX _ _ = _; first | (apply i_mapL; rfl) | (apply i_lstL; rfl) | (apply i_tupL; rfl) | (apply i_scrL; rfl) | (rw [xX_eq]; assumption) | apply i_map | apply i_scr) | (show xS _ _ _ = _; first | exact s_scr | apply s_map) | (show Shds _ _; exact inferInstance) | (show ShEnv _ _; exact inferInstance) | (show NF _; exact inferInstance) | (show NFs _; exact inferInstance) | (show Shd _ _; exact inferInstance) | (show ShO _ _; exact inferInstance) | exact get0 | apply getS | exact set0 | apply setS | apply bn_nm | apply bn_tup | apply bn_lst | exact bs_nil | apply bs_cons | exact fz_nil | apply fz_cons | exact mk_nil | apply mk_in (by decide) | apply mk_out (by decide) | exact e0_nil | apply e0_none | apply e0_cons | (show Sm _ _; first | assumption | exact sm_int (by decide) | exact sm_int2 (by decide) | exact sm_nat (by omega) | exact sm_lpow (k := 220) (by decide) | exact sm_p2 (k := 1001) (by omega) | apply sm_mod (by first | decide | assumption | exact pos_lpow (by decide) | exact Int.pow_pos (by decide) | omega) | apply sm_add | apply sm_sub | apply sm_mul | apply sm_fdiv (by first | decide | assumption | exact pos_lpow (by decide) | exact Int.pow_pos (by decide) | omega) | apply sm_max | apply sm_min | apply sm_neg) | (show SLen _ _; first | assumption | apply sl_int | apply sl_app | exact sl_le (n := 64) (by decide)) | (show xMs _ _ _ = _; first | exact ks_nil | apply ks_cons) | (show NewR _ _ _ _; assumption) | (show MethR _ _ _ _ _; assumption) | rfl | apply bw | apply cb | apply cA | (show ∀ _ ∈ _, Cb _ _ _ _ _ _ _ _; intro _ _) | (show ∀ _ ∈ _, Ca _ _ _ _ _ _; intro _ _) | (show _ = true → xv _ _ _ = _; intro _) | (show _ ≤ (16777216 : Nat); omega) | (show _ < (16777216 : Nat); omega) | (show _ ≤ _; first | assumption | exact Nat.le_of_ble_eq_true rfl | decide | omega) | (show _ < _; first | assumption | decide | omega) | (show _ = true; first | assumption | decide) | (show _ = false; first | assumption | decide))
/-- the talk of some hands from a span on -/
def talkF (hs : List Int) (s : Span) : List Row :=
  (s, hearF hs s) :: if h : hearF hs s = .din ∧ s.lower.rank < s.rank ∧ s.upper.rank < s.rank then talkF hs s.lower ++ talkF hs s.upper else []
termination_by s.rank
decreasing_by
  · exact h.2.1
  · exact h.2.2
/-! ## Specifications -/
section
variable (V : Span → Prop) (G : Gam)
def HasHolds : Prop := ∀ s, V s → ∀ z : Int, MethR G s.enc "holds" [.int z] (.ok (.bl (s.holds z)))
def HasHalves : Prop := ∀ s, V s → s.Two → Sm 1800 s.low → MethR G s.enc "halves" [] (.ok (.tup [s.lower.enc, s.upper.enc]))
def HasShown : Prop := ∀ s, V s → MethR G s.enc "shown" [] (.ok (.str s.shown))
def HasLowest : Prop := ∀ s, V s → MethR G s.enc "lowest" [] (.ok (.int s.low))
def HasHeard : Prop := ∀ (hs : List Int) s, V s → hs.length ≤ 1000000 → xf G "heard" [.lst false (hs.map .int), s.enc] = .ok (hearF hs s).enc
def onL (hs : List Int) (s : Span) : Prop := hs.Nodup ∧ ∀ z ∈ hs, s.holds z = true
instance (hs : List Int) (s : Span) : Decidable (onL hs s) := inferInstanceAs (Decidable (hs.Nodup ∧ ∀ z ∈ hs, s.holds z = true))
def HasOnLine : Prop := ∀ (hs : List Int) s, V s → (onL hs s → xf G "on_line" [.lst false (hs.map .int), s.enc] = .ok .non) ∧ (¬ onL hs s → xf G "on_line" [.lst false (hs.map .int), s.enc] = .er "NoHands")
def HasTop : Prop := (∀ n : Nat, n ≤ 1000 → xf G "top_of" [.int n] = .ok (Lb.half 0 n)) ∧ xf G "top_of" [.non] = .ok (Lb.opn 0)
end
section
variable {V : Span → Prop} {G G1 : Gam} {kn : String → Bool}
theorem heard_has (hG : ∀ ds, xf G "heard" ds = chkE kn (callD G1 d_heard ds)) (H : HasHolds V G1) : HasHeard V G := by
  intro hs s hV hl
  generalize e_ : xf _ _ _ = o_; revert o_; refine to_ans ?_; apply call_x (hG) rfl; (focus repeat' (first | infer_instance | fail))
  repeat' (first | exact H s hV _ | infer_instance | fail)
  rcases e : hs.filter s.holds with _ | ⟨x, _ | ⟨y, r⟩⟩
  · apply w_ifT
    · exact inferInstance
    · repeat' (first | infer_instance | fail)
    · rfl
    · repeat' (first | infer_instance | fail)
      show _ = Res.ok (hearL (hs.filter s.holds)).enc; rw [e]; rfl
  · apply w_ifF
    · exact inferInstance
    · repeat' (first | infer_instance | fail)
    · rfl
    · repeat' (first | infer_instance | fail)
      apply w_ifT
      · exact inferInstance
      · repeat' (first | infer_instance | fail)
      · rfl
      · repeat' (first | infer_instance | fail)
        show _ = Res.ok (hearL (hs.filter s.holds)).enc; rw [e]; rfl
  · apply w_ifF
    · exact inferInstance
    · repeat' (first | infer_instance | fail)
    · rfl
    · repeat' (first | infer_instance | fail)
      apply w_ifF
      · exact inferInstance
      · repeat' (first | infer_instance | fail)
      · simp; omega
      · repeat' (first | infer_instance | fail)
        show _ = Res.ok (hearL (hs.filter s.holds)).enc; rw [e]; rfl
/-! ### the spans' own -/
theorem span_has {c : String} {ci : ClsI} (h1 : ∀ ds, xf G "Span.__init__" ds = chkE kn (callD G1 d_Span___init__ ds)) (hc : G1.ci c = some ci) (hf : ci.fields.contains "low" = true) (v : Int) : xf G "Span.__init__" [.obj c [] [], .int v] = .ok (.obj c ["low"] [.int v]) := by
  rw [h1, span_okC _ c ci hc hf]; rfl
variable {G2 G3 : Gam}
theorem half_has {ci ci2 : ClsI} (h0 : ∀ ds, xf G "Half.__init__" ds = chkE kn (callD G1 d_Half___init__ ds)) (h1 : ∀ ds, xf G1 "Span.__init__" ds = chkE kn (callD G2 d_Span___init__ ds)) (c0 : G.ci "Half" = some ci) (i0 : ci.init = "Half.__init__") (c1 : (G1.ci "Half").map (·.fields) = some ["low", "bits"]) (c2 : G2.ci "Half" = some ci2) (f2 : ci2.fields.contains "low" = true) : HasHalf G :=
  ⟨ci, c0, i0, fun low n hn hl hm => by rw [h0, half_ok G1 c1 (fun v => span_has h1 c2 f2 v) low n hn hl hm]; rfl⟩
theorem open_has {ci ci2 : ClsI} (h0 : ∀ ds, xf G "Open.__init__" ds = chkE kn (callD G1 d_Open___init__ ds)) (h1 : ∀ ds, xf G1 "Span.__init__" ds = chkE kn (callD G2 d_Span___init__ ds)) (c0 : G.ci "Open" = some ci) (i0 : ci.init = "Open.__init__") (c2 : G2.ci "Open" = some ci2) (f2 : ci2.fields.contains "low" = true) : HasOpen G :=
  ⟨ci, c0, i0, fun low h => by rw [h0, open_ok G1 (fun v => span_has h1 c2 f2 v) low h]; rfl⟩
theorem holds_both (hV : ∀ s, V s → s.Ok) (m1 : ∀ l n, methF G (Lb.half l n) "holds" = some "Half.holds") (m2 : ∀ l, methF G (Lb.opn l) "holds" = some "Span.holds") (h1 : ∀ ds, xf G "Half.holds" ds = chkE kn (callD G1 d_Half_holds ds)) (h2 : ∀ ds, xf G "Span.holds" ds = chkE kn (callD G2 d_Span_holds ds)) : HasHolds V G := by
  intro s hs z
  cases s with
  | half l n => exact mr_mk (m1 l n) (by show xf G _ [Lb.half l n, .int z] = _; rw [h1, holds_ok _ l z n (hV _ hs).2.2.1]; rfl)
  | opn l => exact mr_mk (m2 l) (by show xf G _ [Lb.opn l, .int z] = _; rw [h2, oholds_ok]; rfl)
theorem holds_half (hV : ∀ s, V s → s.OkH) (m1 : ∀ l n, methF G (Lb.half l n) "holds" = some "Half.holds") (h1 : ∀ ds, xf G "Half.holds" ds = chkE kn (callD G1 d_Half_holds ds)) : HasHolds V G := by
  intro s hs z
  obtain ⟨ho, l, n, rfl⟩ := hV s hs
  exact mr_mk (m1 l n) (by show xf G _ [Lb.half l n, .int z] = _; rw [h1, holds_ok _ l z n ho.2.2.1]; rfl)
theorem shown_both (hV : ∀ s, V s → s.Ok) (m1 : ∀ l n, methF G (Lb.half l n) "shown" = some "Half.shown") (m2 : ∀ l, methF G (Lb.opn l) "shown" = some "Span.shown") (h1 : ∀ ds, xf G "Half.shown" ds = chkE kn (callD G1 d_Half_shown ds)) (h2 : ∀ ds, xf G "Span.shown" ds = chkE kn (callD G2 d_Span_shown ds)) : HasShown V G := by
  intro s hs
  cases s with
  | half l n => exact mr_mk (m1 l n) (by show xf G _ [Lb.half l n] = _; rw [h1, shown_ok _ l n (hV _ hs).2.2.2 (hV _ hs).2.2.1]; rfl)
  | opn l => exact mr_mk (m2 l) (by show xf G _ [Lb.opn l] = _; rw [h2, shownO_ok _ _ l (hV _ hs).sm]; rfl)
theorem shown_half (hV : ∀ s, V s → s.OkH) (m1 : ∀ l n, methF G (Lb.half l n) "shown" = some "Half.shown") (h1 : ∀ ds, xf G "Half.shown" ds = chkE kn (callD G1 d_Half_shown ds)) : HasShown V G := by
  intro s hs
  obtain ⟨ho, l, n, rfl⟩ := hV s hs
  exact mr_mk (m1 l n) (by show xf G _ [Lb.half l n] = _; rw [h1, shown_ok _ l n ho.2.2.2 ho.2.2.1]; rfl)
theorem lowest_both (m1 : ∀ l n, methF G (Lb.half l n) "lowest" = some "Span.lowest") (m2 : ∀ l, methF G (Lb.opn l) "lowest" = some "Span.lowest") (h1 : ∀ ds, xf G "Span.lowest" ds = chkE kn (callD G1 d_Span_lowest ds)) : HasLowest V G := by
  intro s hs
  cases s with
  | half l n => exact mr_mk (m1 l n) (by show xf G _ [Lb.half l n] = _; rw [h1, lowest_ok]; rfl)
  | opn l => exact mr_mk (m2 l) (by show xf G _ [Lb.opn l] = _; rw [h1, olowest_ok]; rfl)
theorem halves_both (hV : ∀ s, V s → s.Ok) (m1 : ∀ l n, methF G (Lb.half l n) "halves" = some "Half.halves") (m2 : ∀ l, methF G (Lb.opn l) "halves" = some "Open.halves") (h1 : ∀ ds, xf G "Half.halves" ds = chkE kn (callD G1 d_Half_halves ds)) (h2 : ∀ ds, xf G "Open.halves" ds = chkE kn (callD G2 d_Open_halves ds))
    (H1 : HasHalf G1) (H2 : HasHalf G2) (O2 : HasOpen G2) : HasHalves V G := by
  intro s hs t hm
  cases s with
  | half l n =>
    obtain ⟨h3, h4, h5, h6⟩ := hV _ hs
    obtain ⟨m, rfl⟩ : ∃ m, n = m + 1 := ⟨n - 1, by simp only [Span.Two] at t; omega⟩
    exact mr_mk (m1 l _) (by show xf G _ [Lb.half l (m + 1)] = _; rw [h1, halves_ok _ H1 l m h5 h3 h4]; rfl)
  | opn l =>
    refine mr_mk (m2 l) ?_
    show xf G _ [Lb.opn l] = _
    rcases hV _ hs with h | ⟨n, hn, h⟩
    · subst h; rw [h2, ohalves0 _ H2 O2]; rfl
    · subst h
      have := pow_inj (b := 1000) t
      rw [h2, ohalves_ok _ H2 O2 n this]
      show Res.ok _ = Res.ok (D.tup [Span.enc (if (2 : Int) ^ n = 0 then _ else _), Span.enc (if (2 : Int) ^ n = 0 then _ else _)])
      rw [if_neg (pow_ne n), if_neg (pow_ne n), log2_pow]
      rfl
def d_Span_alike : Def := .fn 2 2
  (.ret (.ex (.cmp .eq (.meth (.var 0) "shown" .nil) (.meth (.var 1) "shown" .nil))))
def HasAlike (V : Span → Prop) (G : Gam) : Prop := ∀ s t, V s → V t → MethR G s.enc "alike" [t.enc] (.ok (.bl (s.shown == t.shown)))
theorem alike_both (m1 : ∀ l n, methF G (Lb.half l n) "alike" = some "Span.alike") (m2 : ∀ l, methF G (Lb.opn l) "alike" = some "Span.alike") (hG : ∀ ds, xf G "Span.alike" ds = chkE kn (callD G1 d_Span_alike ds)) (H : HasShown V G1) : HasAlike V G := by
  intro s t hs ht
  have key : xf G "Span.alike" [s.enc, t.enc] = .ok (.bl (s.shown == t.shown)) := by
    have e2 := H s hs
    have e4 := H t ht
    generalize e_ : xf _ _ _ = o_; revert o_; refine to_ans ?_; apply call_x (hG) rfl; (focus repeat' (first | infer_instance | fail))
    repeat' (first | exact e2 | exact e4 | infer_instance | fail)
  cases s with
  | half l n => exact mr_mk (m1 l n) key
  | opn l => exact mr_mk (m2 l) key
def d_words : Def := .fn 1 3
  (.ret (.ex (.comp (.tp [1, 2]) .seq (.cons (.var 0) .nil) (.cmp .eq (.idx (.var 2) (.int 0)) (.str "word")) (.idx (.var 2) (.int 1)))))
def wordsF : List Row → List Int
  | [] => []
  | (_, .word n) :: r => n :: wordsF r
  | _ :: r => wordsF r
def isWord : Hd → Bool
  | .word _ => true
  | _ => false
def Hd.num : Hd → Int
  | .word n => n
  | _ => 0
theorem wordsF_eq : ∀ b : List Row, wordsF b = (b.filter fun r => isWord r.2).map fun r => r.2.num
  | [] => rfl
  | (s, .word n) :: r => by rw [wordsF, wordsF_eq r]; rfl
  | (s, .hush) :: r => by
    rw [wordsF, wordsF_eq r]
    · rfl
    · intro _ _ e; cases e
  | (s, .din) :: r => by
    rw [wordsF, wordsF_eq r]
    · rfl
    · intro _ _ e; cases e
theorem tag_word (h : Hd) : (h.tag == ("word" : PySem.Str)) = isWord h := by
  cases h
  · decide
  · exact (by decide : ((("word" : PySem.Str)) == ("word" : PySem.Str)) = true)
  · decide
def HasWords (G : Gam) : Prop := ∀ b : List Row, b.length ≤ 1000000 → xf G "words" [.lst false (b.map rowE)] = .ok (.lst true ((wordsF b).map .int))
theorem words_has (hG : ∀ ds, xf G "words" ds = chkE kn (callD G1 d_words ds)) : HasWords G := by
  intro b hb
  generalize e_ : xf _ _ _ = o_; revert o_; refine to_ans ?_; apply call_x (hG) rfl; (focus repeat' (first | infer_instance | fail))
  rw [wordsF_eq, List.map_map]
  have e : ∀ r ∈ b, isWord r.2 = true → xX r.2.enc (.int 1) = .ok (.int r.2.num) := by
    intro r _ hp
    rw [xX_eq]
    cases q : r.2 with
    | word n => rfl
    | _ => rw [q] at hp; cases hp
  repeat' (first | exact e _ (by assumption) (by rw [← tag_word]; assumption) | infer_instance | fail)
  congr 3
  exact List.filter_congr fun r _ => tag_word r.2
/-! ### what the laws draw -/
def HasStir (G : Gam) : Prop := ∀ r k : Int, Sm 60 k → ∃ x : Int, xf G "_law_stir" [.int r, .int k] = .ok (.int x) ∧ 0 ≤ x ∧ Sm 220 x
theorem stir1_has (hG : ∀ ds, xf G "_law_stir" ds = chkE kn (callD G1 d__law_stir ds)) : HasStir G := by
  intro r k hk
  generalize e_ : xf _ _ _ = o_; revert o_; refine to_ans ?_; apply call_x (hG) rfl; (focus repeat' (first | infer_instance | fail))
  repeat' (first | infer_instance | fail)
  refine ⟨_, rfl, ?_, ?_⟩
  · exact Int.ediv_nonneg (Int.emod_nonneg _ (by decide)) (by decide)
  · exact sm_fdiv (by decide) ((sm_mod (by decide) (sm_lit (by decide +kernel))))
theorem stir2_has (hG : ∀ ds, xf G "_law_stir" ds = chkE kn (callD G1 d__law_stir2 ds)) : HasStir G := by
  intro r k hk
  generalize e_ : xf _ _ _ = o_; revert o_; refine to_ans ?_; apply call_x (hG) rfl; (focus repeat' (first | infer_instance | fail))
  repeat' (first | infer_instance | fail)
  refine ⟨_, rfl, ?_, ?_⟩
  · exact Int.ediv_nonneg (Int.emod_nonneg _ (by decide)) (by decide)
  · exact sm_fdiv (by decide) ((sm_mod (by decide) (sm_lit (by decide +kernel))))
def HasCell (G : Gam) : Prop := ∀ (ns : List Int) (k : Int), ∃ z : Int, xf G "_law_cell" [.scr ns, .int k] = .ok (.int z)
theorem cell_has (hG : ∀ ds, xf G "_law_cell" ds = chkE kn (callD G1 d__law_cell ds)) : HasCell G := by
  intro ns k
  generalize e_ : xf _ _ _ = o_; revert o_; refine to_ans ?_; apply call_x (hG) rfl; (focus repeat' (first | infer_instance | fail))
  repeat' (first | infer_instance | fail)
  (first | apply w_seq | skip); apply w_if inferInstance; (focus repeat' (first | infer_instance | fail))
  · intro h
    simp at h
    obtain ⟨i, rfl⟩ : ∃ i : Nat, k = i := ⟨k.toNat, by omega⟩
    obtain ⟨x, hx⟩ : ∃ x, ns[i]? = some x := ⟨ns[i]'(by omega), by simp⟩
    repeat' (first | infer_instance | fail)
    exact ⟨_, rfl⟩
  · intro h
    repeat' (first | infer_instance | fail)
    exact ⟨_, rfl⟩
def HasCellAt (G : Gam) : Prop := ∀ (ns : List Int) (k : Nat), ∃ z : Int, xf G "_law_cell_at" [.scr ns, .int k] = .ok (.int z)
theorem cell_at_has (hG : ∀ ds, xf G "_law_cell_at" ds = chkE kn (callD G1 d__law_cell_at ds)) : HasCellAt G := by
  intro ns k
  obtain ⟨z, e⟩ := cell_ok G1 ns k
  exact ⟨z, by rw [hG, e]; rfl⟩
theorem drawn_has (hG : ∀ ds, xf G "_law_drawn" ds = chkE kn (callD G1 d__law_drawn ds)) (H : HasStir G1) : HasDrawn G := ⟨fun cell ss hl hs => by
  obtain ⟨xs, e, h2⟩ := drawn_ok G1 (fun r k h0 h1 => by
    obtain ⟨x, e, _⟩ := H r k (sm_of h0 h1)
    exact ⟨x, e⟩) cell ss hl hs
  exact ⟨xs, by rw [hG, e]; rfl, h2⟩⟩
theorem newHalf {l : Int} {n : Nat} (H : HasHalf G) (hn : n ≤ 1000) (h0 : 0 ≤ l) (hm : l % 2 ^ n = 0) : NewR G "Half" [.int l, .int n] (.ok (Span.half l n).enc) := by
  obtain ⟨ci, h1, h2, h3⟩ := H.ex
  exact nr_mk h1 (by rw [h2]; exact h3 l n hn h0 hm)
theorem newOpen {l : Int} (H : HasOpen G) (h : IsOp l) : NewR G "Open" [.int l] (.ok (Span.opn l).enc) := by
  obtain ⟨ci, h1, h2, h3⟩ := H.ex
  exact nr_mk h1 (by rw [h2]; exact h3 l h)
theorem mod_nat (i j : Int) (h : 0 < j) : ∃ n : Nat, (n : Int) < j ∧ xb .mod (.int i) (.int j) = .ok (.int (n : Int)) := by
  have h1 := Int.emod_nonneg i (show j ≠ 0 by omega)
  have h2 := Int.emod_lt_of_pos i h
  refine ⟨(i % j).toNat, by omega, ?_⟩
  rw [o_mod h]
  congr 2
  omega
theorem mod_int (i j : Int) (h : 0 < j) : ∃ n : Int, 0 ≤ n ∧ n < j ∧ n = i % j ∧ xb .mod (.int i) (.int j) = .ok (.int n) := ⟨i % j, Int.emod_nonneg i (show j ≠ 0 by omega), Int.emod_lt_of_pos i h, rfl, o_mod h⟩
/-! ### lists in order -/
theorem insI_perm (i : Int) : ∀ xs : List Int, (insI i xs).Perm (i :: xs)
  | [] => List.Perm.refl _
  | j :: r => by
    rw [insI]
    split
    · exact List.Perm.refl _
    · exact ((insI_perm i r).cons j).trans (List.Perm.swap i j r)
theorem sortI_perm : ∀ xs : List Int, (sortI xs).Perm xs
  | [] => List.Perm.refl _
  | x :: r => (insI_perm x (sortI r)).trans ((sortI_perm r).cons x)
theorem insI_sorted (i : Int) : ∀ xs : List Int, xs.Pairwise (· ≤ ·) → (insI i xs).Pairwise (· ≤ ·)
  | [], _ => List.pairwise_singleton _ _
  | j :: r, h => by
    rw [insI]
    have h' := List.pairwise_cons.mp h
    split
    · rename_i l
      exact List.pairwise_cons.mpr ⟨fun z m => by
        rcases List.mem_cons.mp m with e | m
        · rw [e]; exact l
        · exact Int.le_trans l (h'.1 z m), h⟩
    · rename_i l
      refine List.pairwise_cons.mpr ⟨fun z m => ?_, insI_sorted i r h'.2⟩
      rcases List.mem_cons.mp ((insI_perm i r).mem_iff.mp m) with e | m
      · rw [e]; omega
      · exact h'.1 z m
theorem sortI_sorted : ∀ xs : List Int, (sortI xs).Pairwise (· ≤ ·)
  | [] => List.Pairwise.nil
  | x :: r => insI_sorted x _ (sortI_sorted r)
theorem sorted_eq : ∀ {xs ys : List Int}, xs.Perm ys → xs.Pairwise (· ≤ ·) → ys.Pairwise (· ≤ ·) → xs = ys
  | [], ys, p, _, _ => (List.nil_perm.mp p).symm
  | x :: xs, [], p, _, _ => (List.not_perm_cons_nil p).elim
  | x :: xs, y :: ys, p, h, q => by
    have h' := List.pairwise_cons.mp h
    have q' := List.pairwise_cons.mp q
    have e : x = y := by
      rcases List.mem_cons.mp (p.mem_iff.mp (List.mem_cons_self (a := x))) with e | m
      · exact e
      · rcases List.mem_cons.mp (p.mem_iff.mpr (List.mem_cons_self (a := y))) with e | m'
        · exact e.symm
        · have a := q'.1 x m
          have b := h'.1 y m'
          omega
    subst e
    rw [sorted_eq (List.Perm.cons_inv p) h'.2 q'.2]
theorem sortI_len (xs : List Int) : (sortI xs).length = xs.length := (sortI_perm xs).length_eq
theorem cut_lo {α : Type} (xs : List α) (k : Nat) (h : k ≤ xs.length) : cutD xs none (some (k : Int)) = xs.take k := by
  unfold cutD
  have e1 : HT.sIx xs.length 0 none = 0 := rfl
  have e2 : HT.sIx xs.length xs.length (some (k : Int)) = k := by
    rw [HT.sIx_nat]; omega
  rw [e1, e2]; simp
theorem cut_hi {α : Type} (xs : List α) (k : Nat) (h : k ≤ xs.length) : cutD xs (some (k : Int)) none = xs.drop k := by
  unfold cutD
  have e1 : HT.sIx xs.length xs.length none = xs.length := rfl
  have e2 : HT.sIx xs.length 0 (some (k : Int)) = k := by
    rw [HT.sIx_nat]; omega
  rw [e1, e2]
  exact List.take_of_length_le (by simp)
theorem cut_two {α : Type} (xs : List α) (k : Nat) (h : k ≤ xs.length) : cutD xs none (some (k : Int)) ++ cutD xs (some (k : Int)) none = xs := by
  rw [cut_lo xs k h, cut_hi xs k h, List.take_append_drop]
/-! ### on_line -/
def lastD (done : List Int) : D := match done.getLast? with | none => .non | some z => .int z
instance shd_last (done : List Int) : Shd (lastD done) (lastD done) := ⟨by unfold lastD; split <;> rfl⟩
instance nf_last (done : List Int) : NF (lastD done) := ⟨by unfold lastD; split <;> rfl⟩
theorem last_app (done : List Int) (y : Int) : lastD (done ++ [y]) = .int y := by unfold lastD; simp
theorem eq_last (y : Int) (done : List Int) : xp .eq (.int y) (lastD done) = .ok (decide (done.getLast? = some y)) := by
  unfold lastD
  cases e : done.getLast? with
  | none => rw [xp]; simp; rfl
  | some z =>
    rw [xp]
    show Res.ok (y == z) = _
    congr 1
    by_cases q : y = z
    · simp [q]
    · have : ¬ z = y := fun w => q w.symm
      simp [q, this]
def d_on_line : Def := .fn 2 4
  (.seq (.asg (.nm 2) (.ex .non))
  (.for_ (.nm 3) .seq none (.cons (.blt .sorted (.cons (.var 0) .nil)) .nil)
  (.seq (.ife (.or (.cmp .eq (.var 3) (.var 2)) (.not (.meth (.var 1) "holds" (.cons (.var 3) .nil))))
  (.rse "NoHands")
  .skip)
  (.asg (.nm 2) (.ex (.var 3))))))
theorem pair_last {R : Int → Int → Prop} {xs : List Int} {y z : Int} (h : (xs ++ [y]).Pairwise R) (e : xs.getLast? = some z) : R z y := by
  rw [List.pairwise_append] at h
  exact h.2.2 z (List.mem_of_getLast? e) y (by simp)
theorem on_line_has (hG : ∀ ds, xf G "on_line" ds = chkE kn (callD G1 Lb.d_on_line ds)) (hk : kn "NoHands" = true) (H : HasHolds V G1) : HasOnLine V G := by
  intro hs s hV
  have key : ∀ R : Res D → Prop, (onL hs s → R (.ok .non)) → (¬ onL hs s → R (.er "NoHands")) → R (xf G "on_line" [.lst false (hs.map .int), s.enc]) := by
    intro R h1 h2
    generalize e_ : xf _ _ _ = o_; revert o_; refine to_ans ?_; apply call_x (hG) rfl; (focus repeat' (first | infer_instance | fail))
    repeat' (first | infer_instance | fail)
    (first | apply w_seq | skip); apply w_for inferInstance; (focus repeat' (first | infer_instance | fail)); (focus repeat' (first | infer_instance | fail)); (focus repeat' (first | infer_instance | fail))
    refine fl_pre (fun done δ => ∃ x3, δ = [some (.lst false (hs.map .int)), some s.enc, some (lastD done), x3] ∧ done.Pairwise (· < ·) ∧ ∀ z ∈ done, s.holds z = true) ⟨none, rfl, .nil, by simp⟩ ?_ ?_
    · rintro done y rest δ hy ⟨x3, rfl, hp, hh⟩
      have hsort := sortI_sorted hs
      rw [hy] at hsort
      have hs2 : (done ++ [y]).Pairwise (· ≤ ·) := hsort.sublist (by
        rw [show done ++ y :: rest = (done ++ [y]) ++ rest from by simp]
        exact List.sublist_append_left _ _)
      repeat' (first | infer_instance | fail)
      (first | apply w_seq | skip); apply w_if inferInstance; (focus repeat' (first | exact eq_last _ _ | exact H s hV _ | infer_instance | fail))
      · intro ht
        refine w_rse ?_
        refine q_er (l_er (k_er hk (h2 fun on => ?_)))
        have hn : (sortI hs).Nodup := (sortI_perm hs).nodup_iff.mpr on.1
        have ho := on.2 y ((sortI_perm hs).mem_iff.mp (by rw [hy]; simp))
        rw [ho] at ht
        simp at ht
        rw [hy, List.nodup_append] at hn
        exact hn.2.2 y (List.mem_of_getLast? ht) y (by simp) rfl
      · intro hf
        repeat' (first | infer_instance | fail)
        simp at hf
        refine ⟨_, by rw [last_app], ?_, fun z m => ?_⟩
        · refine List.pairwise_append.mpr ⟨hp, List.pairwise_singleton _ _, fun z m w q => ?_⟩
          rw [List.mem_singleton.mp q]
          have le := (List.pairwise_append.mp hs2).2.2 z m y (by simp)
          rcases Int.lt_or_eq_of_le le with l | e
          · exact l
          · exfalso
            cases el : done.getLast? with
            | none => rw [List.getLast?_eq_none_iff.mp el] at m; simp at m
            | some w' =>
              have lw := pair_last hs2 el
              have : z ≤ w' := by
                obtain ⟨d', hd⟩ := List.getLast?_eq_some_iff.mp el
                rw [hd] at hp m
                rcases List.mem_append.mp m with m | m
                · exact Int.le_of_lt ((List.pairwise_append.mp hp).2.2 z m w' (by simp))
                · rw [List.mem_singleton.mp m]; exact Int.le_refl _
              exact hf.1 (by rw [el]; congr 1; omega)
        · rcases List.mem_append.mp m with m | m
          · exact hh z m
          · rw [List.mem_singleton.mp m]; exact hf.2
    · rintro δ ⟨x3, rfl, hp, hh⟩
      repeat' (first | infer_instance | fail)
      refine h1 ⟨(sortI_perm hs).nodup_iff.mp (hp.imp fun h => by omega), fun z m => hh z ((sortI_perm hs).mem_iff.mpr m)⟩
  exact ⟨fun h => key (fun r => r = .ok .non) (fun _ => rfl) (fun n => (n h).elim), fun h => key (fun r => r = .er "NoHands") (fun n => (h n).elim) (fun _ => rfl)⟩
/-! ### top_of -/
theorem top_has (hG : ∀ ds, xf G "top_of" ds = chkE kn (callD G1 d_top_of ds)) (H : HasHalf G1) (O : HasOpen G1) : HasTop G := by
  constructor
  · intro n hn
    generalize e_ : xf _ _ _ = o_; revert o_; refine to_ans ?_; apply call_x (hG) rfl; (focus repeat' (first | infer_instance | fail))
    repeat' (first | infer_instance | fail)
    (first | apply w_seq | skip); apply w_ifF inferInstance; (focus repeat' (first | infer_instance | fail))
    · rfl
    repeat' (first | exact newHalf H hn (by decide) (by simp) | infer_instance | fail)
  · generalize e_ : xf _ _ _ = o_; revert o_; refine to_ans ?_; apply call_x (hG) rfl; (focus repeat' (first | infer_instance | fail))
    repeat' (first | infer_instance | fail)
    (first | apply w_seq | skip); apply w_ifT inferInstance; (focus repeat' (first | infer_instance | fail))
    · rfl
    repeat' (first | exact newOpen O (.inl rfl) | infer_instance | fail)
/-! ### halves, and who lies in them -/
theorem holds_lower {s : Span} (h : s.Ok) (t : s.Two) (z : Int) : s.lower.holds z = (s.holds z && decide (z < s.upper.low)) := by
  cases s with
  | half l n =>
    obtain ⟨m, rfl⟩ : ∃ m, n = m + 1 := ⟨n - 1, by simp only [Span.Two] at t; omega⟩
    have pm := pow_i m
    have e : (2 : Int) ^ (m + 1) = 2 ^ m * 2 := Int.pow_succ 2 m
    simp only [Span.lower, Span.upper, Span.holds, Span.low, Nat.add_sub_cancel]
    rw [e]
    by_cases h1 : l ≤ z <;> by_cases h2 : z < l + 2 ^ m <;> simp [h1, h2] <;> omega
  | opn l =>
    rcases h with h | ⟨n, hn, h⟩
    · subst h
      simp only [Span.lower, Span.upper, if_pos rfl, Span.holds, Span.low]
      by_cases h1 : (0 : Int) ≤ z <;> simp [h1]
    · subst h
      simp only [Span.lower, Span.upper, if_neg (pow_ne n), Span.holds, Span.low, log2_pow]
      rw [show (2 : Int) ^ n + 2 ^ n = 2 * 2 ^ n by omega]
theorem holds_upper {s : Span} (h : s.Ok) (t : s.Two) (z : Int) : s.upper.holds z = (s.holds z && decide (s.upper.low ≤ z)) := by
  cases s with
  | half l n =>
    obtain ⟨m, rfl⟩ : ∃ m, n = m + 1 := ⟨n - 1, by simp only [Span.Two] at t; omega⟩
    have pm := pow_i m
    have e : (2 : Int) ^ (m + 1) = 2 ^ m * 2 := Int.pow_succ 2 m
    simp only [Span.upper, Span.holds, Span.low, Nat.add_sub_cancel]
    rw [e, show l + 2 ^ m + 2 ^ m = l + 2 ^ m * 2 by omega]
    by_cases h1 : l + 2 ^ m ≤ z <;> by_cases h2 : z < l + 2 ^ m * 2 <;> simp [h1, h2] <;> omega
  | opn l =>
    rcases h with h | ⟨n, hn, h⟩
    · subst h
      simp only [Span.upper, if_pos rfl, Span.holds, Span.low]
      by_cases h1 : (1 : Int) ≤ z <;> simp [h1] <;> omega
    · subst h
      have pn := pow_i n
      simp only [Span.upper, if_neg (pow_ne n), Span.holds, Span.low]
      by_cases h1 : 2 * (2 : Int) ^ n ≤ z <;> simp [h1] <;> omega
theorem filter_lower {s : Span} (h : s.Ok) (t : s.Two) (hs : List Int) : hs.filter s.lower.holds = (hs.filter s.holds).filter fun z => decide (z < s.upper.low) := by
  rw [List.filter_filter]
  exact List.filter_congr fun z _ => by rw [holds_lower h t, Bool.and_comm]
theorem filter_upper {s : Span} (h : s.Ok) (t : s.Two) (hs : List Int) : hs.filter s.upper.holds = (hs.filter s.holds).filter fun z => decide (s.upper.low ≤ z) := by
  rw [List.filter_filter]
  exact List.filter_congr fun z _ => by rw [holds_upper h t, Bool.and_comm]
theorem len_split (p : Int) : ∀ xs : List Int, (xs.filter fun z => decide (z < p)).length + (xs.filter fun z => decide (p ≤ z)).length = xs.length
  | [] => rfl
  | x :: r => by
    have ih := len_split p r
    by_cases h : x < p
    · rw [List.filter_cons_of_pos (by simpa using h), List.filter_cons_of_neg (by simp; omega)]
      simp only [List.length_cons]; omega
    · rw [List.filter_cons_of_neg (by simpa using h), List.filter_cons_of_pos (by simp; omega)]
      simp only [List.length_cons]; omega
/-- what hands may be -/
structure HsOk (hs : List Int) : Prop where
  nd : hs.Nodup
  lt : ∀ z ∈ hs, z < 2 ^ 1000
  few : hs.length ≤ 1000
theorem hear_hush {hs : List Int} {s : Span} : hearF hs s = .hush ↔ hs.filter s.holds = [] := by
  unfold hearF
  rcases hs.filter s.holds with _ | ⟨x, _ | ⟨y, r⟩⟩ <;> simp [hearL]
theorem hear_word {hs : List Int} {s : Span} {n : Int} : hearF hs s = .word n ↔ hs.filter s.holds = [n] := by
  unfold hearF
  rcases hs.filter s.holds with _ | ⟨x, _ | ⟨y, r⟩⟩ <;> simp [hearL]
theorem hear_din {hs : List Int} {s : Span} : hearF hs s = .din ↔ 2 ≤ (hs.filter s.holds).length := by
  unfold hearF
  rcases hs.filter s.holds with _ | ⟨x, _ | ⟨y, r⟩⟩ <;> simp [hearL]
theorem big_pow : (2 : Int) ^ 1000 < 2 ^ 1800 := pow_lt (by decide)
theorem din_two {hs : List Int} {s : Span} (H : HsOk hs) (o : s.Ok) (d : hearF hs s = .din) : s.Two ∧ Sm 1800 s.low ∧ s.lower.rank < s.rank ∧ s.upper.rank < s.rank := by
  have d2 := hear_din.mp d
  obtain ⟨x, y, r, e⟩ : ∃ x y r, hs.filter s.holds = x :: y :: r := by
    match q : hs.filter s.holds, d2 with
    | x :: y :: r, _ => exact ⟨x, y, r, rfl⟩
    | [_], h => simp at h
    | [], h => simp at h
  have mx : x ∈ hs.filter s.holds := by rw [e]; simp
  have my : y ∈ hs.filter s.holds := by rw [e]; simp
  have nd : (hs.filter s.holds).Nodup := H.nd.filter _
  have ne : x ≠ y := by
    rw [e] at nd
    intro z
    rw [z] at nd
    simp at nd
  have hx := (List.mem_filter.mp mx)
  have hy := (List.mem_filter.mp my)
  have bx := H.lt x hx.1
  have nn := o.nn
  have lx : s.low ≤ x := by
    have := hx.2
    cases s <;> simp [Span.holds] at this <;> simp [Span.low] <;> omega
  have sm : Sm 1800 s.low := sm_of nn (by have := big_pow; omega)
  cases s with
  | half l n =>
    have t : 0 < n := by
      rcases Nat.eq_zero_or_pos n with z | z
      · subst z
        have a := hx.2
        have b := hy.2
        simp [Span.holds] at a b
        omega
      · exact z
    obtain ⟨m, rfl⟩ : ∃ m, n = m + 1 := ⟨n - 1, by omega⟩
    exact ⟨t, sm, by simp [Span.lower, Span.rank], by simp [Span.upper, Span.rank]⟩
  | opn l =>
    have lt : l < 2 ^ 1000 := by simp [Span.low] at lx; omega
    refine ⟨lt, sm, ?_⟩
    rcases o with h | ⟨n, hn, h⟩
    · subst h
      exact ⟨by decide, by decide +kernel⟩
    · subst h
      have := pow_inj lt
      refine ⟨?_, ?_⟩
      · simp only [Span.lower, Span.rank, if_neg (pow_ne n), log2_pow]
        omega
      · simp only [Span.upper, Span.rank, if_neg (pow_ne n)]
        rw [show (2 : Int) * 2 ^ n = 2 ^ (n + 1) from by rw [Int.pow_succ]; omega, if_neg (pow_ne (n + 1)), log2_pow, log2_pow]
        omega
theorem talk_din {hs : List Int} {s : Span} (H : HsOk hs) (o : s.Ok) (d : hearF hs s = .din) : talkF hs s = (s, .din) :: (talkF hs s.lower ++ talkF hs s.upper) := by
  obtain ⟨_, _, r1, r2⟩ := din_two H o d
  rw [talkF, dif_pos ⟨d, r1, r2⟩, d]
theorem talk_one {hs : List Int} {s : Span} (d : hearF hs s ≠ .din) : talkF hs s = [(s, hearF hs s)] := by
  rw [talkF, dif_neg fun z => d z.1]
/-- an induction over what comes of a call -/
theorem talk_ind {hs : List Int} (H : HsOk hs) {C : Span → Prop} (h1 : ∀ s, s.Ok → hearF hs s ≠ .din → C s) (h2 : ∀ s, s.Ok → hearF hs s = .din → s.Two → C s.lower → C s.upper → C s) : ∀ s, s.Ok → C s := by
  have key : ∀ n s, s.rank ≤ n → s.Ok → C s := by
    intro n
    induction n with
    | zero =>
      intro s hn o
      by_cases d : hearF hs s = .din
      · obtain ⟨_, _, r1, _⟩ := din_two H o d
        omega
      · exact h1 s o d
    | succ n ih =>
      intro s hn o
      by_cases d : hearF hs s = .din
      · obtain ⟨t, sm, r1, r2⟩ := din_two H o d
        exact h2 s o d t (ih _ (by omega) (o.lower t)) (ih _ (by omega) (o.upper t sm))
      · exact h1 s o d
  exact fun s o => key s.rank s (Nat.le_refl _) o
theorem talk_len {hs : List Int} (H : HsOk hs) : ∀ s, s.Ok → (talkF hs s).length ≤ 1 + 2 * (hs.filter s.holds).length * s.rank := by
  refine talk_ind H (fun s o d => by rw [talk_one d]; simp) fun s o d t h1 h2 => ?_
  obtain ⟨_, _, r1, r2⟩ := din_two H o d
  rw [talk_din H o d, List.length_cons, List.length_append]
  have d2 := hear_din.mp d
  have sp := len_split s.upper.low (hs.filter s.holds)
  rw [filter_lower o t] at h1
  rw [filter_upper o t] at h2
  generalize ((hs.filter s.holds).filter fun z => decide (z < s.upper.low)).length = a at *
  generalize ((hs.filter s.holds).filter fun z => decide (s.upper.low ≤ z)).length = b at *
  generalize (hs.filter s.holds).length = k at *
  obtain ⟨r, hr⟩ : ∃ r, s.rank = r + 1 := ⟨s.rank - 1, by omega⟩
  have g1 : 2 * a * s.lower.rank ≤ 2 * a * r := Nat.mul_le_mul_left _ (by omega)
  have g2 : 2 * b * s.upper.rank ≤ 2 * b * r := Nat.mul_le_mul_left _ (by omega)
  rw [hr]
  have e : 2 * k * (r + 1) = 2 * a * r + 2 * b * r + 2 * k := by
    rw [← sp, Nat.mul_add, Nat.mul_add, Nat.add_mul, Nat.mul_one, ← Nat.mul_add]
  omega
theorem rank_le (s : Span) (o : s.Ok) : s.rank ≤ 2001 := by
  cases s with
  | half l n => have := o.2.2.1; simp [Span.rank]; omega
  | opn l => simp [Span.rank]; split <;> omega
theorem talk_few {hs : List Int} (H : HsOk hs) (s : Span) (o : s.Ok) : (talkF hs s).length ≤ 4002001 := by
  have h := talk_len H s o
  have h1 : (hs.filter s.holds).length ≤ 1000 := Nat.le_trans (List.length_filter_le _ _) H.few
  have h2 := rank_le s o
  have : 2 * (hs.filter s.holds).length * s.rank ≤ 2000 * 2001 := Nat.mul_le_mul (by omega) h2
  omega
end
end Lc
namespace Lc
open Ev Lb PySem L2
local macro_rules | `(tactic| infer_instance) => `(tactic| first | (show _ = _; assumption) | exact row_0 _ | exact row_1 _ | exact hd_tag _ | exact hd_num _ | exact hd_eqDin _ | exact hd_eqHush _ | exact hd_eqWord _ _ | exact hd_neDin _ | exact hd_neHush _ | exact hd_neWord _ _ | exact hd_eq _ _ | exact hd_ne _ _ | apply row_bn | exact it_pair | exact fld_low _ | (show Wp _ _ _ _; first | apply w_seq | apply w_asg | apply w_asgT | apply w_skip | (apply w_appM; (focus (repeat (first | exact get0 | apply getS)))) | apply w_app | apply w_exp | apply w_ret | apply w_retN | apply w_rse | apply w_brk | apply w_cnt | apply w_aug | apply w_augS | apply w_tri | apply w_clr | apply w_clrT | apply w_setd | apply w_rem | apply w_rvsM | apply w_rvs | apply w_popA | apply w_ext) | apply q_nx | apply q_rt | apply q_er | apply q_bk | apply q_ct | (apply kq_nx; (focus rfl)) | (apply kq_er; (focus rfl)) | apply kq_rt | apply l_nx | apply l_ct | apply l_bk | apply l_rt | apply l_er | apply r_rt | apply r_nx | apply r_er | apply t_nx | apply t_rt | apply t_er | apply n_nx | apply n_rt | apply n_bk | apply n_ct | apply a_nx | apply a_rt | apply k_nx | apply k_rt | apply k_er | apply nx_nx | apply h_as rfl | apply h_one rfl | apply h_no rfl | (show xM _ _ _ = _; first | apply k_ex | apply k_mv | apply k_exf | apply k_tp | apply k_ls) | (show xv _ _ _ = _; first | apply v_var | exact ok_int | exact ok_bl | exact ok_str | exact ok_non | (apply ok_cst; rfl) | apply ok_bin | apply ok_cmp | apply ok_not | apply v_call | apply v_blt | apply v_idx | apply ok_fld | apply v_methR | apply v_newR | apply v_compA | apply v_comp | apply ok_tup | apply ok_lst | apply ok_chain | apply ok_neg | apply ok_and | apply ok_or | apply v_slc0 | apply v_slcL (nl := rfl) | apply v_slcH (nh := rfl) | apply v_slc (nl := rfl) (nh := rfl)) | (show xvs _ _ _ = _; first | exact oks_nil | apply oks_cons) | (show xb _ _ _ = _; first | exact o_add | exact o_sub | exact o_and | exact o_xor | apply p_mul | apply o_mod (by first | decide | assumption | exact pos_lpow (by decide) | exact Int.pow_pos (by decide) | omega) | apply p_fdiv (by first | decide | assumption | exact pos_lpow (by decide) | exact Int.pow_pos (by decide) | omega) | exact p_pow (by decide) (by decide) | apply o_shl1 | apply p_shlN | apply p_shlL | exact o_shr | exact p_shrL | apply c_map | apply c_lst | apply p_cat) | (show xp _ _ _ = _; first | exact o_eq | exact o_ne | exact o_lt | exact o_le | exact o_gt | exact o_ge | exact o_eqb | exact o_neb | exact o_isn | exact o_nisn | exact o_isb | exact o_nisb | exact o_eqs | exact o_nes | exact eq_nilO | exact ne_nilO | exact eq_nilP | exact ne_nilP | exact eq_nilI | exact ne_nilI | exact o_eqI | exact o_neI | exact in_ints | exact nin_ints) | (show xL _ _ _ = _; first | exact b_max | exact b_min | exact b_lenM | exact b_lenS | exact b_sorted | exact b_sortp | exact b_dict | exact b_dnew | apply b_dget | apply b_sortd | apply b_list | apply b_listT | apply b_listrevM | exact b_sum | exact b_all | exact b_intT | exact b_intF | exact b_intB | exact b_intI | exact b_abs | apply b_str | (rw [xL_eq]; assumption) | (rw [xL_eq]; rfl)) | (show xI _ _ = _; first | exact it_scr | apply it_seq | apply it_rng | exact it_rng2 (by omega) (by omega) | apply it_enum | apply it_zip | apply it_seqT | (rw [xI_eq]; assumption)) | (show xX _ _ = _; first | (apply i_mapL; rfl) | (apply i_lstL; rfl) | (apply i_tupL; rfl) | (apply i_scrL; rfl) | (rw [xX_eq]; assumption) | apply i_map | apply i_scr) | (show xS _ _ _ = _; first | exact s_scr | apply s_map) | (show Shds _ _; exact inferInstance) | (show ShEnv _ _; exact inferInstance) | (show NF _; exact inferInstance) | (show NFs _; exact inferInstance) | (show Shd _ _; exact inferInstance) | (show ShO _ _; exact inferInstance) | exact get0 | apply getS | exact set0 | apply setS | apply bn_nm | apply bn_tup | apply bn_lst | exact bs_nil | apply bs_cons | exact fz_nil | apply fz_cons | exact mk_nil | apply mk_in (by decide) | apply mk_out (by decide) | exact e0_nil | apply e0_none | apply e0_cons | (show Sm _ _; first | assumption | exact sm_int (by decide) | exact sm_int2 (by decide) | exact sm_nat (by omega) | exact sm_lpow (k := 220) (by decide) | exact sm_p2 (k := 1001) (by omega) | apply sm_mod (by first | decide | assumption | exact pos_lpow (by decide) | exact Int.pow_pos (by decide) | omega) | apply sm_add | apply sm_sub | apply sm_mul | apply sm_fdiv (by first | decide | assumption | exact pos_lpow (by decide) | exact Int.pow_pos (by decide) | omega) | apply sm_max | apply sm_min | apply sm_neg) | (show SLen _ _; first | assumption | apply sl_int | apply sl_app | exact sl_le (n := 64) (by decide)) | (show xMs _ _ _ = _; first | exact ks_nil | apply ks_cons) | (show NewR _ _ _ _; assumption) | (show MethR _ _ _ _ _; assumption) | rfl | apply bw | apply cb | apply cA | (show ∀ _ ∈ _, Cb _ _ _ _ _ _ _ _; intro _ _) | (show ∀ _ ∈ _, Ca _ _ _ _ _ _; intro _ _) | (show _ = true → xv _ _ _ = _; intro _) | (show _ ≤ (16777216 : Nat); omega) | (show _ < (16777216 : Nat); omega) | (show _ ≤ _; first | assumption | exact Nat.le_of_ble_eq_true rfl | decide | omega) | (show _ < _; first | assumption | decide | omega) | (show _ = true; first | assumption | decide) | (show _ = false; first | assumption | decide))
/-! ## The talk -/
instance nopy_span : NoPy Span.enc := ⟨fun s => by cases s <;> rfl⟩
instance nopy_row : NoPy rowE := ⟨fun r => by
  show (toPys [r.1.enc, r.2.enc]).map _ = none
  rw [toPys, nopy_span.no]; rfl⟩
/-- a kind of spans that goes down by halves -/
structure Cl (V : Span → Prop) : Prop where
  ok : ∀ s, V s → s.Ok
  lo : ∀ s, V s → s.Two → Sm 1800 s.low → V s.lower
  up : ∀ s, V s → s.Two → Sm 1800 s.low → V s.upper
theorem cl_ok : Cl Span.Ok := ⟨fun _ h => h, fun _ h t _ => h.lower t, fun _ h t m => h.upper t m⟩
theorem talk_oks {hs : List Int} (H : HsOk hs) : ∀ s, s.Ok → ∀ r ∈ talkF hs s, r.1.Ok := by
  refine talk_ind H (fun s o d => by rw [talk_one d]; intro r m; rw [List.mem_singleton.mp m]; exact o) fun s o d t h1 h2 => ?_
  rw [talk_din H o d]
  intro r m
  rcases List.mem_cons.mp m with m | m
  · rw [m]; exact o
  · rcases List.mem_append.mp m with m | m
    · exact h1 r m
    · exact h2 r m
def d_talk : Def := .fn 2 8
  (.seq (.exp (.call "on_line" (.cons (.var 0) (.cons (.var 1) .nil))))
  (.seq (.asg (.nm 2) (.ex (.lst .nil)))
  (.seq (.asg (.nm 3) (.ex (.lst (.cons (.var 1) .nil))))
  (.seq (.whl (.cmp .ne (.var 3) (.lst .nil))
  (.seq (.pop (.nm 4) 3)
  (.seq (.asg (.nm 5) (.ex (.call "heard" (.cons (.var 0) (.cons (.var 4) .nil)))))
  (.seq (.app 2 (.ex (.tup (.cons (.var 4) (.cons (.var 5) .nil)))))
  (.ife (.cmp .eq (.var 5) (.tup (.cons (.str "din") .nil)))
  (.seq (.asg (.tp [6, 7]) (.ex (.meth (.var 4) "halves" .nil)))
  (.seq (.app 3 (.ex (.var 7)))
  (.app 3 (.ex (.var 6)))))
  .skip)))))
  (.ret (.mv 2))))))
def HasTalk (V : Span → Prop) (G : Gam) : Prop := ∀ (hs : List Int) s, V s → (HsOk hs → onL hs s → xf G "talk" [.lst false (hs.map .int), s.enc] = .ok (.lst true ((talkF hs s).map rowE))) ∧ (¬ onL hs s → xf G "talk" [.lst false (hs.map .int), s.enc] = .er "NoHands")
/-- a talk that refuses too, whatever the hands -/
def HasTalkR (V : Span → Prop) (G : Gam) : Prop := ∀ (hs : List Int) s, V s → ¬ onL hs s → xf G "talk" [.lst false (hs.map .int), s.enc] = .er "NoHands"
section
variable {V : Span → Prop} {G G1 G2 : Gam} {kn : String → Bool}
theorem talk_er (hG : ∀ ds, xf G "talk" ds = chkE kn (callD G1 d_talk ds)) (hk : kn "NoHands" = true) (HL : HasOnLine V G1) : HasTalkR V G := by
  intro hs s hV hn
  generalize e_ : xf _ _ _ = o_; revert o_; refine to_ans ?_; apply call_x (hG) rfl; (focus repeat' (first | infer_instance | fail))
  apply w_seq
  refine w_expX inferInstance (er_call (ds := [.lst false (hs.map .int), s.enc]) ?_ inferInstance ((HL hs s hV).2 hn)) ?_
  · repeat' (first | infer_instance | fail)
  · exact q_er (k_er hk rfl)
theorem pile_len (hs : List Int) : ∀ st : List Span, st.length ≤ ((st.map (talkF hs)).flatten).length
  | [] => Nat.le_refl _
  | t :: r => by
    have := pile_len hs r
    have hpos : 0 < (talkF hs t).length := by rw [talkF]; simp
    simp only [List.map_cons, List.flatten_cons, List.length_cons, List.length_append]
    omega
theorem talk_has (hG : ∀ ds, xf G "talk" ds = chkE kn (callD G1 d_talk ds)) (hk : kn "NoHands" = true) (C : Cl V) (HL : HasOnLine V G1) (HH : HasHeard V G1) (HV : HasHalves V G1) : HasTalk V G := by
  intro hs s hV
  refine ⟨fun H on => ?_, fun n => talk_er hG hk HL hs s hV n⟩
  generalize e_ : xf _ _ _ = o_; revert o_; refine to_ans ?_; apply call_x (hG) rfl; (focus repeat' (first | infer_instance | fail))
  repeat' (first | exact (HL hs s hV).1 on | infer_instance | fail)
  have few := talk_few H s (C.ok s hV)
  refine w_whl (fun (a : List Span × List Row) δ => ∃ (x4 x5 x6 x7 : Option D), δ = [some (.lst false (hs.map .int)), some s.enc, some (.lst true (a.2.map rowE)), some (.lst true (a.1.reverse.map Span.enc)), x4, x5, x6, x7] ∧ (∀ t ∈ a.1, V t) ∧ a.2 ++ (a.1.map (talkF hs)).flatten = talkF hs s) (fun a => ((a.1.map (talkF hs)).flatten).length) ([s], []) ⟨none, none, none, none, rfl, by simpa using hV, by simp⟩ ?_
  rintro ⟨st, bk⟩ δ ⟨x4, x5, x6, x7, rfl, hst, hb⟩
  apply cw inferInstance; (focus repeat' (first | infer_instance | fail))
  cases st with
  | nil =>
    refine ⟨fun _ => ?_, fun h => by simp at h⟩
    repeat' (first | infer_instance | fail)
    simp at hb
    rw [hb]
  | cons t st =>
    refine ⟨fun h => by simp at h, fun _ => ?_⟩
    have hVt := hst t (by simp)
    have hot := C.ok t hVt
    have hl := congrArg List.length hb
    simp only [List.map_cons, List.flatten_cons, List.length_append] at hl
    simp only [List.map_cons, List.flatten_cons] at hb
    have hpos : 0 < (talkF hs t).length := by rw [talkF]; simp
    have hbl : bk.length < 16777216 := by omega
    rw [List.reverse_cons, List.map_append, List.map_cons, List.map_nil]
    have sl0 := pile_len hs st
    repeat' (first | exact HH hs t hVt (Nat.le_trans H.few (by decide)) | apply v_row | infer_instance | fail)
    (first | apply w_seq | skip); apply w_if inferInstance; (focus repeat' (first | infer_instance | fail))
    · intro hd
      simp at hd
      obtain ⟨two, sm, r1, r2⟩ := din_two H hot hd
      have e := talk_din H hot hd
      rw [e] at hl hb
      simp only [List.length_cons, List.length_append] at hl
      have sl : st.reverse.length + 1 < 16777216 := by rw [List.length_reverse]; omega
      have sl2 : (st.reverse ++ [t.upper]).length < 16777216 := by rw [List.length_append]; exact sl
      have sl3 : st.reverse.length < 16777216 := by omega
      repeat' (first | exact HV t hVt two sm | infer_instance | fail)
      refine ⟨(t.lower :: t.upper :: st, bk ++ [(t, hearF hs t)]), ⟨some t.enc, some (hearF hs t).enc, some t.lower.enc, some t.upper.enc, by simp, fun u m => ?_, ?_⟩, ?_⟩
      · simp only [List.mem_cons] at m
        rcases m with m | m | m
        · rw [m]; exact C.lo t hVt two sm
        · rw [m]; exact C.up t hVt two sm
        · exact hst u (by simp [m])
      · rw [← hb, hd]; simp
      · simp only [List.map_cons, List.flatten_cons]
        rw [e]; simp
    · intro hd
      simp at hd
      repeat' (first | infer_instance | fail)
      have e := talk_one hd
      refine ⟨(st, bk ++ [(t, hearF hs t)]), ⟨_, _, _, _, rfl, fun u m => hst u (by simp [m]), ?_⟩, ?_⟩
      · rw [← hb, e]; simp
      · simp only [List.map_cons, List.flatten_cons]
        rw [e]; simp
end
end Lc
namespace Lc
open Ev Lb PySem L2
local macro_rules | `(tactic| infer_instance) => `(tactic| first | (show _ = _; assumption) | exact row_0 _ | exact row_1 _ | exact hd_tag _ | exact hd_num _ | exact hd_eqDin _ | exact hd_eqHush _ | exact hd_eqWord _ _ | exact hd_neDin _ | exact hd_neHush _ | exact hd_neWord _ _ | exact hd_eq _ _ | exact hd_ne _ _ | apply row_bn | exact it_pair | exact fld_low _ | (show Wp _ _ _ _; first | apply w_seq | apply w_asg | apply w_asgT | apply w_skip | (apply w_appM; (focus (repeat (first | exact get0 | apply getS)))) | apply w_app | apply w_exp | apply w_ret | apply w_retN | apply w_rse | apply w_brk | apply w_cnt | apply w_aug | apply w_augS | apply w_tri | apply w_clr | apply w_clrT | apply w_setd | apply w_rem | apply w_rvsM | apply w_rvs | apply w_popA | apply w_ext) | apply q_nx | apply q_rt | apply q_er | apply q_bk | apply q_ct | (apply kq_nx; (focus rfl)) | (apply kq_er; (focus rfl)) | apply kq_rt | apply l_nx | apply l_ct | apply l_bk | apply l_rt | apply l_er | apply r_rt | apply r_nx | apply r_er | apply t_nx | apply t_rt | apply t_er | apply n_nx | apply n_rt | apply n_bk | apply n_ct | apply a_nx | apply a_rt | apply k_nx | apply k_rt | apply k_er | apply nx_nx | apply h_as rfl | apply h_one rfl | apply h_no rfl | (show xM _ _ _ = _; first | apply k_ex | apply k_mv | apply k_exf | apply k_tp | apply k_ls) | (show xv _ _ _ = _; first | apply v_var | exact ok_int | exact ok_bl | exact ok_str | exact ok_non | (apply ok_cst; rfl) | apply ok_bin | apply ok_cmp | apply ok_not | apply v_call | apply v_blt | apply v_idx | apply ok_fld | apply v_methR | apply v_newR | apply v_compA | apply v_comp | apply ok_tup | apply ok_lst | apply ok_chain | apply ok_neg | apply ok_and | apply ok_or | apply v_slc0 | apply v_slcL (nl := rfl) | apply v_slcH (nh := rfl) | apply v_slc (nl := rfl) (nh := rfl)) | (show xvs _ _ _ = _; first | exact oks_nil | apply oks_cons) | (show xb _ _ _ = _; first | exact o_add | exact o_sub | exact o_and | exact o_xor | apply p_mul | apply o_mod (by first | decide | assumption | exact pos_lpow (by decide) | exact Int.pow_pos (by decide) | omega) | apply p_fdiv (by first | decide | assumption | exact pos_lpow (by decide) | exact Int.pow_pos (by decide) | omega) | exact p_pow (by decide) (by decide) | apply o_shl1 | apply p_shlN | apply p_shlL | exact o_shr | exact p_shrL | apply c_map | apply c_lst | apply p_cat) | (show xp _ _ _ = _; first | exact o_eq | exact o_ne | exact o_lt | exact o_le | exact o_gt | exact o_ge | exact o_eqb | exact o_neb | exact o_isn | exact o_nisn | exact o_isb | exact o_nisb | exact o_eqs | exact o_nes | exact eq_nilO | exact ne_nilO | exact eq_nilP | exact ne_nilP | exact eq_nilI | exact ne_nilI | exact o_eqI | exact o_neI | exact in_ints | exact nin_ints) | (show xL _ _ _ = _; first | exact b_max | exact b_min | exact b_lenM | exact b_lenS | exact b_sorted | exact b_sortp | exact b_dict | exact b_dnew | apply b_dget | apply b_sortd | apply b_list | apply b_listT | apply b_listrevM | exact b_sum | exact b_all | exact b_intT | exact b_intF | exact b_intB | exact b_intI | exact b_abs | apply b_str | (rw [xL_eq]; assumption) | (rw [xL_eq]; rfl)) | (show xI _ _ = _; first | exact it_scr | apply it_seq | apply it_rng | exact it_rng2 (by omega) (by omega) | apply it_enum | apply it_zip | apply it_seqT | (rw [xI_eq]; assumption)) | (show xX _ _ = _; first | (apply i_mapL; rfl) | (apply i_lstL; rfl) | (apply i_tupL; rfl) | (apply i_scrL; rfl) | (rw [xX_eq]; assumption) | apply i_map | apply i_scr) | (show xS _ _ _ = _; first | exact s_scr | apply s_map) | (show Shds _ _; exact inferInstance) | (show ShEnv _ _; exact inferInstance) | (show NF _; exact inferInstance) | (show NFs _; exact inferInstance) | (show Shd _ _; exact inferInstance) | (show ShO _ _; exact inferInstance) | exact get0 | apply getS | exact set0 | apply setS | apply bn_nm | apply bn_tup | apply bn_lst | exact bs_nil | apply bs_cons | exact fz_nil | apply fz_cons | exact mk_nil | apply mk_in (by decide) | apply mk_out (by decide) | exact e0_nil | apply e0_none | apply e0_cons | (show Sm _ _; first | assumption | exact sm_int (by decide) | exact sm_int2 (by decide) | exact sm_nat (by omega) | exact sm_lpow (k := 220) (by decide) | exact sm_p2 (k := 1001) (by omega) | apply sm_mod (by first | decide | assumption | exact pos_lpow (by decide) | exact Int.pow_pos (by decide) | omega) | apply sm_add | apply sm_sub | apply sm_mul | apply sm_fdiv (by first | decide | assumption | exact pos_lpow (by decide) | exact Int.pow_pos (by decide) | omega) | apply sm_max | apply sm_min | apply sm_neg) | (show SLen _ _; first | assumption | apply sl_int | apply sl_app | exact sl_le (n := 64) (by decide)) | (show xMs _ _ _ = _; first | exact ks_nil | apply ks_cons) | (show NewR _ _ _ _; assumption) | (show MethR _ _ _ _ _; assumption) | rfl | apply bw | apply cb | apply cA | (show ∀ _ ∈ _, Cb _ _ _ _ _ _ _ _; intro _ _) | (show ∀ _ ∈ _, Ca _ _ _ _ _ _; intro _ _) | (show _ = true → xv _ _ _ = _; intro _) | (show _ ≤ (16777216 : Nat); omega) | (show _ < (16777216 : Nat); omega) | (show _ ≤ _; first | assumption | exact Nat.le_of_ble_eq_true rfl | decide | omega) | (show _ < _; first | assumption | decide | omega) | (show _ = true; first | assumption | decide) | (show _ = false; first | assumption | decide))
/-! ## Texts of numbers -/
/-- a number's figures -/
def numT (m : Nat) : List Nat := (PySem.Str.ofString (toString ((m : Nat) : Int))).cps.toList
theorem num_inj {m k : Nat} (h : numT m = numT k) : m = k := by
  have e := congrArg PySem.NumText.digitsVal h
  unfold numT at e
  rw [PySem.W.KIN.signs_num, PySem.W.KIN.signs_num, PySem.W.KIN.val_back, PySem.W.KIN.val_back] at e
  exact e
theorem num_plus (m : Nat) : 43 ∉ numT m := PyProof.Rows.int_text_free' 43 ⟨by decide, by decide⟩ _
theorem num_ne (m : Nat) : numT m ≠ [] := by
  unfold numT
  rw [PySem.W.KIN.signs_num]
  intro e
  have h := Nat.length_toDigits_pos (b := 10) (n := m)
  rw [List.map_eq_nil_iff.mp e] at h
  exact absurd h (by decide)
theorem cps_app (a b : PySem.Str) : (a ++ b).cps.toList = a.cps.toList ++ b.cps.toList := by
  show (a.cps ++ b.cps).toList = _
  rw [Array.toList_append]
theorem cps_inj {a b : PySem.Str} (h : a.cps.toList = b.cps.toList) : a = b := by
  cases a; cases b
  congr 1
  exact Array.toList_inj.mp h
theorem plus_cps : (PySem.Str.ofString "+").cps.toList = [43] := by decide +kernel
theorem cut_at {x : Nat} : ∀ {a c b d : List Nat}, x ∉ a → x ∉ c → a ++ x :: b = c ++ x :: d → a = c ∧ b = d
  | [], [], b, d, _, _, h => ⟨rfl, by simpa using h⟩
  | [], y :: c, b, d, _, hc, h => by simp at h; exact absurd (List.mem_cons.mpr (.inl h.1)) hc
  | y :: a, [], b, d, ha, _, h => by simp at h; exact absurd (List.mem_cons.mpr (.inl h.1.symm)) ha
  | y :: a, z :: c, b, d, ha, hc, h => by
    simp only [List.cons_append, List.cons.injEq] at h
    obtain ⟨e1, e2⟩ := cut_at (fun m => ha (List.mem_cons_of_mem _ m)) (fun m => hc (List.mem_cons_of_mem _ m)) h.2
    exact ⟨by rw [h.1, e1], e2⟩
/-- a span's text, sign by sign -/
theorem half_cps (l n : Nat) : (Span.half (l : Int) n).shown.cps.toList = numT l ++ 43 :: numT n := by
  show ((PySem.Str.ofString (toString ((l : Nat) : Int)) ++ PySem.Str.ofString "+") ++ PySem.Str.ofString (toString ((n : Nat) : Int))).cps.toList = _
  rw [cps_app, cps_app, plus_cps]
  simp [numT]
theorem opn_cps (l : Nat) : (Span.opn (l : Int)).shown.cps.toList = numT l ++ [43] := by
  show (PySem.Str.ofString (toString ((l : Nat) : Int)) ++ PySem.Str.ofString "+").cps.toList = _
  rw [cps_app, plus_cps]
  rfl
theorem Span.Ok.nat {s : Span} (h : s.Ok) : ∃ l : Nat, s.low = l := ⟨s.low.toNat, by have := h.nn; omega⟩
theorem shown_inj {s t : Span} (hs : s.Ok) (ht : t.Ok) : s.shown = t.shown ↔ s = t := by
  refine ⟨fun h => ?_, fun h => by rw [h]⟩
  have e := congrArg (fun z => z.cps.toList) h
  obtain ⟨a, ea⟩ := hs.nat
  obtain ⟨b, eb⟩ := ht.nat
  cases s with
  | half l n =>
    have ea' : l = a := ea
    subst ea'
    cases t with
    | half l' n' =>
      have eb' : l' = b := eb
      subst eb'
      simp only [half_cps] at e
      obtain ⟨e1, e2⟩ := cut_at (num_plus _) (num_plus _) e
      rw [num_inj e1, num_inj e2]
    | opn l' =>
      have eb' : l' = b := eb
      subst eb'
      simp only [half_cps, opn_cps] at e
      obtain ⟨e1, e2⟩ := cut_at (num_plus _) (num_plus _) e
      exact (num_ne _ e2).elim
  | opn l =>
    have ea' : l = a := ea
    subst ea'
    cases t with
    | half l' n' =>
      have eb' : l' = b := eb
      subst eb'
      simp only [half_cps, opn_cps] at e
      obtain ⟨e1, e2⟩ := cut_at (num_plus _) (num_plus _) e
      exact (num_ne _ e2.symm).elim
    | opn l' =>
      have eb' : l' = b := eb
      subst eb'
      simp only [opn_cps] at e
      obtain ⟨e1, e2⟩ := cut_at (num_plus _) (num_plus _) e
      rw [num_inj e1]
def Span.isOpn : Span → Bool
  | .half _ _ => false
  | .opn _ => true
theorem atI_last {α : Type} (xs : List α) (h : xs ≠ []) : atI xs (-1) = xs.getLast? := by
  have hp : 0 < xs.length := List.length_pos_iff.mpr h
  unfold atI ixN
  rw [if_neg (by omega), if_pos (by omega)]
  simp only [Option.bind_some]
  rw [List.getLast?_eq_getElem?]
  congr 1
  omega
theorem shown_len {s : Span} (h : s.Ok) : s.shown.length ≤ 4000 := by
  cases s with
  | half l n =>
    have l1 := sl_out (sl_int (i := l) h.2.2.2 (by decide))
    have l2 := sl_out (sl_int (i := (n : Int)) (sm_nat (by have := h.2.2.1; omega)) (by decide))
    show ((toString l ++ ("+" : PySem.Str)) ++ toString (n : Int)).length ≤ _
    rw [PySem.Str.length_append, PySem.Str.length_append]
    have : (("+" : PySem.Str)).length = 1 := by decide
    omega
  | opn l =>
    have l1 := sl_out (sl_int (i := l) h.sm (by decide))
    show ((toString l ++ ("+" : PySem.Str))).length ≤ _
    rw [PySem.Str.length_append]
    have : (("+" : PySem.Str)).length = 1 := by decide
    omega
/-- the text's last sign tells the kind -/
theorem shown_last {s : Span} (h : s.Ok) : ∃ z : PySem.Str, xX (.str s.shown) (.int (-1)) = .ok (.str z) ∧ (z == ("+" : PySem.Str)) = s.isOpn := by
  obtain ⟨a, ea⟩ := h.nat
  have key : ∀ (cs : List Nat) (c : Nat), s.shown.cps.toList = cs ++ [c] → (c = 43 ↔ s.isOpn = true) → ∃ z : PySem.Str, xX (.str s.shown) (.int (-1)) = .ok (.str z) ∧ (z == ("+" : PySem.Str)) = s.isOpn := by
    intro cs c e hc
    refine ⟨⟨#[c]⟩, ?_, ?_⟩
    · have hl := shown_len h
      rw [xX_eq, idxF, if_pos (show s.shown.length ≤ lineN by show _ ≤ 16777216; omega), atI_last _ (by rw [e]; simp), e, List.getLast?_append]
      rfl
    · have p : (PySem.Str.ofString "+") = ⟨#[43]⟩ := cps_inj (by rw [plus_cps])
      rw [p]
      by_cases q : c = 43
      · subst q; rw [hc.mp rfl]; decide
      · have : s.isOpn = false := by
          cases r : s.isOpn with
          | false => rfl
          | true => exact (q (hc.mpr r)).elim
        rw [this]
        refine beq_eq_false_iff_ne.mpr fun z => ?_
        have := congrArg (fun w => w.cps.toList) z
        simp at this
        exact q this
  cases s with
  | half l n =>
    have ea' : l = a := ea
    subst ea'
    obtain ⟨ds, d, hd⟩ : ∃ ds d, numT n = ds ++ [d] := ⟨(numT n).dropLast, (numT n).getLast (num_ne n), (List.dropLast_concat_getLast (num_ne n)).symm⟩
    refine key (numT a ++ 43 :: ds) d (by rw [half_cps, hd]; simp) ⟨fun q => ?_, fun q => by cases q⟩
    exact absurd (by rw [hd, q]; simp) (num_plus n)
  | opn l =>
    have ea' : l = a := ea
    subst ea'
    exact key (numT a) 43 (opn_cps a) ⟨fun _ => rfl, fun _ => rfl⟩
/-! ## Numbers by bits -/
theorem bxor_lt {x y : Int} {n : Nat} (hx : 0 ≤ x ∧ x < 2 ^ n) (hy : 0 ≤ y ∧ y < 2 ^ n) : 0 ≤ Builtin.bitXor x y ∧ Builtin.bitXor x y < 2 ^ n := by
  rw [Bits.bitXor_pp hx.1 hy.1]
  have e : ((2 ^ n : Nat) : Int) = 2 ^ n := by simp
  have h := Nat.xor_lt_two_pow (n := n) (x := x.toNat) (y := y.toNat) (by omega) (by omega)
  omega
section
variable {G G1 : Gam} {kn : String → Bool}
theorem isE_false {α : Type} {xs : List α} (h : xs.isEmpty = false) : 0 < xs.length := by
  cases xs with
  | nil => cases h
  | cons x r => simp
theorem atN {α : Type} {xs : List α} {k : Nat} (h : k < xs.length) : ∃ x, xs[k]? = some x ∧ x ∈ xs := ⟨xs[k], by simp [h], List.getElem_mem h⟩
/-- a number of so many bits, drawn, or near another hand -/
def HasNumber (G : Gam) : Prop := ∀ (cell : Int) (w : Nat) (hs : List Int), w ≤ 300 → (∀ z ∈ hs, 0 ≤ z ∧ z < 2 ^ w) → ∃ z : Int, xf G "_law_number" [.int cell, .int w, .lst false (hs.map .int)] = .ok (.int z) ∧ 0 ≤ z ∧ z < 2 ^ w
theorem number_has (hG : ∀ ds, xf G "_law_number" ds = chkE kn (callD G1 d__law_number ds)) (H : HasStir G1) : HasNumber G := by
  intro cell w hs hw hb
  obtain ⟨x1, e1, p1, s1⟩ := H cell 1 (sm_lit (by decide))
  obtain ⟨x2, e2, p2, s2⟩ := H cell 2 (sm_lit (by decide))
  obtain ⟨x3, e3, p3, s3⟩ := H cell 3 (sm_lit (by decide))
  obtain ⟨x4, e4, p4, s4⟩ := H cell 4 (sm_lit (by decide))
  have pw := pow_i w
  generalize e_ : xf _ _ _ = o_; revert o_; refine to_ans ?_; apply call_x (hG) rfl; (focus repeat' (first | infer_instance | fail))
  (first | apply w_seq | skip); apply w_if inferInstance; (focus repeat' (first | infer_instance | fail))
  · intro _
    repeat' (first | infer_instance | fail)
    exact ⟨_, rfl, Int.emod_nonneg _ (by omega), Int.emod_lt_of_pos _ pw⟩
  intro _
  repeat' (first | infer_instance | fail)
  (first | apply w_seq | skip); apply w_if inferInstance; (focus repeat' (first | infer_instance | fail))
  · intro _
    repeat' (first | infer_instance | fail)
    exact ⟨_, rfl, Int.emod_nonneg _ (by omega), Int.emod_lt_of_pos _ pw⟩
  intro h
  have hpos := isE_false (xs := hs) (by simp at h; simpa using h.2)
  obtain ⟨q, q1, m3⟩ := mod_nat x3 (hs.length : Nat) (by omega)
  obtain ⟨j, j1, m4⟩ := mod_nat x4 ((w : Nat) + 1) (by omega)
  obtain ⟨x, hx, mx⟩ := atN (xs := hs) (k := q) (by omega)
  have pj := pow_i j
  have le := pow_le (a := j) (b := w) (by omega)
  generalize hN : x1 * 2 ^ 100 + x2 = N
  have := bxor_lt (n := w) (hb x mx) (y := N % 2 ^ j) ⟨Int.emod_nonneg _ (by omega), by have := Int.emod_lt_of_pos N pj; omega⟩
  repeat' (first | infer_instance | fail)

  exact ⟨_, rfl, this⟩
end
end Lc
namespace Lc
open Ev Lb PySem L2
local macro_rules | `(tactic| infer_instance) => `(tactic| first | (show _ = _; assumption) | exact row_0 _ | exact row_1 _ | exact hd_tag _ | exact hd_num _ | exact hd_eqDin _ | exact hd_eqHush _ | exact hd_eqWord _ _ | exact hd_neDin _ | exact hd_neHush _ | exact hd_neWord _ _ | exact hd_eq _ _ | exact hd_ne _ _ | apply row_bn | exact it_pair | exact fld_low _ | (show Wp _ _ _ _; first | apply w_seq | apply w_asg | apply w_asgT | apply w_skip | (apply w_appM; (focus (repeat (first | exact get0 | apply getS)))) | apply w_app | apply w_exp | apply w_ret | apply w_retN | apply w_rse | apply w_brk | apply w_cnt | apply w_aug | apply w_augS | apply w_tri | apply w_clr | apply w_clrT | apply w_setd | apply w_rem | apply w_rvsM | apply w_rvs | apply w_popA | apply w_ext) | apply q_nx | apply q_rt | apply q_er | apply q_bk | apply q_ct | (apply kq_nx; (focus rfl)) | (apply kq_er; (focus rfl)) | apply kq_rt | apply l_nx | apply l_ct | apply l_bk | apply l_rt | apply l_er | apply r_rt | apply r_nx | apply r_er | apply t_nx | apply t_rt | apply t_er | apply n_nx | apply n_rt | apply n_bk | apply n_ct | apply a_nx | apply a_rt | apply k_nx | apply k_rt | apply k_er | apply nx_nx | apply h_as rfl | apply h_one rfl | apply h_no rfl | (show xM _ _ _ = _; first | apply k_ex | apply k_mv | apply k_exf | apply k_tp | apply k_ls) | (show xv _ _ _ = _; first | apply v_var | exact ok_int | exact ok_bl | exact ok_str | exact ok_non | (apply ok_cst; rfl) | apply ok_bin | apply ok_cmp | apply ok_not | apply v_call | apply v_blt | apply v_idx | apply ok_fld | apply v_methR | apply v_newR | apply v_compA | apply v_comp | apply ok_tup | apply ok_lst | apply ok_chain | apply ok_neg | apply ok_and | apply ok_or | apply v_slc0 | apply v_slcL (nl := rfl) | apply v_slcH (nh := rfl) | apply v_slc (nl := rfl) (nh := rfl)) | (show xvs _ _ _ = _; first | exact oks_nil | apply oks_cons) | (show xb _ _ _ = _; first | exact o_add | exact o_sub | exact o_and | exact o_xor | apply p_mul | apply o_mod (by first | decide | assumption | exact pos_lpow (by decide) | exact Int.pow_pos (by decide) | omega) | apply p_fdiv (by first | decide | assumption | exact pos_lpow (by decide) | exact Int.pow_pos (by decide) | omega) | exact p_pow (by decide) (by decide) | apply o_shl1 | apply p_shlN | apply p_shlL | exact o_shr | exact p_shrL | apply c_map | apply c_lst | apply p_cat) | (show xp _ _ _ = _; first | exact o_eq | exact o_ne | exact o_lt | exact o_le | exact o_gt | exact o_ge | exact o_eqb | exact o_neb | exact o_isn | exact o_nisn | exact o_isb | exact o_nisb | exact o_eqs | exact o_nes | exact eq_nilO | exact ne_nilO | exact eq_nilP | exact ne_nilP | exact eq_nilI | exact ne_nilI | exact o_eqI | exact o_neI | exact in_ints | exact nin_ints) | (show xL _ _ _ = _; first | exact b_max | exact b_min | exact b_lenM | exact b_lenS | exact b_sorted | exact b_sortp | exact b_dict | exact b_dnew | apply b_dget | apply b_sortd | apply b_list | apply b_listT | apply b_listrevM | exact b_sum | exact b_all | exact b_intT | exact b_intF | exact b_intB | exact b_intI | exact b_abs | apply b_str | (rw [xL_eq]; assumption) | (rw [xL_eq]; rfl)) | (show xI _ _ = _; first | exact it_scr | apply it_seq | apply it_rng | exact it_rng2 (by omega) (by omega) | apply it_enum | apply it_zip | apply it_seqT | (rw [xI_eq]; assumption)) | (show xX _ _ = _; first | (apply i_mapL; rfl) | (apply i_lstL; rfl) | (apply i_tupL; rfl) | (apply i_scrL; rfl) | (rw [xX_eq]; assumption) | apply i_map | apply i_scr) | (show xS _ _ _ = _; first | exact s_scr | apply s_map) | (show Shds _ _; exact inferInstance) | (show ShEnv _ _; exact inferInstance) | (show NF _; exact inferInstance) | (show NFs _; exact inferInstance) | (show Shd _ _; exact inferInstance) | (show ShO _ _; exact inferInstance) | exact get0 | apply getS | exact set0 | apply setS | apply bn_nm | apply bn_tup | apply bn_lst | exact bs_nil | apply bs_cons | exact fz_nil | apply fz_cons | exact mk_nil | apply mk_in (by decide) | apply mk_out (by decide) | exact e0_nil | apply e0_none | apply e0_cons | (show Sm _ _; first | assumption | exact sm_int (by decide) | exact sm_int2 (by decide) | exact sm_nat (by omega) | exact sm_lpow (k := 220) (by decide) | exact sm_p2 (k := 1001) (by omega) | apply sm_mod (by first | decide | assumption | exact pos_lpow (by decide) | exact Int.pow_pos (by decide) | omega) | apply sm_add | apply sm_sub | apply sm_mul | apply sm_fdiv (by first | decide | assumption | exact pos_lpow (by decide) | exact Int.pow_pos (by decide) | omega) | apply sm_max | apply sm_min | apply sm_neg) | (show SLen _ _; first | assumption | apply sl_int | apply sl_app | exact sl_le (n := 64) (by decide)) | (show xMs _ _ _ = _; first | exact ks_nil | apply ks_cons) | (show NewR _ _ _ _; assumption) | (show MethR _ _ _ _ _; assumption) | rfl | apply bw | apply cb | apply cA | (show ∀ _ ∈ _, Cb _ _ _ _ _ _ _ _; intro _ _) | (show ∀ _ ∈ _, Ca _ _ _ _ _ _; intro _ _) | (show _ = true → xv _ _ _ = _; intro _) | (show _ ≤ (16777216 : Nat); omega) | (show _ < (16777216 : Nat); omega) | (show _ ≤ _; first | assumption | exact Nat.le_of_ble_eq_true rfl | decide | omega) | (show _ < _; first | assumption | decide | omega) | (show _ = true; first | assumption | decide) | (show _ = false; first | assumption | decide))
/-! ## Short talks -/
def shortF (hs : List Int) (s : Span) (sure : Bool) : List Row :=
  (if sure then [] else [(s, hearF hs s)]) ++ if h : hearF hs s = .din ∧ s.lower.rank < s.rank ∧ s.upper.rank < s.rank then shortF hs s.lower false ++ shortF hs s.upper (decide (hearF hs s.lower = .hush)) else []
termination_by s.rank
decreasing_by
  · exact h.2.1
  · exact h.2.2
theorem short_din {hs : List Int} {s : Span} (H : HsOk hs) (o : s.Ok) (d : hearF hs s = .din) (b : Bool) : shortF hs s b = (if b then [] else [(s, .din)]) ++ (shortF hs s.lower false ++ shortF hs s.upper (decide (hearF hs s.lower = .hush))) := by
  obtain ⟨_, _, r1, r2⟩ := din_two H o d
  rw [shortF, dif_pos ⟨d, r1, r2⟩, d]
theorem short_one {hs : List Int} {s : Span} (d : hearF hs s ≠ .din) (b : Bool) : shortF hs s b = if b then [] else [(s, hearF hs s)] := by
  rw [shortF, dif_neg fun z => d z.1, List.append_nil]
theorem short_le {hs : List Int} (H : HsOk hs) : ∀ s, s.Ok → ∀ b, (shortF hs s b).length ≤ (talkF hs s).length := by
  refine talk_ind H (fun s o d b => by rw [short_one d, talk_one d]; cases b <;> simp) fun s o d t h1 h2 b => ?_
  rw [short_din H o d, talk_din H o d]
  have a1 := h1 false
  have a2 := h2 (decide (hearF hs s.lower = .hush))
  cases b <;> simp <;> omega
def d_short_talk : Def := .fn 2 9
  (.seq (.exp (.call "on_line" (.cons (.var 0) (.cons (.var 1) .nil))))
  (.seq (.asg (.nm 2) (.ex (.lst .nil)))
  (.seq (.asg (.nm 3) (.ex (.lst (.cons (.tup (.cons (.var 1) (.cons (.bl false) .nil))) .nil))))
  (.seq (.whl (.cmp .ne (.var 3) (.lst .nil))
  (.seq (.pop (.tp [4, 5]) 3)
  (.seq (.asg (.nm 6) (.ex (.call "heard" (.cons (.var 0) (.cons (.var 4) .nil)))))
  (.seq (.ife (.not (.var 5))
  (.app 2 (.ex (.tup (.cons (.var 4) (.cons (.var 6) .nil)))))
  .skip)
  (.ife (.cmp .eq (.var 6) (.tup (.cons (.str "din") .nil)))
  (.seq (.asg (.tp [7, 8]) (.ex (.meth (.var 4) "halves" .nil)))
  (.seq (.app 3 (.ex (.tup (.cons (.var 8) (.cons (.cmp .eq (.call "heard" (.cons (.var 0) (.cons (.var 7) .nil))) (.tup (.cons (.str "hush") .nil))) .nil)))))
  (.app 3 (.ex (.tup (.cons (.var 7) (.cons (.bl false) .nil)))))))
  .skip)))))
  (.ret (.mv 2))))))
def sureE (p : Span × Bool) : D := .tup [p.1.enc, .bl p.2]
instance (p : Span × Bool) : Shd (sureE p) (sureE p) := ⟨by obtain ⟨s, b⟩ := p; cases s <;> rfl⟩
instance (p : Span × Bool) : NF (sureE p) := ⟨by obtain ⟨s, b⟩ := p; cases s <;> rfl⟩
instance : NoPy sureE := ⟨fun r => by
  show (toPys [r.1.enc, .bl r.2]).map _ = none
  rw [toPys, nopy_span.no]; rfl⟩
theorem v_sure {G : Gam} {ρ : Ev.Env} {a b : E} {s : Span} {h : Bool} (h1 : xv G ρ a = .ok s.enc) (h2 : xv G ρ b = .ok (.bl h)) : xv G ρ (.tup (.cons a (.cons b .nil))) = .ok (sureE (s, h)) := ok_tup (oks_cons h1 (oks_cons h2 oks_nil)) (Nat.le_of_ble_eq_true rfl)
def HasShort (V : Span → Prop) (G : Gam) : Prop := ∀ (hs : List Int) s, V s → (HsOk hs → onL hs s → xf G "short_talk" [.lst false (hs.map .int), s.enc] = .ok (.lst true ((shortF hs s false).map rowE))) ∧ (¬ onL hs s → xf G "short_talk" [.lst false (hs.map .int), s.enc] = .er "NoHands")
section
variable {V : Span → Prop} {G G1 G2 : Gam} {kn : String → Bool}
theorem short_has (hG : ∀ ds, xf G "short_talk" ds = chkE kn (callD G1 d_short_talk ds)) (hk : kn "NoHands" = true) (C : Cl V) (HL : HasOnLine V G1) (HH : HasHeard V G1) (HV : HasHalves V G1) : HasShort V G := by
  intro hs s hV
  refine ⟨fun H on => ?_, fun hn => ?_⟩
  · generalize e_ : xf _ _ _ = o_; revert o_; refine to_ans ?_; apply call_x (hG) rfl; (focus repeat' (first | infer_instance | fail))
    repeat' (first | exact (HL hs s hV).1 on | infer_instance | fail)
    have few := talk_few H s (C.ok s hV)
    refine w_whl (fun (a : List (Span × Bool) × List Row) δ => ∃ (x4 x5 x6 x7 x8 : Option D), δ = [some (.lst false (hs.map .int)), some s.enc, some (.lst true (a.2.map rowE)), some (.lst true (a.1.reverse.map sureE)), x4, x5, x6, x7, x8] ∧ (∀ t ∈ a.1, V t.1) ∧ a.2 ++ (a.1.map fun p => shortF hs p.1 p.2).flatten = shortF hs s false ∧ a.2.length + ((a.1.map fun p => talkF hs p.1).flatten).length ≤ (talkF hs s).length) (fun a => ((a.1.map fun p => talkF hs p.1).flatten).length) ([(s, false)], []) ⟨none, none, none, none, none, rfl, by simpa using hV, by simp, by simp⟩ ?_
    rintro ⟨st, bk⟩ δ ⟨x4, x5, x6, x7, x8, rfl, hst, hb, hl⟩
    apply cw inferInstance; (focus repeat' (first | infer_instance | fail))
    cases st with
    | nil =>
      refine ⟨fun _ => ?_, fun h => by simp at h⟩
      repeat' (first | infer_instance | fail)
      simp at hb
      rw [hb]
    | cons t st =>
      refine ⟨fun h => by simp at h, fun _ => ?_⟩
      have hVt := hst t (by simp)
      have hot := C.ok _ hVt
      obtain ⟨t, sure⟩ := t
      simp only [List.map_cons, List.flatten_cons, List.length_append] at hl
      simp only [List.map_cons, List.flatten_cons] at hb
      have hpos : 0 < (talkF hs t).length := by rw [talkF]; simp
      have hbl : bk.length < 16777216 := by omega
      rw [List.reverse_cons, List.map_append, List.map_cons, List.map_nil]
      have sl0 := pile_len hs (st.map (·.1))
      rw [List.map_map, List.length_map] at sl0
      have sl1 : st.length ≤ ((st.map fun p => talkF hs p.1).flatten).length := sl0
      show Wp _ _ [_, _, _, some (D.lst true (_ ++ [D.tup [t.enc, .bl sure]])), _, _, _, _, _] _
      repeat' (first | exact HH hs t hVt (Nat.le_trans H.few (by decide)) | infer_instance | fail)
      refine w_mid (fun δ => δ = [some (.lst false (hs.map .int)), some s.enc, some (.lst true ((bk ++ if sure then [] else [(t, hearF hs t)]).map rowE)), some (.lst true (st.reverse.map sureE)), some t.enc, some (.bl sure), some (hearF hs t).enc, x7, x8]) ?_ ?_
      · cases sure with
        | true =>
          (first | apply w_seq | skip); apply w_ifF inferInstance; (focus repeat' (first | infer_instance | fail))
          · rfl
          repeat' (first | infer_instance | fail)
          simp
        | false =>
          (first | apply w_seq | skip); apply w_ifT inferInstance; (focus repeat' (first | infer_instance | fail))
          · rfl
          repeat' (first | apply v_row | infer_instance | fail)
      rintro δ rfl
      (first | apply w_seq | skip); apply w_if inferInstance; (focus repeat' (first | infer_instance | fail))
      · intro hd
        simp at hd
        obtain ⟨two, sm, r1, r2⟩ := din_two H hot hd
        have e := talk_din H hot hd
        rw [short_din H hot hd] at hb
        rw [e] at hl
        simp only [List.length_cons, List.length_append] at hl
        have lo := C.lo t hVt two sm
        have up := C.up t hVt two sm
        repeat' (first | exact HV t hVt two sm | exact HH hs t.lower lo (Nat.le_trans H.few (by decide)) | (show List.length _ < (16777216 : Nat); simp; omega) | apply v_sure | infer_instance | fail)
        refine ⟨((t.lower, false) :: (t.upper, decide (hearF hs t.lower = .hush)) :: st, bk ++ if sure then [] else [(t, .din)]), ⟨some t.enc, some (.bl sure), some (hearF hs t).enc, some t.lower.enc, some t.upper.enc, by simp [hd], fun u m => ?_, ?_, ?_⟩, ?_⟩
        · simp only [List.mem_cons] at m
          rcases m with m | m | m
          · rw [m]; exact lo
          · rw [m]; exact up
          · exact hst u (by simp [m])
        · rw [← hb]; simp
        · have q : (if sure then ([] : List Row) else [(t, .din)]).length ≤ 1 := by cases sure <;> simp
          simp only [List.map_cons, List.flatten_cons, List.length_append]
          omega
        · simp only [List.map_cons, List.flatten_cons]
          rw [e]; simp
      · intro hd
        simp at hd
        repeat' (first | infer_instance | fail)
        have e := talk_one hd
        rw [e] at hl
        refine ⟨(st, bk ++ if sure then [] else [(t, hearF hs t)]), ⟨_, _, _, _, _, rfl, fun u m => hst u (by simp [m]), ?_, ?_⟩, ?_⟩
        · rw [← hb, short_one hd]; simp
        · have q : (if sure then ([] : List Row) else [(t, hearF hs t)]).length ≤ 1 := by cases sure <;> simp
          simp only [List.length_append]
          simp only [List.length_singleton] at hl
          omega
        · simp only [List.map_cons, List.flatten_cons]
          rw [e]; simp
  · generalize e_ : xf _ _ _ = o_; revert o_; refine to_ans ?_; apply call_x (hG) rfl; (focus repeat' (first | infer_instance | fail))
    apply w_seq
    (first | apply w_asgX inferInstance | apply w_expX inferInstance | apply w_retX inferInstance); (focus repeat' (first | exact (HL hs s hV).2 hn | apply er_call | apply er_methR | apply er_newR | infer_instance | fail))
    repeat' (first | infer_instance | fail)
/-! ## What a short talk saves -/
def hdAt (b : List Row) (i : Nat) : Option Hd := (b[i]?).map (·.2)
def savN (b : List Row) (k : Nat) : Nat := ((List.range k).filter fun i => decide (hdAt b i = some .din ∧ hdAt b (i + 1) = some .hush)).length
def d_saving : Def := .fn 2 5
  (.seq (.asg (.nm 2) (.ex (.call "talk" (.cons (.var 0) (.cons (.call "top_of" (.cons (.var 1) .nil)) .nil)))))
  (.seq (.asg (.nm 3) (.ex (.int 0)))
  (.seq (.for_ (.nm 4) .rng2 none (.cons (.int 1) (.cons (.blt .len (.cons (.var 2) .nil)) .nil))
  (.ife (.and (.cmp .eq (.idx (.idx (.var 2) (.bin .sub (.var 4) (.int 1))) (.int 1)) (.tup (.cons (.str "din") .nil))) (.cmp .eq (.idx (.idx (.var 2) (.var 4)) (.int 1)) (.tup (.cons (.str "hush") .nil))))
  (.aug 3 .add (.int 1))
  .skip))
  (.ret (.ex (.var 3))))))
def HasSaving (G : Gam) : Prop := ∀ (hs : List Int) (n : Nat), n ≤ 1000 → (HsOk hs → onL hs (.half 0 n) → xf G "saving" [.lst false (hs.map .int), .int n] = .ok (.int (savN (talkF hs (.half 0 n)) ((talkF hs (.half 0 n)).length - 1) : Nat))) ∧ (¬ onL hs (.half 0 n) → xf G "saving" [.lst false (hs.map .int), .int n] = .er "NoHands")
theorem top_okn {n : Nat} (h : n ≤ 1000) : (Span.half 0 n).Ok := ⟨by decide, by simp, h, sm_int (by decide) |>.up (by decide)⟩
theorem sav_step (b : List Row) (k : Nat) : savN b (k + 1) = savN b k + if hdAt b k = some .din ∧ hdAt b (k + 1) = some .hush then 1 else 0 := by
  unfold savN
  rw [List.range_succ, List.filter_append, List.length_append]
  congr 1
  by_cases h : hdAt b k = some .din ∧ hdAt b (k + 1) = some .hush
  · rw [if_pos h, List.filter_cons_of_pos (by simpa using h)]; rfl
  · rw [if_neg h, List.filter_cons_of_neg (by simpa using h)]; rfl
theorem saving_has (hG : ∀ ds, xf G "saving" ds = chkE kn (callD G1 d_saving ds)) (hk : kn "NoHands" = true) (HT : HasTalk Span.Ok G1) (HP : HasTop G1) : HasSaving G := by
  intro hs n hn
  have tp := HP.1 n hn
  have ok := top_okn hn
  have tp' : xf G1 "top_of" [.int n] = .ok (Span.half 0 n).enc := tp
  clear tp
  refine ⟨fun H on => ?_, fun hno => ?_⟩
  · generalize e_ : xf _ _ _ = o_; revert o_; refine to_ans ?_; apply call_x (hG) rfl; (focus repeat' (first | infer_instance | fail))
    have few := talk_few H _ ok
    have tk := (HT hs _ ok).1 H on
    generalize talkF hs (.half 0 n) = b at *
    repeat' (first | infer_instance | fail)
    (first | apply w_seq | skip); apply w_for inferInstance; (focus repeat' (first | infer_instance | fail)); (focus repeat' (first | infer_instance | fail)); (focus repeat' (first | infer_instance | fail))
    refine fl_ix (fun k δ => ∃ (x4 : Option D), δ = [some (.lst false (hs.map .int)), some (.int n), some (.lst true (b.map rowE)), some (.int (savN b k : Nat)), x4]) ⟨_, rfl⟩ ?_ ?_
    · rintro k y δ hy ⟨x4, rfl⟩
      have hkl : k < ((b.length : Int) - 1).toNat := by
        have := (List.getElem?_eq_some_iff.mp hy).1
        simpa using this
      rw [List.getElem?_range hkl] at hy
      cases hy
      obtain ⟨r, hr, _⟩ := atN (xs := b) (k := k) (by omega)
      obtain ⟨q, hq, _⟩ := atN (xs := b) (k := k + 1) (by omega)
      have e1 : xb .sub (.int (1 + (k : Int))) (.int 1) = .ok (.int (k : Nat)) := by rw [o_sub]; congr 2; omega
      have e2 : xX (.lst false (b.map rowE)) (.int (1 + (k : Int))) = .ok (rowE q) := by
        have := i_map (o := false) (f := rowE) hq (d := rowE q) inferInstance
        rw [show ((k + 1 : Nat) : Int) = 1 + (k : Int) by omega] at this
        exact this
      have st := sav_step b k
      have h1 : hdAt b k = some r.2 := by unfold hdAt; rw [hr]; rfl
      have h2 : hdAt b (k + 1) = some q.2 := by unfold hdAt; rw [hq]; rfl
      rw [h1, h2] at st
      repeat' (first | infer_instance | fail)
      (first | apply w_seq | skip); apply w_if inferInstance; (focus repeat' (first | infer_instance | fail))
      · intro h
        simp at h
        repeat' (first | infer_instance | fail)
        refine ⟨some (.int (1 + (k : Int))), ?_⟩
        rw [st, if_pos (by simpa using h)]
        simp
      · intro h
        simp at h
        repeat' (first | infer_instance | fail)
        refine ⟨some (.int (1 + (k : Int))), ?_⟩
        rw [st, if_neg (by simpa using h)]
        simp
    · rintro δ ⟨x4, rfl⟩
      repeat' (first | infer_instance | fail)
      simp
  · generalize e_ : xf _ _ _ = o_; revert o_; refine to_ans ?_; apply call_x (hG) rfl; (focus repeat' (first | infer_instance | fail))
    apply w_seq
    (first | apply w_asgX inferInstance | apply w_expX inferInstance | apply w_retX inferInstance); (focus repeat' (first | exact (HT hs _ ok).2 hno | apply er_call | apply er_methR | apply er_newR | infer_instance | fail))
    repeat' (first | infer_instance | fail)
end
end Lc
namespace Lc
open Ev Lb PySem L2
local macro_rules | `(tactic| infer_instance) => `(tactic| first | (show _ = _; assumption) | exact row_0 _ | exact row_1 _ | exact hd_tag _ | exact hd_num _ | exact hd_eqDin _ | exact hd_eqHush _ | exact hd_eqWord _ _ | exact hd_neDin _ | exact hd_neHush _ | exact hd_neWord _ _ | exact hd_eq _ _ | exact hd_ne _ _ | apply row_bn | exact it_pair | exact fld_low _ | (show Wp _ _ _ _; first | apply w_seq | apply w_asg | apply w_asgT | apply w_skip | (apply w_appM; (focus (repeat (first | exact get0 | apply getS)))) | apply w_app | apply w_exp | apply w_ret | apply w_retN | apply w_rse | apply w_brk | apply w_cnt | apply w_aug | apply w_augS | apply w_tri | apply w_clr | apply w_clrT | apply w_setd | apply w_rem | apply w_rvsM | apply w_rvs | apply w_popA | apply w_ext) | apply q_nx | apply q_rt | apply q_er | apply q_bk | apply q_ct | (apply kq_nx; (focus rfl)) | (apply kq_er; (focus rfl)) | apply kq_rt | apply l_nx | apply l_ct | apply l_bk | apply l_rt | apply l_er | apply r_rt | apply r_nx | apply r_er | apply t_nx | apply t_rt | apply t_er | apply n_nx | apply n_rt | apply n_bk | apply n_ct | apply a_nx | apply a_rt | apply k_nx | apply k_rt | apply k_er | apply nx_nx | apply h_as rfl | apply h_one rfl | apply h_no rfl | (show xM _ _ _ = _; first | apply k_ex | apply k_mv | apply k_exf | apply k_tp | apply k_ls) | (show xv _ _ _ = _; first | apply v_var | exact ok_int | exact ok_bl | exact ok_str | exact ok_non | (apply ok_cst; rfl) | apply ok_bin | apply ok_cmp | apply ok_not | apply v_call | apply v_blt | apply v_idx | apply ok_fld | apply v_methR | apply v_newR | apply v_compA | apply v_comp | apply ok_tup | apply ok_lst | apply ok_chain | apply ok_neg | apply ok_and | apply ok_or | apply v_slc0 | apply v_slcL (nl := rfl) | apply v_slcH (nh := rfl) | apply v_slc (nl := rfl) (nh := rfl)) | (show xvs _ _ _ = _; first | exact oks_nil | apply oks_cons) | (show xb _ _ _ = _; first | exact o_add | exact o_sub | exact o_and | exact o_xor | apply p_mul | apply o_mod (by first | decide | assumption | exact pos_lpow (by decide) | exact Int.pow_pos (by decide) | omega) | apply p_fdiv (by first | decide | assumption | exact pos_lpow (by decide) | exact Int.pow_pos (by decide) | omega) | exact p_pow (by decide) (by decide) | apply o_shl1 | apply p_shlN | apply p_shlL | exact o_shr | exact p_shrL | apply c_map | apply c_lst | apply p_cat) | (show xp _ _ _ = _; first | exact o_eq | exact o_ne | exact o_lt | exact o_le | exact o_gt | exact o_ge | exact o_eqb | exact o_neb | exact o_isn | exact o_nisn | exact o_isb | exact o_nisb | exact o_eqs | exact o_nes | exact eq_nilO | exact ne_nilO | exact eq_nilP | exact ne_nilP | exact eq_nilI | exact ne_nilI | exact o_eqI | exact o_neI | exact in_ints | exact nin_ints) | (show xL _ _ _ = _; first | exact b_max | exact b_min | exact b_lenM | exact b_lenS | exact b_sorted | exact b_sortp | exact b_dict | exact b_dnew | apply b_dget | apply b_sortd | apply b_list | apply b_listT | apply b_listrevM | exact b_sum | exact b_all | exact b_intT | exact b_intF | exact b_intB | exact b_intI | exact b_abs | apply b_str | (rw [xL_eq]; assumption) | (rw [xL_eq]; rfl)) | (show xI _ _ = _; first | exact it_scr | apply it_seq | apply it_rng | exact it_rng2 (by omega) (by omega) | apply it_enum | apply it_zip | apply it_seqT | (rw [xI_eq]; assumption)) | (show xX _ _ = _; first | (apply i_mapL; rfl) | (apply i_lstL; rfl) | (apply i_tupL; rfl) | (apply i_scrL; rfl) | (rw [xX_eq]; assumption) | apply i_map | apply i_scr) | (show xS _ _ _ = _; first | exact s_scr | apply s_map) | (show Shds _ _; exact inferInstance) | (show ShEnv _ _; exact inferInstance) | (show NF _; exact inferInstance) | (show NFs _; exact inferInstance) | (show Shd _ _; exact inferInstance) | (show ShO _ _; exact inferInstance) | exact get0 | apply getS | exact set0 | apply setS | apply bn_nm | apply bn_tup | apply bn_lst | exact bs_nil | apply bs_cons | exact fz_nil | apply fz_cons | exact mk_nil | apply mk_in (by decide) | apply mk_out (by decide) | exact e0_nil | apply e0_none | apply e0_cons | (show Sm _ _; first | assumption | exact sm_int (by decide) | exact sm_int2 (by decide) | exact sm_nat (by omega) | exact sm_lpow (k := 220) (by decide) | exact sm_p2 (k := 1001) (by omega) | apply sm_mod (by first | decide | assumption | exact pos_lpow (by decide) | exact Int.pow_pos (by decide) | omega) | apply sm_add | apply sm_sub | apply sm_mul | apply sm_fdiv (by first | decide | assumption | exact pos_lpow (by decide) | exact Int.pow_pos (by decide) | omega) | apply sm_max | apply sm_min | apply sm_neg) | (show SLen _ _; first | assumption | apply sl_int | apply sl_app | exact sl_le (n := 64) (by decide)) | (show xMs _ _ _ = _; first | exact ks_nil | apply ks_cons) | (show NewR _ _ _ _; assumption) | (show MethR _ _ _ _ _; assumption) | rfl | apply bw | apply cb | apply cA | (show ∀ _ ∈ _, Cb _ _ _ _ _ _ _ _; intro _ _) | (show ∀ _ ∈ _, Ca _ _ _ _ _ _; intro _ _) | (show _ = true → xv _ _ _ = _; intro _) | (show _ ≤ (16777216 : Nat); omega) | (show _ < (16777216 : Nat); omega) | (show _ ≤ _; first | assumption | exact Nat.le_of_ble_eq_true rfl | decide | omega) | (show _ < _; first | assumption | decide | omega) | (show _ = true; first | assumption | decide) | (show _ = false; first | assumption | decide))
/-! ## Hands in another order -/
theorem hear_perm {hs gs : List Int} (p : hs.Perm gs) (s : Span) : hearF hs s = hearF gs s := by
  have q := p.filter s.holds
  unfold hearF
  generalize hs.filter s.holds = a at *
  generalize gs.filter s.holds = b at *
  rcases a with _ | ⟨x, _ | ⟨y, r⟩⟩
  · rw [(List.nil_perm.mp q)]
  · rw [(List.singleton_perm.mp q)]
  · have := q.length_eq
    rcases b with _ | ⟨x', _ | ⟨y', r'⟩⟩
    · simp at this
    · simp at this
    · rfl
theorem HsOk.perm {hs gs : List Int} (H : HsOk hs) (p : hs.Perm gs) : HsOk gs := ⟨p.nodup_iff.mp H.nd, fun z m => H.lt z (p.mem_iff.mpr m), by rw [← p.length_eq]; exact H.few⟩
theorem talk_perm {hs gs : List Int} (H : HsOk hs) (p : hs.Perm gs) : ∀ s, s.Ok → talkF hs s = talkF gs s := by
  have H' := H.perm p
  refine talk_ind H (fun s o d => ?_) fun s o d t h1 h2 => ?_
  · rw [talk_one d, talk_one (by rw [← hear_perm p]; exact d), hear_perm p]
  · rw [talk_din H o d, talk_din H' o (by rw [← hear_perm p]; exact d), h1, h2]
theorem on_perm {hs gs : List Int} (p : hs.Perm gs) (s : Span) : onL hs s ↔ onL gs s := ⟨fun h => ⟨p.nodup_iff.mp h.1, fun z m => h.2 z (p.mem_iff.mpr m)⟩, fun h => ⟨p.nodup_iff.mpr h.1, fun z m => h.2 z (p.mem_iff.mp m)⟩⟩
/-! ## Common bits -/
def blen (x : Nat) : Nat := if x = 0 then 0 else x.log2 + 1
theorem blen_lt {x n : Nat} (h : x < 2 ^ n) : blen x ≤ n := by
  unfold blen
  split
  · omega
  · rename_i h0
    exact (Nat.log2_lt h0).mpr h
theorem blen_ge {x n : Nat} (h : 2 ^ n ≤ x) : n + 1 ≤ blen x := by
  have h0 : x ≠ 0 := by have := Nat.two_pow_pos n; omega
  unfold blen
  rw [if_neg h0]
  have := (Nat.le_log2 h0).mpr h
  omega
theorem blen_half (x : Nat) (h : 0 < x) : blen x = blen (x / 2) + 1 := by
  unfold blen
  rw [if_neg (by omega)]
  by_cases q : x / 2 = 0
  · have : x = 1 := by omega
    subst this
    decide
  · rw [if_neg q]
    have e := Nat.log2_def x
    rw [if_pos (by omega)] at e
    omega
/-- the common bits of two numbers -/
def cB (w : Nat) (x y : Int) : Int := (w : Int) - blen (x.toNat ^^^ y.toNat)
def d_common_bits : Def := .fn 3 5
  (.seq (.asg (.nm 3) (.ex (.bin .xor (.var 0) (.var 1))))
  (.seq (.asg (.nm 4) (.ex (.var 2)))
  (.seq (.whl (.cmp .gt (.var 3) (.int 0))
  (.seq (.asg (.nm 3) (.ex (.bin .shr (.var 3) (.int 1))))
  (.aug 4 .sub (.int 1))))
  (.ret (.ex (.var 4))))))
def HasCommon (G : Gam) : Prop := ∀ (x y : Int) (w : Nat), 0 ≤ x → 0 ≤ y → xf G "common_bits" [.int x, .int y, .int w] = .ok (.int (cB w x y))
section
variable {V : Span → Prop} {G G1 G2 : Gam} {kn : String → Bool}
theorem common_has (hG : ∀ ds, xf G "common_bits" ds = chkE kn (callD G1 Lb.d_common_bits ds)) : HasCommon G := by
  intro x y w hx hy
  have e : Builtin.bitXor x y = ((x.toNat ^^^ y.toNat : Nat) : Int) := Bits.bitXor_pp hx hy
  generalize e_ : xf _ _ _ = o_; revert o_; refine to_ans ?_; apply call_x (hG) rfl; (focus repeat' (first | infer_instance | fail))
  repeat' (first | infer_instance | fail)
  rw [e]
  unfold cB
  generalize x.toNat ^^^ y.toNat = u
  refine w_whl (fun (a : Nat) δ => δ = [some (.int x), some (.int y), some (.int w), some (.int (a : Int)), some (.int ((w : Int) - blen u + blen a))]) (fun a => a) u (by rw [show (w : Int) - blen u + blen u = w by omega]) ?_
  rintro a δ rfl
  apply cw inferInstance; (focus repeat' (first | infer_instance | fail))
  refine ⟨fun h => ?_, fun h => ?_⟩
  · repeat' (first | infer_instance | fail)
    have : a = 0 := by simp at h; omega
    subst this
    congr 2
    simp [blen]
  · simp at h
    have ha : 0 < a := by omega
    have eh := blen_half a ha
    repeat' (first | infer_instance | fail)
    refine ⟨a / 2, ?_, by omega⟩
    have e1 : (a : Int) / 2 ^ 1 = ((a / 2 : Nat) : Int) := by simp
    have e2 : (w : Int) - blen u + blen a - 1 = w - blen u + blen (a / 2) := by omega
    rw [e1, e2]
/-- in one half of so many bits -/
theorem xor_lt_of {x y : Nat} {m : Nat} (h : x / 2 ^ m = y / 2 ^ m) : x ^^^ y < 2 ^ m := by
  have e : (x ^^^ y) >>> m = 0 := by
    rw [Nat.shiftRight_xor_distrib, Nat.shiftRight_eq_div_pow, Nat.shiftRight_eq_div_pow, h, Nat.xor_self]
  rw [Nat.shiftRight_eq_div_pow] at e
  exact (Nat.div_eq_zero_iff_lt (Nat.two_pow_pos m)).mp e
theorem xor_ge_of {x y : Nat} {m : Nat} (h : x / 2 ^ m ≠ y / 2 ^ m) : 2 ^ m ≤ x ^^^ y := by
  rcases Nat.lt_or_ge (x ^^^ y) (2 ^ m) with q | q
  · exfalso
    apply h
    have e : (x ^^^ y) >>> m = 0 := by
      rw [Nat.shiftRight_eq_div_pow]
      exact Nat.div_eq_of_lt q
    rw [Nat.shiftRight_xor_distrib, Nat.shiftRight_eq_div_pow, Nat.shiftRight_eq_div_pow] at e
    have := congrArg (fun z => z ^^^ (y / 2 ^ m)) e
    simp [Nat.xor_assoc] at this
    exact this
  · exact q
theorem in_half {l z : Int} {m : Nat} (h0 : 0 ≤ l) (hm : l % 2 ^ m = 0) (hz : l ≤ z ∧ z < l + 2 ^ m) : z.toNat / 2 ^ m = l.toNat / 2 ^ m := by
  have pm := pow_i m
  have e2 : ((2 ^ m : Nat) : Int) = 2 ^ m := by simp
  have hz1 : z / 2 ^ m = l / 2 ^ m := by
    have d := Int.mul_ediv_add_emod l (2 ^ m)
    rw [hm] at d
    have : z = (2 ^ m) * (l / 2 ^ m) + (z - l) := by omega
    rw [this, Int.add_comm, Int.add_mul_ediv_left _ _ (by omega), Int.ediv_eq_zero_of_lt (by omega) (by omega)]
    omega
  have a : ((z.toNat / 2 ^ m : Nat) : Int) = z / 2 ^ m := by
    rw [Int.natCast_ediv, Int.toNat_of_nonneg (by omega), e2]
  have b : ((l.toNat / 2 ^ m : Nat) : Int) = l / 2 ^ m := by
    rw [Int.natCast_ediv, Int.toNat_of_nonneg (by omega), e2]
  omega
/-- of one in the lower, one in the upper half -/
theorem cB_apart {l x y : Int} {m w : Nat} (o : (Span.half l (m + 1)).Ok) (hx : (Span.half l (m + 1)).lower.holds x = true) (hy : (Span.half l (m + 1)).upper.holds y = true) : cB w x y = (w : Int) - (m + 1) := by
  obtain ⟨h1, h2, h3, h4⟩ := o
  have pm := pow_i m
  obtain ⟨g1, g2⟩ := half_mod h2
  have e : (2 : Int) ^ (m + 1) = 2 ^ m * 2 := Int.pow_succ 2 m
  simp [Span.lower, Span.upper, Span.holds] at hx hy
  have a1 := in_half h1 g1 (z := x) hx
  have a2 := in_half (l := l + 2 ^ m) (by omega) g2 (z := y) hy
  have b1 := in_half h1 h2 (z := x) (by omega)
  have b2 := in_half h1 h2 (z := y) (by omega)
  have lt := xor_lt_of (x := x.toNat) (y := y.toNat) (m := m + 1) (by rw [b1, b2])
  have ne : x.toNat / 2 ^ m ≠ y.toNat / 2 ^ m := by
    rw [a1, a2]
    have e2 : ((2 ^ m : Nat) : Int) = 2 ^ m := by simp
    have : (l + 2 ^ m).toNat = l.toNat + 2 ^ m := by omega
    rw [this, Nat.add_div_right _ (Nat.two_pow_pos m)]
    omega
  have ge := xor_ge_of ne
  have := blen_lt lt
  have := blen_ge ge
  unfold cB
  omega
/-! ## Dins by neighbours -/
def run (w : Nat) : Int → Int → List Int → Int × Int
  | last, _, [] => (0, last)
  | last, x, y :: r => (max 0 (cB w x y - last) + (run w (cB w x y) y r).1, (run w (cB w x y) y r).2)
theorem run_app (w : Nat) : ∀ (A : List Int) (last x y : Int) (B : List Int), run w last x (A ++ y :: B) = ((run w last x A).1 + max 0 (cB w ((x :: A).getLast (by simp)) y - (run w last x A).2) + (run w (cB w ((x :: A).getLast (by simp)) y) y B).1, (run w (cB w ((x :: A).getLast (by simp)) y) y B).2)
  | [], last, x, y, B => by simp [run]
  | a :: A, last, x, y, B => by
    have ih := run_app w A (cB w x a) a y B
    rw [List.cons_append, run, ih]
    simp only [run, List.getLast_cons_cons]
    congr 1
    omega
def dinsN (hs : List Int) (s : Span) : Nat := ((talkF hs s).filter fun r => decide (r.2 = .din)).length
theorem dins_din {hs : List Int} {s : Span} (H : HsOk hs) (o : s.Ok) (d : hearF hs s = .din) : dinsN hs s = 1 + dinsN hs s.lower + dinsN hs s.upper := by
  unfold dinsN
  rw [talk_din H o d, List.filter_cons_of_pos (by simp), List.filter_append, List.length_cons, List.length_append]
  omega
theorem dins_one {hs : List Int} {s : Span} (d : hearF hs s ≠ .din) : dinsN hs s = 0 := by
  unfold dinsN
  rw [talk_one d, List.filter_cons_of_neg (by simpa using d)]
  rfl
theorem sorted_split (p : Int) : ∀ xs : List Int, xs.Pairwise (· < ·) → (xs.filter fun z => decide (z < p)) ++ (xs.filter fun z => decide (p ≤ z)) = xs
  | [], _ => rfl
  | x :: r, h => by
    have h' := List.pairwise_cons.mp h
    have ih := sorted_split p r h'.2
    by_cases q : x < p
    · rw [List.filter_cons_of_pos (by simpa using q), List.filter_cons_of_neg (by simp; omega), List.cons_append, ih]
    · have e : r.filter (fun z => decide (z < p)) = [] := List.filter_eq_nil_iff.mpr fun z m => by
        have := h'.1 z m
        simp; omega
      rw [e] at ih
      rw [List.filter_cons_of_neg (by simpa using q), List.filter_cons_of_pos (by simp; omega), e]
      simp only [List.nil_append] at ih ⊢
      rw [ih]
theorem run_dins {L : List Int} (H : HsOk L) (w : Nat) : ∀ (m : Nat) (l : Int), (Span.half l m).Ok → m ≤ w → ∀ (x : Int) (A : List Int), L.filter (Span.half l m).holds = x :: A → (x :: A).Pairwise (· < ·) → A ≠ [] → ∀ last : Int, last ≤ (w : Int) - m - 1 → (run w last x A).1 = dinsN L (.half l m) + ((w : Int) - m - 1 - last) ∧ (w : Int) - m ≤ (run w last x A).2
  | 0, l, o, hw, x, A, e, sd, hA, last, hl => by
    have d : hearF L (.half l 0) = .din := hear_din.mpr (by
      rw [e]
      cases A with
      | nil => exact (hA rfl).elim
      | cons a A => simp)
    exact absurd (din_two H o d).1 (Nat.lt_irrefl 0)
  | m + 1, l, o, hw, x, A, e, sd, hA, last, hl => by
    have d : hearF L (.half l (m + 1)) = .din := hear_din.mpr (by
      rw [e]
      cases A with
      | nil => exact (hA rfl).elim
      | cons a A => simp)
    obtain ⟨t, sm, _, _⟩ := din_two H o d
    have ol : (Span.half l m).Ok := o.lower t
    have ou : (Span.half (l + 2 ^ m) m).Ok := o.upper t sm
    have fl := filter_lower o t L
    have fu := filter_upper o t L
    rw [e] at fl fu
    have sp := sorted_split (Span.half l (m + 1)).upper.low (x :: A) sd
    rw [← fl, ← fu] at sp
    have dd := dins_din H o d
    have ihl := run_dins H w m l ol (by omega)
    have ihu := run_dins H w m (l + 2 ^ m) ou (by omega)
    have hlo : ∀ z ∈ L.filter (Span.half l (m + 1)).lower.holds, (Span.half l (m + 1)).lower.holds z = true := fun z q => (List.mem_filter.mp q).2
    have hup : ∀ z ∈ L.filter (Span.half l (m + 1)).upper.holds, (Span.half l (m + 1)).upper.holds z = true := fun z q => (List.mem_filter.mp q).2
    have one : ∀ (s : Span) (z : Int), L.filter s.holds = [z] → dinsN L s = 0 := fun s z q => dins_one (by rw [hear_word.mpr q]; simp)
    have none_ : ∀ (s : Span), L.filter s.holds = [] → dinsN L s = 0 := fun s q => dins_one (by rw [hear_hush.mpr q]; simp)
    rcases elo : L.filter (Span.half l (m + 1)).lower.holds with _ | ⟨x', A1⟩
    · rw [elo, List.nil_append] at sp
      have := ihu x A sp sd hA last (by omega)
      have z := none_ _ elo
      have z2 : dinsN L (Span.half l (m + 1)).upper = dinsN L (.half (l + 2 ^ m) m) := rfl
      omega
    · rcases eup : L.filter (Span.half l (m + 1)).upper.holds with _ | ⟨y, B1⟩
      · rw [eup, List.append_nil] at sp
        have := ihl x A sp sd hA last (by omega)
        have z := none_ _ eup
        have z2 : dinsN L (Span.half l (m + 1)).lower = dinsN L (.half l m) := rfl
        omega
      · rw [elo, eup, List.cons_append, List.cons.injEq] at sp
        obtain ⟨ex, eA⟩ := sp
        subst ex
        rw [elo] at hlo
        rw [eup] at hup
        have c : cB w ((x' :: A1).getLast (by simp)) y = (w : Int) - (m + 1) := cB_apart o (hlo _ (List.getLast_mem _)) (hup y (by simp))
        rw [← eA, run_app, c]
        rw [← eA] at sd
        have sdl : (x' :: A1).Pairwise (· < ·) := (List.pairwise_append.mp (show ((x' :: A1) ++ (y :: B1)).Pairwise (· < ·) from sd)).1
        have sdu : (y :: B1).Pairwise (· < ·) := (List.pairwise_append.mp (show ((x' :: A1) ++ (y :: B1)).Pairwise (· < ·) from sd)).2.1
        have zl : dinsN L (Span.half l (m + 1)).lower = dinsN L (.half l m) := rfl
        have zu : dinsN L (Span.half l (m + 1)).upper = dinsN L (.half (l + 2 ^ m) m) := rfl
        have R : (run w ((w : Int) - (m + 1)) y B1).1 = dinsN L (.half (l + 2 ^ m) m) ∧ (w : Int) - (m + 1) ≤ (run w ((w : Int) - (m + 1)) y B1).2 := by
          cases B1 with
          | nil =>
            have := one _ y eup
            rw [zu] at this
            simp [run, this]
          | cons b B =>
            have := ihu y (b :: B) eup sdu (by simp) ((w : Int) - (m + 1)) (by omega)
            omega
        cases A1 with
        | nil =>
          have := one _ x' elo
          simp only [run]
          omega
        | cons a A2 =>
          have := ihl x' (a :: A2) elo sdl (by simp) last (by omega)
          dsimp only
          omega
theorem cut_last {α : Type} (xs : List α) : cutD xs none (some (-1)) = xs.dropLast := by
  unfold cutD
  have e2 : HT.sIx xs.length xs.length (some (-1)) = xs.length - 1 := by
    show (if (-1 : Int) < 0 then ((-1 : Int) + (xs.length : Int)).toNat else min (-1 : Int).toNat xs.length) = _
    rw [if_pos (by decide)]; omega
  rw [HT.sIx_none, e2, List.dropLast_eq_take]; simp
theorem cut_tail {α : Type} (xs : List α) : cutD xs (some 1) none = xs.tail := by
  cases xs with
  | nil => rfl
  | cons x r =>
    have := cut_hi (x :: r) 1 (by simp)
    rw [show ((1 : Nat) : Int) = 1 from rfl] at this
    rw [this]; rfl
def prs : Int → List Int → List (Int × Int)
  | _, [] => []
  | x, y :: r => (x, y) :: prs y r
theorem zip_prs : ∀ (A : List Int) (x : Int), (x :: A).dropLast.zip A = prs x A
  | [], _ => rfl
  | [y], x => rfl
  | y :: z :: r, x => by
    have := zip_prs (z :: r) y
    rw [List.dropLast_cons₂, List.zip_cons_cons, this]; rfl
def HasDins (G : Gam) : Prop := ∀ (hs : List Int) (n : Nat), n ≤ 1000 → (HsOk hs → onL hs (.half 0 n) → xf G "dins" [.lst false (hs.map .int), .int n] = .ok (.int (dinsN hs (.half 0 n) : Nat))) ∧ (¬ onL hs (.half 0 n) → xf G "dins" [.lst false (hs.map .int), .int n] = .er "NoHands")
theorem er_arg2 {G : Gam} {ρ : Ev.Env} {a : E} {d : D} {f x : String} {ds : List D} (h : xvs G ρ a = .ok ds) (hh : Shds ds ds) (h2 : xf G f ds = .er x) : xv G ρ (.call f a) = .er x := er_call h hh h2
theorem dins_has (hG : ∀ ds, xf G "dins" ds = chkE kn (callD G1 d_dins ds)) (hk : kn "NoHands" = true) (HL : HasOnLine Span.Ok G1) (HP : HasTop G1) (HC : HasCommon G1) : HasDins G := by
  intro hs n hn
  have tp := HP.1 n hn
  have ok := top_okn hn
  have tp' : xf G1 "top_of" [.int n] = .ok (Span.half 0 n).enc := tp
  clear tp
  refine ⟨fun H on => ?_, fun hno => ?_⟩
  · have lp : ∀ (L : List Int) (Q : Out → Prop) (A : List Int) (x last total : Int) (u5 u6 u7 : Option D), 0 ≤ x → (∀ z ∈ A, 0 ≤ z) → (∀ u5 u6 u7, Q (.nx [some (.lst false (hs.map .int)), some (.int n), some (.lst false (L.map .int)), some (.int (total + (run n last x A).1)), some (.int (run n last x A).2), u5, u6, u7])) →
        Fl G1 (.seq (.asg (.nm 7) (.ex (.call "common_bits" (.cons (.var 5) (.cons (.var 6) (.cons (.var 1) .nil)))))) (.seq (.aug 3 .add (.blt .max (.cons (.int 0) (.cons (.bin .sub (.var 7) (.var 4)) .nil)))) (.asg (.nm 4) (.ex (.var 7))))) (.tp [5, 6]) ((prs x A).map fun p => .tup [.int p.1, .int p.2]) [some (.lst false (hs.map .int)), some (.int n), some (.lst false (L.map .int)), some (.int total), some (.int last), u5, u6, u7] Q := by
      intro L Q A
      induction A with
      | nil =>
        intro x last total u5 u6 u7 _ _ h
        have := h u5 u6 u7
        simp only [run, Int.add_zero] at this
        exact fl_nil this
      | cons y r ih =>
        intro x last total u5 u6 u7 hx hA h
        have hy := hA y (by simp)
        have c := HC x y n hx hy
        rw [prs, List.map_cons]
        refine fl_cons (δ1 := [some (.lst false (hs.map .int)), some (.int n), some (.lst false (L.map .int)), some (.int total), some (.int last), some (.int x), some (.int y), u7]) ?_ ?_
        · repeat' (first | infer_instance | fail)
        repeat' (first | infer_instance | fail)
        refine ih y _ _ _ _ _ hy (fun z m => hA z (by simp [m])) fun u5 u6 u7 => ?_
        have := h u5 u6 u7
        simp only [run] at this
        rw [Int.add_assoc]
        exact this
    have sd : (sortI hs).Pairwise (· < ·) := by
      have a := sortI_sorted hs
      have b : (sortI hs).Nodup := (sortI_perm hs).nodup_iff.mpr H.nd
      exact (a.and b).imp fun h => by omega
    have H' := H.perm (sortI_perm hs).symm
    have onn : ∀ z ∈ sortI hs, 0 ≤ z ∧ (Span.half 0 n).holds z = true := fun z m => by
      have := on.2 z ((sortI_perm hs).mem_iff.mp m)
      have q := this
      simp [Span.holds] at q
      exact ⟨q.1, this⟩
    have fil : (sortI hs).filter (Span.half 0 n).holds = sortI hs := List.filter_eq_self.mpr fun z m => (onn z m).2
    have ed : dinsN hs (.half 0 n) = dinsN (sortI hs) (.half 0 n) := by
      unfold dinsN
      rw [talk_perm H (sortI_perm hs).symm _ ok]
    rw [ed]
    generalize e_ : xf _ _ _ = o_; revert o_; refine to_ans ?_; apply call_x (hG) rfl; (focus repeat' (first | infer_instance | fail))
    repeat' (first | exact (HL hs _ ok).1 on | infer_instance | fail)
    generalize sortI hs = L at *
    (first | apply w_seq | skip); apply w_forF; (focus repeat' (first | infer_instance | fail)); (focus repeat' (first | infer_instance | fail)); (focus repeat' (first | exact s_map inferInstance | infer_instance | fail)); (focus repeat' (first | infer_instance | fail))
    rw [cut_last, cut_tail]
    cases L with
    | nil =>
      refine fl_nil ?_
      repeat' (first | infer_instance | fail)
      rw [dins_one (by rw [hear_hush.mpr fil]; simp)]
      rfl
    | cons x A =>
      rw [List.tail_cons, zip_prs]
      refine lp (x :: A) _ A x (-1) 0 none none none (onn x (by simp)).1 (fun z m => (onn z (by simp [m])).1) fun u5 u6 u7 => ?_
      repeat' (first | infer_instance | fail)
      congr 2
      cases A with
      | nil =>
        rw [dins_one (by rw [hear_word.mpr fil]; simp)]
        simp [run]
      | cons a A =>
        have := run_dins H' n n 0 ok (Nat.le_refl _) x (a :: A) fil sd (by simp) (-1) (by omega)
        omega
  · generalize e_ : xf _ _ _ = o_; revert o_; refine to_ans ?_; apply call_x (hG) rfl; (focus repeat' (first | infer_instance | fail))
    repeat' (first | apply (w_expX inferInstance) | apply er_call | exact (HL hs _ ok).2 hno | infer_instance | fail)
def d_turns : Def := .fn 2 2
  (.ret (.ex (.bin .add (.bin .mul (.int 2) (.call "dins" (.cons (.var 0) (.cons (.var 1) .nil)))) (.int 1))))
def HasTurns (G : Gam) : Prop := ∀ (hs : List Int) (n : Nat), n ≤ 1000 → (HsOk hs → onL hs (.half 0 n) → xf G "turns" [.lst false (hs.map .int), .int n] = .ok (.int (2 * (dinsN hs (.half 0 n) : Nat) + 1))) ∧ (¬ onL hs (.half 0 n) → xf G "turns" [.lst false (hs.map .int), .int n] = .er "NoHands")
theorem dins_few {hs : List Int} (H : HsOk hs) (s : Span) (o : s.Ok) : dinsN hs s ≤ 4002001 := Nat.le_trans (List.length_filter_le _ _) (talk_few H s o)
theorem turns_has (hG : ∀ ds, xf G "turns" ds = chkE kn (callD G1 Lb.d_turns ds)) (hk : kn "NoHands" = true) (HD : HasDins G1) : HasTurns G := by
  intro hs n hn
  refine ⟨fun H on => ?_, fun hno => ?_⟩
  · have few := dins_few H _ (top_okn hn)
    have b60 : (2 : Int) ^ 60 = 1152921504606846976 := by decide
    have sm : Sm 60 ((dinsN hs (.half 0 n) : Nat) : Int) := sm_of (by omega) (by omega)
    generalize e_ : xf _ _ _ = o_; revert o_; refine to_ans ?_; apply call_x (hG) rfl; (focus repeat' (first | infer_instance | fail))
    repeat' (first | exact (HD hs n hn).1 H on | infer_instance | fail)
  · generalize e_ : xf _ _ _ = o_; revert o_; refine to_ans ?_; apply call_x (hG) rfl; (focus repeat' (first | infer_instance | fail))
    refine w_retX inferInstance (er_bin1 (er_bin2 ok_int (er_call (ds := [.lst false (hs.map .int), .int n]) ?_ inferInstance ((HD hs n hn).2 hno)))) (k_er hk rfl)
    repeat' (first | infer_instance | fail)
def d_turn_of : Def := .fn 3 6
  (.seq (.asg (.nm 3) (.ex (.call "talk" (.cons (.var 0) (.cons (.call "top_of" (.cons (.var 1) .nil)) .nil)))))
  (.seq (.for_ (.tp [4, 5]) .enum (some [3]) (.cons (.var 3) .nil)
  (.ife (.cmp .eq (.idx (.var 5) (.int 1)) (.tup (.cons (.str "word") (.cons (.var 2) .nil))))
  (.ret (.ex (.var 4)))
  .skip))
  (.rse "NoHand")))
def HasTurnOf (G : Gam) : Prop := ∀ (hs : List Int) (n : Nat) (z : Int), n ≤ 1000 → (HsOk hs → onL hs (.half 0 n) → xf G "turn_of" [.lst false (hs.map .int), .int n, .int z] = (match (talkF hs (.half 0 n)).findIdx? fun r => decide (r.2 = .word z) with | some k => .ok (.int (k : Nat)) | none => .er "NoHand")) ∧ (¬ onL hs (.half 0 n) → xf G "turn_of" [.lst false (hs.map .int), .int n, .int z] = .er "NoHands")
theorem turn_of_has (hG : ∀ ds, xf G "turn_of" ds = chkE kn (callD G1 d_turn_of ds)) (hk : kn "NoHands" = true) (hk2 : kn "NoHand" = true) (HT : HasTalk Span.Ok G1) (HP : HasTop G1) : HasTurnOf G := by
  intro hs n z hn
  have tp := HP.1 n hn
  have ok := top_okn hn
  have tp' : xf G1 "top_of" [.int n] = .ok (Span.half 0 n).enc := tp
  clear tp
  refine ⟨fun H on => ?_, fun hno => ?_⟩
  · generalize e_ : xf _ _ _ = o_; revert o_; refine to_ans ?_; apply call_x (hG) rfl; (focus repeat' (first | infer_instance | fail))
    have few := talk_few H _ ok
    have tk := (HT hs _ ok).1 H on
    generalize talkF hs (.half 0 n) = b at *
    repeat' (first | infer_instance | fail)
    (first | apply w_seq | skip); apply w_forF; (focus repeat' (first | infer_instance | fail)); (focus repeat' (first | infer_instance | fail)); (focus repeat' (first | infer_instance | fail)); (focus repeat' (first | infer_instance | fail))
    refine fl_pre (fun done δ => ∃ (x4 x5 : Option D), δ = [some (.lst false (hs.map .int)), some (.int n), some (.int z), some (.lst false (b.map rowE)), x4, x5] ∧ ∀ p : Row × Nat, p ∈ done → p.1.2 ≠ Hd.word z) ⟨_, _, rfl, by simp⟩ ?_ ?_
    · rintro done y rest δ hy ⟨x4, x5, rfl, hd⟩
      repeat' (first | infer_instance | fail)
      (first | apply w_seq | skip); apply w_if inferInstance; (focus repeat' (first | infer_instance | fail))
      · intro h
        simp at h
        repeat' (first | infer_instance | fail)
        have key : b.findIdx? (fun r => decide (r.2 = .word z)) = some y.2 := by
          have e1 : b.zipIdx.map (·.1) = b := by simp
          have hb : b = done.map (·.1) ++ y.1 :: rest.map (·.1) := by rw [← e1, hy]; simp
          have hi : y.2 = done.length := by
            have : b.zipIdx[done.length]? = some y := by rw [hy]; simp
            rw [List.getElem?_zipIdx] at this
            obtain ⟨r, hr, e⟩ := Option.map_eq_some_iff.mp this
            rw [← e]; simp
          rw [hb, List.findIdx?_append, List.findIdx?_eq_none_iff.mpr (by
            intro r m
            obtain ⟨p, mp, e⟩ := List.mem_map.mp m
            rw [← e]
            simpa using hd p mp), List.findIdx?_cons, if_pos (by simpa using h), hi]
          simp
        rw [key]
      · intro h
        simp at h
        repeat' (first | infer_instance | fail)
        refine ⟨_, _, rfl, fun p m => ?_⟩
        rcases List.mem_append.mp m with m | m
        · exact hd p m
        · rw [List.mem_singleton.mp m]; exact h
    · rintro δ ⟨x4, x5, rfl, hd⟩
      have key : b.findIdx? (fun r => decide (r.2 = .word z)) = none := List.findIdx?_eq_none_iff.mpr fun r m => by
        have e1 : b.zipIdx.map (·.1) = b := by simp
        rw [← e1] at m
        obtain ⟨p, mp, e⟩ := List.mem_map.mp m
        rw [← e]
        simpa using hd p mp
      rw [key]
      repeat' (first | infer_instance | fail)
  · generalize e_ : xf _ _ _ = o_; revert o_; refine to_ans ?_; apply call_x (hG) rfl; (focus repeat' (first | infer_instance | fail))
    apply w_seq
    (first | apply w_asgX inferInstance | apply w_expX inferInstance | apply w_retX inferInstance); (focus repeat' (first | exact (HT hs _ ok).2 hno | apply er_call | apply er_methR | apply er_newR | infer_instance | fail))
    repeat' (first | infer_instance | fail)
/-- the words of a talk are the hands, in order -/
theorem words_app (a b : List Row) : wordsF (a ++ b) = wordsF a ++ wordsF b := by
  rw [wordsF_eq, wordsF_eq, wordsF_eq, List.filter_append, List.map_append]
theorem sortI_two {p : Int} (xs : List Int) : sortI (xs.filter fun z => decide (z < p)) ++ sortI (xs.filter fun z => decide (p ≤ z)) = sortI xs := by
  refine sorted_eq ?_ ?_ (sortI_sorted xs)
  · refine ((sortI_perm _).append (sortI_perm _)).trans (List.Perm.trans ?_ (sortI_perm xs).symm)
    have e : (xs.filter fun z => decide (p ≤ z)) = xs.filter fun z => !decide (z < p) := List.filter_congr fun z _ => by
      by_cases q : z < p
      · have : ¬ p ≤ z := by omega
        simp [q, this]
      · have : p ≤ z := by omega
        simp [q, this]
    rw [e]
    exact List.filter_append_perm _ xs
  · refine List.pairwise_append.mpr ⟨sortI_sorted _, sortI_sorted _, fun a ma b mb => ?_⟩
    have h1 := (List.mem_filter.mp ((sortI_perm _).mem_iff.mp ma)).2
    have h2 := (List.mem_filter.mp ((sortI_perm _).mem_iff.mp mb)).2
    simp at h1 h2
    omega
theorem talk_words {hs : List Int} (H : HsOk hs) : ∀ s, s.Ok → wordsF (talkF hs s) = sortI (hs.filter s.holds) := by
  refine talk_ind H (fun s o d => ?_) fun s o d t h1 h2 => ?_
  · rw [talk_one d]
    rcases e : hs.filter s.holds with _ | ⟨x, _ | ⟨y, r⟩⟩
    · rw [hear_hush.mpr e]; rfl
    · rw [hear_word.mpr e]; rfl
    · exact absurd (hear_din.mpr (by rw [e]; simp)) d
  · rw [talk_din H o d]
    have e : wordsF ((s, Hd.din) :: (talkF hs s.lower ++ talkF hs s.upper)) = wordsF (talkF hs s.lower ++ talkF hs s.upper) := words_app [(s, Hd.din)] _
    rw [e, words_app, h1, h2, filter_lower o t, filter_upper o t, sortI_two]
theorem word_mem {b : List Row} {z : Int} : z ∈ wordsF b ↔ ∃ r ∈ b, r.2 = .word z := by
  rw [wordsF_eq, List.mem_map]
  constructor
  · rintro ⟨r, m, e⟩
    obtain ⟨m1, m2⟩ := List.mem_filter.mp m
    refine ⟨r, m1, ?_⟩
    cases q : r.2 with
    | word n => rw [q] at e; exact congrArg Hd.word e
    | _ => rw [q] at m2; cases m2
  · rintro ⟨r, m, e⟩
    exact ⟨r, List.mem_filter.mpr ⟨m, by rw [e]; rfl⟩, by rw [e]; rfl⟩
/-- just the hands have a turn -/
theorem turn_iff {hs : List Int} (H : HsOk hs) {s : Span} (o : s.Ok) (on : onL hs s) (z : Int) : ((talkF hs s).findIdx? fun r => decide (r.2 = .word z)).isSome = true ↔ z ∈ hs := by
  have fil : hs.filter s.holds = hs := List.filter_eq_self.mpr on.2
  have w : z ∈ wordsF (talkF hs s) ↔ z ∈ hs := by
    rw [talk_words H s o, fil]
    exact (sortI_perm hs).mem_iff
  rw [← w, word_mem]
  simp
end
end Lc
namespace Lc
open Ev Lb PySem L2
local macro_rules | `(tactic| infer_instance) => `(tactic| first | (show _ = _; assumption) | exact row_0 _ | exact row_1 _ | exact hd_tag _ | exact hd_num _ | exact hd_eqDin _ | exact hd_eqHush _ | exact hd_eqWord _ _ | exact hd_neDin _ | exact hd_neHush _ | exact hd_neWord _ _ | exact hd_eq _ _ | exact hd_ne _ _ | apply row_bn | exact it_pair | exact fld_low _ | (show Wp _ _ _ _; first | apply w_seq | apply w_asg | apply w_asgT | apply w_skip | (apply w_appM; (focus (repeat (first | exact get0 | apply getS)))) | apply w_app | apply w_exp | apply w_ret | apply w_retN | apply w_rse | apply w_brk | apply w_cnt | apply w_aug | apply w_augS | apply w_tri | apply w_clr | apply w_clrT | apply w_setd | apply w_rem | apply w_rvsM | apply w_rvs | apply w_popA | apply w_ext) | apply q_nx | apply q_rt | apply q_er | apply q_bk | apply q_ct | (apply kq_nx; (focus rfl)) | (apply kq_er; (focus rfl)) | apply kq_rt | apply l_nx | apply l_ct | apply l_bk | apply l_rt | apply l_er | apply r_rt | apply r_nx | apply r_er | apply t_nx | apply t_rt | apply t_er | apply n_nx | apply n_rt | apply n_bk | apply n_ct | apply a_nx | apply a_rt | apply k_nx | apply k_rt | apply k_er | apply nx_nx | apply h_as rfl | apply h_one rfl | apply h_no rfl | (show xM _ _ _ = _; first | apply k_ex | apply k_mv | apply k_exf | apply k_tp | apply k_ls) | (show xv _ _ _ = _; first | apply v_var | exact ok_int | exact ok_bl | exact ok_str | exact ok_non | (apply ok_cst; rfl) | apply ok_bin | apply ok_cmp | apply ok_not | apply v_call | apply v_blt | apply v_idx | apply ok_fld | apply v_methR | apply v_newR | apply v_compA | apply v_comp | apply ok_tup | apply ok_lst | apply ok_chain | apply ok_neg | apply ok_and | apply ok_or | apply v_slc0 | apply v_slcL (nl := rfl) | apply v_slcH (nh := rfl) | apply v_slc (nl := rfl) (nh := rfl)) | (show xvs _ _ _ = _; first | exact oks_nil | apply oks_cons) | (show xb _ _ _ = _; first | exact o_add | exact o_sub | exact o_and | exact o_xor | apply p_mul | apply o_mod (by first | decide | assumption | exact pos_lpow (by decide) | exact Int.pow_pos (by decide) | omega) | apply p_fdiv (by first | decide | assumption | exact pos_lpow (by decide) | exact Int.pow_pos (by decide) | omega) | exact p_pow (by decide) (by decide) | apply o_shl1 | apply p_shlN | apply p_shlL | exact o_shr | exact p_shrL | apply c_map | apply c_lst | apply p_cat) | (show xp _ _ _ = _; first | exact o_eq | exact o_ne | exact o_lt | exact o_le | exact o_gt | exact o_ge | exact o_eqb | exact o_neb | exact o_isn | exact o_nisn | exact o_isb | exact o_nisb | exact o_eqs | exact o_nes | exact eq_nilO | exact ne_nilO | exact eq_nilP | exact ne_nilP | exact eq_nilI | exact ne_nilI | exact o_eqI | exact o_neI | exact in_ints | exact nin_ints) | (show xL _ _ _ = _; first | exact b_max | exact b_min | exact b_lenM | exact b_lenS | exact b_sorted | exact b_sortp | exact b_dict | exact b_dnew | apply b_dget | apply b_sortd | apply b_list | apply b_listT | apply b_listrevM | exact b_sum | exact b_all | exact b_intT | exact b_intF | exact b_intB | exact b_intI | exact b_abs | apply b_str | (rw [xL_eq]; assumption) | (rw [xL_eq]; rfl)) | (show xI _ _ = _; first | exact it_scr | apply it_seq | apply it_rng | exact it_rng2 (by omega) (by omega) | apply it_enum | apply it_zip | apply it_seqT | (rw [xI_eq]; assumption)) | (show xX _ _ = _; first | (apply i_mapL; rfl) | (apply i_lstL; rfl) | (apply i_tupL; rfl) | (apply i_scrL; rfl) | (rw [xX_eq]; assumption) | apply i_map | apply i_scr) | (show xS _ _ _ = _; first | exact s_scr | apply s_map) | (show Shds _ _; exact inferInstance) | (show ShEnv _ _; exact inferInstance) | (show NF _; exact inferInstance) | (show NFs _; exact inferInstance) | (show Shd _ _; exact inferInstance) | (show ShO _ _; exact inferInstance) | exact get0 | apply getS | exact set0 | apply setS | apply bn_nm | apply bn_tup | apply bn_lst | exact bs_nil | apply bs_cons | exact fz_nil | apply fz_cons | exact mk_nil | apply mk_in (by decide) | apply mk_out (by decide) | exact e0_nil | apply e0_none | apply e0_cons | (show Sm _ _; first | assumption | exact sm_int (by decide) | exact sm_int2 (by decide) | exact sm_nat (by omega) | exact sm_lpow (k := 220) (by decide) | exact sm_p2 (k := 1001) (by omega) | apply sm_mod (by first | decide | assumption | exact pos_lpow (by decide) | exact Int.pow_pos (by decide) | omega) | apply sm_add | apply sm_sub | apply sm_mul | apply sm_fdiv (by first | decide | assumption | exact pos_lpow (by decide) | exact Int.pow_pos (by decide) | omega) | apply sm_max | apply sm_min | apply sm_neg) | (show SLen _ _; first | assumption | apply sl_int | apply sl_app | exact sl_le (n := 64) (by decide)) | (show xMs _ _ _ = _; first | exact ks_nil | apply ks_cons) | (show NewR _ _ _ _; assumption) | (show MethR _ _ _ _ _; assumption) | rfl | apply bw | apply cb | apply cA | (show ∀ _ ∈ _, Cb _ _ _ _ _ _ _ _; intro _ _) | (show ∀ _ ∈ _, Ca _ _ _ _ _ _; intro _ _) | (show _ = true → xv _ _ _ = _; intro _) | (show _ ≤ (16777216 : Nat); omega) | (show _ < (16777216 : Nat); omega) | (show _ ≤ _; first | assumption | exact Nat.le_of_ble_eq_true rfl | decide | omega) | (show _ < _; first | assumption | decide | omega) | (show _ = true; first | assumption | decide) | (show _ = false; first | assumption | decide))
/-! ## Drawn numbers, by how many -/
section
variable {G : Gam} {a b c d e f : Int}
theorem drawn2 (H : HasDrawn G) (cell : Int) (ha : 0 < a ∧ Sm 9000 a) (hb : 0 < b ∧ Sm 9000 b) : ∃ x y : Int, xf G "_law_drawn" [.int cell, .lst false [.int a, .int b]] = .ok (.lst true [.int x, .int y]) ∧ (0 ≤ x ∧ x < a) ∧ (0 ≤ y ∧ y < b) := by
  obtain ⟨xs, h1, h2, h3⟩ := H.ex cell [a, b] (by simp) (by
    intro s m
    simp only [List.mem_cons, List.not_mem_nil, or_false] at m
    rcases m with rfl | rfl
    · exact ha
    · exact hb)
  match xs, h2 with
  | [x, y], _ => exact ⟨x, y, h1, h3 0 x a rfl rfl, h3 1 y b rfl rfl⟩
theorem drawn3 (H : HasDrawn G) (cell : Int) (ha : 0 < a ∧ Sm 9000 a) (hb : 0 < b ∧ Sm 9000 b) (hc : 0 < c ∧ Sm 9000 c) : ∃ x y z : Int, xf G "_law_drawn" [.int cell, .lst false [.int a, .int b, .int c]] = .ok (.lst true [.int x, .int y, .int z]) ∧ (0 ≤ x ∧ x < a) ∧ (0 ≤ y ∧ y < b) ∧ (0 ≤ z ∧ z < c) := by
  obtain ⟨xs, h1, h2, h3⟩ := H.ex cell [a, b, c] (by simp) (by
    intro s m
    simp only [List.mem_cons, List.not_mem_nil, or_false] at m
    rcases m with rfl | rfl | rfl
    · exact ha
    · exact hb
    · exact hc)
  match xs, h2 with
  | [x, y, z], _ => exact ⟨x, y, z, h1, h3 0 x a rfl rfl, h3 1 y b rfl rfl, h3 2 z c rfl rfl⟩
theorem drawn4 (H : HasDrawn G) (cell : Int) (ha : 0 < a ∧ Sm 9000 a) (hb : 0 < b ∧ Sm 9000 b) (hc : 0 < c ∧ Sm 9000 c) (hd : 0 < d ∧ Sm 9000 d) : ∃ x y z u : Int, xf G "_law_drawn" [.int cell, .lst false [.int a, .int b, .int c, .int d]] = .ok (.lst true [.int x, .int y, .int z, .int u]) ∧ (0 ≤ x ∧ x < a) ∧ (0 ≤ y ∧ y < b) ∧ (0 ≤ z ∧ z < c) ∧ (0 ≤ u ∧ u < d) := by
  obtain ⟨xs, h1, h2, h3⟩ := H.ex cell [a, b, c, d] (by simp) (by
    intro s m
    simp only [List.mem_cons, List.not_mem_nil, or_false] at m
    rcases m with rfl | rfl | rfl | rfl
    · exact ha
    · exact hb
    · exact hc
    · exact hd)
  match xs, h2 with
  | [x, y, z, u], _ => exact ⟨x, y, z, u, h1, h3 0 x a rfl rfl, h3 1 y b rfl rfl, h3 2 z c rfl rfl, h3 3 u d rfl rfl⟩
theorem drawn6 (H : HasDrawn G) (cell : Int) (ha : 0 < a ∧ Sm 9000 a) (hb : 0 < b ∧ Sm 9000 b) (hc : 0 < c ∧ Sm 9000 c) (hd : 0 < d ∧ Sm 9000 d) (he : 0 < e ∧ Sm 9000 e) (hf : 0 < f ∧ Sm 9000 f) :
    ∃ x y z u v w : Int, xf G "_law_drawn" [.int cell, .lst false [.int a, .int b, .int c, .int d, .int e, .int f]] = .ok (.lst true [.int x, .int y, .int z, .int u, .int v, .int w]) ∧ (0 ≤ x ∧ x < a) ∧ (0 ≤ y ∧ y < b) ∧ (0 ≤ z ∧ z < c) ∧ (0 ≤ u ∧ u < d) ∧ (0 ≤ v ∧ v < e) ∧ (0 ≤ w ∧ w < f) := by
  obtain ⟨xs, h1, h2, h3⟩ := H.ex cell [a, b, c, d, e, f] (by simp) (by
    intro s m
    simp only [List.mem_cons, List.not_mem_nil, or_false] at m
    rcases m with rfl | rfl | rfl | rfl | rfl | rfl
    · exact ha
    · exact hb
    · exact hc
    · exact hd
    · exact he
    · exact hf)
  match xs, h2 with
  | [x, y, z, u, v, w], _ => exact ⟨x, y, z, u, v, w, h1, h3 0 x a rfl rfl, h3 1 y b rfl rfl, h3 2 z c rfl rfl, h3 3 u d rfl rfl, h3 4 v e rfl rfl, h3 5 w f rfl rfl⟩
end
theorem sm_lit9 {x : Int} (h : 0 < x) (s : x.natAbs < 2 ^ 64) : 0 < x ∧ Sm 9000 x := ⟨h, (sm_int s).up (by decide)⟩
/-! ## Things that are data -/
def PyN (d : D) (n : Nat) : Prop := ∃ p, toPy d = some p ∧ PyData.canLay0 p = true ∧ PyData.depth p ≤ n
section
variable {n : Nat} {a b c : D} {o : Bool}
theorem pyn_int (i : Int) : PyN (.int i) n := ⟨.int i, rfl, rfl, Nat.zero_le _⟩
theorem pyn_bl (i : Bool) : PyN (.bl i) n := ⟨.bool i, rfl, rfl, Nat.zero_le _⟩
theorem pyn_non : PyN .non n := ⟨.none, rfl, rfl, Nat.zero_le _⟩
theorem pyns {α : Type} {f : α → D} (h : ∀ x, PyN (f x) n) : ∀ xs : List α, ∃ ps, toPys (xs.map f) = some ps ∧ PyData.canLayAll0 ps = true ∧ PyData.depthAll ps ≤ n
  | [] => ⟨[], rfl, rfl, by simp [PyData.depthAll]⟩
  | x :: r => by
    obtain ⟨p, e, c, d⟩ := h x
    obtain ⟨ps, e2, c2, d2⟩ := pyns h r
    refine ⟨p :: ps, by rw [List.map_cons, toPys, e, e2], by rw [PyData.canLayAll0, c, c2]; rfl, ?_⟩
    simp only [PyData.depthAll]
    omega
theorem pyn_lst {α : Type} {f : α → D} (xs : List α) (h : ∀ x, PyN (f x) n) : PyN (.lst o (xs.map f)) (n + 1) := by
  obtain ⟨ps, e, c, d⟩ := pyns h xs
  refine ⟨.list ps, ?_, by rw [PyData.canLay0]; exact c, by rw [PyData.depth]; omega⟩
  show (toPys (xs.map f)).map _ = _
  rw [e]; rfl
theorem pyn_ints (xs : List Int) : PyN (.lst o (xs.map .int)) 1 := pyn_lst xs fun x => pyn_int x
theorem PyN.up {m : Nat} (h : PyN a n) (l : n ≤ m) : PyN a m := let ⟨p, e, c, d⟩ := h; ⟨p, e, c, by omega⟩
theorem pyn_tup2 (ha : PyN a n) (hb : PyN b n) : PyN (.tup [a, b]) (n + 1) := by
  obtain ⟨p, e, c, d⟩ := ha
  obtain ⟨q, e2, c2, d2⟩ := hb
  refine ⟨.tuple [p, q], ?_, by rw [PyData.canLay0, PyData.canLayAll0, PyData.canLayAll0, PyData.canLayAll0, c, c2]; rfl, ?_⟩
  · show (toPys [a, b]).map _ = _
    rw [toPys, toPys, toPys, e, e2]; rfl
  · simp only [PyData.depth, PyData.depthAll]; omega
theorem pyn_tup3 (ha : PyN a n) (hb : PyN b n) (hc : PyN c n) : PyN (.tup [a, b, c]) (n + 1) := by
  obtain ⟨p, e, c, d⟩ := ha
  obtain ⟨q, e2, c2, d2⟩ := hb
  obtain ⟨r, e3, c3, d3⟩ := hc
  refine ⟨.tuple [p, q, r], ?_, by rw [PyData.canLay0, PyData.canLayAll0, PyData.canLayAll0, PyData.canLayAll0, PyData.canLayAll0, c, c2, c3]; rfl, ?_⟩
  · show (toPys [a, b, _]).map _ = _
    rw [toPys, toPys, toPys, toPys, e, e2, e3]; rfl
  · simp only [PyData.depth, PyData.depthAll]; omega
theorem pyok_of {α : Type} {f : α → D} (h : ∀ x, PyN (f x) n) (l : n ≤ 50) : PyOk f := ⟨fun x => (h x).up l⟩
end
instance pyok_int : PyOk D.int := pyok_of (n := 0) (fun x => pyn_int x) (by decide)
/-! ## Hands split by their bits -/
def bitAt (z : Int) (b : Nat) : Bool := z.toNat.testBit b
theorem and_bit {z : Int} (h : 0 ≤ z) (b : Nat) : Builtin.bitAnd z (2 ^ b) = if bitAt z b then 2 ^ b else 0 := by
  have e2 : ((2 ^ b : Nat) : Int) = 2 ^ b := by simp
  have e : Builtin.bitAnd z (2 ^ b) = ((z.toNat &&& 2 ^ b : Nat) : Int) := by
    rw [← e2]
    have := PyProof.Rows.bitAnd_pp h (Int.natCast_nonneg (2 ^ b))
    rw [this]
    congr 1
  rw [e]
  unfold bitAt
  have k : z.toNat &&& 2 ^ b = if z.toNat.testBit b then 2 ^ b else 0 := by
    apply Nat.eq_of_testBit_eq
    intro i
    rw [Nat.testBit_and, Nat.testBit_two_pow]
    by_cases q : b = i
    · subst q
      cases t : z.toNat.testBit b <;> simp [t]
    · cases t : z.toNat.testBit b <;> simp [q]
  rw [k]
  split
  · exact e2
  · rfl
def lowB (b : Nat) (xs : List Int) : List Int := xs.filter fun z => !bitAt z b
def upB (b : Nat) (xs : List Int) : List Int := xs.filter fun z => bitAt z b
theorem len_bits (b : Nat) (xs : List Int) : (lowB b xs).length + (upB b xs).length = xs.length := by
  unfold lowB upB
  induction xs with
  | nil => rfl
  | cons x r ih =>
    rw [List.filter_cons, List.filter_cons]
    cases q : bitAt x b <;> simp <;> omega
/-- of one half of so many bits, each once -/
structure InB (b : Nat) (xs : List Int) : Prop where
  nd : xs.Nodup
  nn : ∀ z ∈ xs, 0 ≤ z
  eq : ∃ q, ∀ z ∈ xs, z.toNat / 2 ^ b = q
theorem bit_div (n b : Nat) : n / 2 ^ b = 2 * (n / 2 ^ (b + 1)) + (if n.testBit b then 1 else 0) := by
  have e : n / 2 ^ (b + 1) = n / 2 ^ b / 2 := by rw [Nat.pow_succ, Nat.div_div_eq_div_mul]
  have t : n.testBit b = decide (n / 2 ^ b % 2 = 1) := Nat.testBit_eq_decide_div_mod_eq
  rw [t, e]
  by_cases h : n / 2 ^ b % 2 = 1
  · rw [if_pos (by simpa using h)]; omega
  · rw [if_neg (by simpa using h)]; omega
theorem InB.low {b : Nat} {xs : List Int} (h : InB (b + 1) xs) : InB b (lowB b xs) := by
  obtain ⟨q, hq⟩ := h.eq
  refine ⟨h.nd.filter _, fun z m => h.nn z (List.mem_filter.mp m).1, 2 * q, fun z m => ?_⟩
  obtain ⟨m1, m2⟩ := List.mem_filter.mp m
  have e := bit_div z.toNat b
  unfold bitAt at m2
  rw [hq z m1] at e
  rw [e]
  cases t : z.toNat.testBit b
  · simp
  · rw [t] at m2; cases m2
theorem InB.up {b : Nat} {xs : List Int} (h : InB (b + 1) xs) : InB b (upB b xs) := by
  obtain ⟨q, hq⟩ := h.eq
  refine ⟨h.nd.filter _, fun z m => h.nn z (List.mem_filter.mp m).1, 2 * q + 1, fun z m => ?_⟩
  obtain ⟨m1, m2⟩ := List.mem_filter.mp m
  have e := bit_div z.toNat b
  unfold bitAt at m2
  rw [hq z m1, m2] at e
  rw [e]
  simp
theorem InB.zero {xs : List Int} (h : InB 0 xs) : xs.length ≤ 1 := by
  obtain ⟨q, hq⟩ := h.eq
  match xs, h.nd, h.nn, hq with
  | [], _, _, _ => simp
  | [x], _, _, _ => simp
  | x :: y :: r, nd, nn, hq =>
    exfalso
    have a := hq x (by simp)
    have b := hq y (by simp)
    have c := nn x (by simp)
    have d := nn y (by simp)
    have ne := (List.nodup_cons.mp nd).1
    simp at a b
    apply ne
    have : x = y := by omega
    rw [this]
    simp
theorem InB.few : ∀ {b : Nat} {xs : List Int}, InB b xs → (xs.length : Int) ≤ 2 ^ b
  | 0, _, h => by have := h.zero; simp; omega
  | b + 1, xs, h => by
    have h1 := h.low.few
    have h2 := h.up.few
    have l := len_bits b xs
    have e : (2 : Int) ^ (b + 1) = 2 ^ b * 2 := Int.pow_succ 2 b
    omega
/-- all below two to the power of so many bits -/
theorem InB.top {n : Nat} {xs : List Int} (nd : xs.Nodup) (h : ∀ z ∈ xs, 0 ≤ z ∧ z < 2 ^ n) : InB n xs := ⟨nd, fun z m => (h z m).1, 0, fun z m => by
  have := h z m
  have e2 : ((2 ^ n : Nat) : Int) = 2 ^ n := by simp
  exact Nat.div_eq_of_lt (by omega)⟩
/-- how many times they are split -/
def spl : Nat → List Int → Nat
  | 0, _ => 0
  | b + 1, xs => if 1 < xs.length then 1 + spl b (lowB b xs) + spl b (upB b xs) else 0
theorem spl_le : ∀ (b : Nat) (xs : List Int), spl b xs ≤ b * xs.length
  | 0, _ => by simp [spl]
  | b + 1, xs => by
    rw [spl]
    split
    · have h1 := spl_le b (lowB b xs)
      have h2 := spl_le b (upB b xs)
      have l := len_bits b xs
      have : b * (lowB b xs).length + b * (upB b xs).length = b * xs.length := by rw [← Nat.mul_add, l]
      rw [Nat.add_mul]
      omega
    · omega
theorem spl_few : ∀ {b : Nat} {xs : List Int}, InB b xs → xs.length ≤ spl b xs + 1
  | 0, _, h => by have := h.zero; simp [spl]; omega
  | b + 1, xs, h => by
    have h1 := spl_few h.low
    have h2 := spl_few h.up
    have l := len_bits b xs
    rw [spl]
    split <;> omega
theorem mins_add (n : Nat) (a c : Int) (ha : 0 ≤ a) (hc : 0 ≤ c) : (minsF n a).sum + (minsF n c).sum + min 1 (a + c) ≤ (minsF (n + 1) (a + c)).sum := by
  induction n with
  | zero => simp [minsF]
  | succ n ih =>
    have es : ∀ (n : Nat) (h : Int), (minsF (n + 1) h).sum = (minsF n h).sum + min (2 ^ n) h := fun n h => by
      unfold minsF
      rw [List.range_succ, List.map_append, List.sum_append]
      simp
    rw [es n a, es n c, es (n + 1) (a + c)]
    have e : (2 : Int) ^ (n + 1) = 2 ^ n * 2 := Int.pow_succ 2 n
    omega
theorem mins_mono {n : Nat} {a c : Int} (h : a ≤ c) : (minsF n a).sum ≤ (minsF n c).sum := by
  induction n with
  | zero => simp [minsF]
  | succ n ih =>
    have es : ∀ (n : Nat) (h : Int), (minsF (n + 1) h).sum = (minsF n h).sum + min (2 ^ n) h := fun n h => by
      unfold minsF
      rw [List.range_succ, List.map_append, List.sum_append]
      simp
    rw [es n a, es n c]
    omega
theorem spl_most : ∀ (b : Nat) (xs : List Int), (spl b xs : Int) ≤ (minsF b ((xs.length / 2 : Nat) : Int)).sum
  | 0, xs => by simp [spl, minsF]
  | b + 1, xs => by
    rw [spl]
    split
    · rename_i h
      have h1 := spl_most b (lowB b xs)
      have h2 := spl_most b (upB b xs)
      have l := len_bits b xs
      have m := mins_add b (((lowB b xs).length / 2 : Nat) : Int) (((upB b xs).length / 2 : Nat) : Int) (by omega) (by omega)
      by_cases z : (lowB b xs).length / 2 + (upB b xs).length / 2 = 0
      · have z1 : (lowB b xs).length / 2 = 0 := by omega
        have z2 : (upB b xs).length / 2 = 0 := by omega
        have e0 : ∀ n, (minsF n ((0 : Nat) : Int)).sum = 0 := fun n => by
          induction n with
          | zero => rfl
          | succ n ih =>
            have es : (minsF (n + 1) ((0 : Nat) : Int)).sum = (minsF n ((0 : Nat) : Int)).sum + min (2 ^ n) ((0 : Nat) : Int) := by
              unfold minsF
              rw [List.range_succ, List.map_append, List.sum_append]
              simp
            have := pow_i n
            omega
        rw [z1, e0] at h1
        rw [z2, e0] at h2
        have o : xs.length / 2 = 1 := by omega
        rw [o]
        have mm := mins_add b 1 0 (by omega) (by omega)
        have nn := sum_nn (n := b) (h := 1) (by omega)
        have n0 := sum_nn (n := b) (h := 0) (by omega)
        have : min (1 : Int) (1 + 0) = 1 := by decide
        rw [this] at mm
        have e1 : ((1 : Nat) : Int) = 1 + 0 := rfl
        rw [e1]
        omega
      · have m1 : min (1 : Int) ((((lowB b xs).length / 2 : Nat) : Int) + (((upB b xs).length / 2 : Nat) : Int)) = 1 := by omega
        rw [m1] at m
        have m2 := mins_mono (n := b + 1) (a := (((lowB b xs).length / 2 : Nat) : Int) + (((upB b xs).length / 2 : Nat) : Int)) (c := ((xs.length / 2 : Nat) : Int)) (by omega)
        omega
    · have := sum_nn (n := b + 1) (h := ((xs.length / 2 : Nat) : Int)) (by omega)
      simpa using this
/-! ## Widths and hands of a script -/
def d__law_width : Def := .fn 1 2
  (.seq (.asg (.nm 1) (.ex (.call "_law_cell" (.cons (.var 0) (.cons (.int 0) .nil)))))
  (.ret (.ex (.idx (.lst (.cons (.bin .mod (.bin .fdiv (.var 1) (.int 4)) (.int 9)) (.cons (.bin .mod (.bin .fdiv (.var 1) (.int 4)) (.int 41)) (.cons (.bin .mod (.bin .fdiv (.var 1) (.int 4)) (.int 201)) (.cons (.bin .sub (.int 200) (.bin .mod (.bin .fdiv (.var 1) (.int 4)) (.int 9))) .nil))))) (.bin .mod (.var 1) (.int 4))))))
def d__law_hands : Def := .fn 2 5
  (.seq (.asg (.nm 2) (.ex (.lst .nil)))
  (.seq (.for_ (.nm 3) .seq none (.cons (.slc (.var 0) (.int 2) (.bin .add (.int 12) (.bin .mul (.int 14) (.blt .int (.cons (.cmp .lt (.var 1) (.int 41)) .nil))))) .nil)
  (.seq (.asg (.nm 4) (.ex (.call "_law_number" (.cons (.var 3) (.cons (.var 1) (.cons (.var 2) .nil))))))
  (.ife (.cmp .nin (.var 4) (.var 2))
  (.app 2 (.ex (.var 4)))
  .skip)))
  (.ret (.mv 2))))
def HasWidth (G : Gam) : Prop := ∀ ns : List Int, ∃ n : Nat, n ≤ 200 ∧ xf G "_law_width" [.scr ns] = .ok (.int n)
def HasHands (G : Gam) : Prop := ∀ (ns : List Int) (n : Nat), ns.length ≤ 63 → n ≤ 200 → ∃ hs : List Int, xf G "_law_hands" [.scr ns, .int n] = .ok (.lst true (hs.map .int)) ∧ hs.length ≤ 63 ∧ hs.Nodup ∧ ∀ z ∈ hs, 0 ≤ z ∧ z < 2 ^ n
section
variable {G G1 : Gam} {kn : String → Bool}
theorem idx_width (c0 : Int) : ∃ n : Nat, n ≤ 200 ∧ idxF (.lst true [.int (c0 / 4 % 9), .int (c0 / 4 % 41), .int (c0 / 4 % 201), .int (200 - c0 / 4 % 9)]) (.int (c0 % 4)) = .ok (.int n) := by
  obtain ⟨x, hx, e⟩ := idx4 (o := true) (a := c0 / 4 % 9) (b := c0 / 4 % 41) (c := c0 / 4 % 201) (d := 200 - c0 / 4 % 9) (k := c0 % 4) (by omega) (by omega)
  exact ⟨x.toNat, by omega, by rw [e]; congr 2; omega⟩
theorem width_has (hG : ∀ ds, xf G "_law_width" ds = chkE kn (callD G1 d__law_width ds)) (H : HasCell G1) : HasWidth G := by
  intro ns
  obtain ⟨c0, ec0⟩ := H ns 0
  obtain ⟨n, hn, ex⟩ := idx_width c0
  generalize e_ : xf _ _ _ = o_; revert o_; refine to_ans ?_; apply call_x (hG) rfl; (focus repeat' (first | infer_instance | fail))
  repeat' (first | infer_instance | fail)
  exact ⟨n, hn, rfl⟩
theorem hands_has (hG : ∀ ds, xf G "_law_hands" ds = chkE kn (callD G1 d__law_hands ds)) (H : HasNumber G1) : HasHands G := by
  intro ns n hns hn
  obtain ⟨t, ht⟩ : ∃ t : Int, (if decide ((n : Int) < 41) = true then 1 else 0) = t := ⟨_, rfl⟩
  have t01 : 0 ≤ t ∧ t ≤ 1 := by rw [← ht]; split <;> omega
  have st : Sm 10 t := sm_of t01.1 (by omega)
  have ei : xL G1 .int [.bl (decide ((n : Int) < 41))] = .ok (.int t) := by rw [b_intB, ht]
  have hl := cut_len ns (some 2) (some (12 + 14 * t))
  generalize e_ : xf _ _ _ = o_; revert o_; refine to_ans ?_; apply call_x (hG) rfl; (focus repeat' (first | infer_instance | fail))
  repeat' (first | infer_instance | fail)
  (first | apply w_seq | skip); apply w_for inferInstance; (focus repeat' (first | infer_instance | fail)); (focus repeat' (first | infer_instance | fail)); (focus repeat' (first | infer_instance | fail))
  refine fl_pre (fun done δ => ∃ (hs : List Int) (x3 x4 : Option D), δ = [some (.scr ns), some (.int n), some (.lst true (hs.map .int)), x3, x4] ∧ hs.length ≤ done.length ∧ hs.Nodup ∧ ∀ z ∈ hs, 0 ≤ z ∧ z < 2 ^ n) ⟨[], none, none, rfl, by simp, by simp, by simp⟩ ?_ ?_
  · rintro done y rest δ hy ⟨hs, x3, x4, rfl, hb, nd, hz⟩
    have hlen : hs.length < 63 := by
      have := congrArg List.length hy
      simp at this
      omega
    obtain ⟨z, ez, zb⟩ := H y n hs (by omega) hz
    repeat' (first | infer_instance | fail)
    (first | apply w_seq | skip); apply w_if inferInstance; (focus repeat' (first | infer_instance | fail))
    · intro h
      simp at h
      repeat' (first | infer_instance | fail)
      refine ⟨hs ++ [z], _, _, rfl, by simp; exact hb, List.nodup_append.mpr ⟨nd, by simp, fun a m b q e => ?_⟩, fun u m => ?_⟩
      · rw [List.mem_singleton.mp q] at e
        rw [e] at m
        exact h m
      · rcases List.mem_append.mp m with m | m
        · exact hz u m
        · rw [List.mem_singleton.mp m]; exact zb
    · intro _
      repeat' (first | infer_instance | fail)
      exact ⟨hs, _, _, rfl, by simp; omega, nd, hz⟩
  · rintro δ ⟨hs, x3, x4, rfl, hb, nd, hz⟩
    repeat' (first | infer_instance | fail)
    exact ⟨hs, rfl, by omega, nd, hz⟩
end
/-- of hands below two to the power of so many bits -/
theorem hsok_n {hs : List Int} {n : Nat} (hn : n ≤ 200) (hl : hs.length ≤ 63) (nd : hs.Nodup) (hb : ∀ z ∈ hs, 0 ≤ z ∧ z < 2 ^ n) : HsOk hs ∧ onL hs (.half 0 n) := by
  have b5 := pow_lt (a := n) (b := 1000) (by omega)
  exact ⟨⟨nd, fun z m => by have := (hb z m).2; omega, by omega⟩, nd, fun z m => by simp [Span.holds]; exact hb z m⟩
/-! ## What is no span -/
theorem and_ne {m : Int} {b : Nat} (h1 : 2 ^ b < m) (h2 : m < 2 ^ (b + 1)) : Builtin.bitAnd m (m - 1) ≠ 0 := by
  have e2 : ∀ k : Nat, ((2 ^ k : Nat) : Int) = 2 ^ k := fun k => by simp
  have p := pow_i b
  have a := PyProof.Rows.bitAnd_pp (x := m) (y := m - 1) (by omega) (by omega)
  rw [a]
  have h3 := e2 b
  have h4 := e2 (b + 1)
  have t1 : m.toNat.testBit b = true := Nat.testBit_of_two_pow_le_and_two_pow_add_one_gt (by omega) (by omega)
  have t2 : (m - 1).toNat.testBit b = true := Nat.testBit_of_two_pow_le_and_two_pow_add_one_gt (by omega) (by omega)
  intro z
  have z' : m.toNat &&& (m - 1).toNat = 0 := by omega
  have t3 : (m.toNat &&& (m - 1).toNat).testBit b = true := by rw [Nat.testBit_and, t1, t2]; rfl
  rw [z'] at t3
  simp at t3
section
variable {G G1 : Gam} {kn : String → Bool} {ci : ClsI}
theorem no_half (h0 : ∀ ds, xf G "Half.__init__" ds = chkE kn (callD G1 Lb.d_Half___init__ ds)) (hk : kn "NoSpan" = true) (c0 : G.ci "Half" = some ci) (i0 : ci.init = "Half.__init__") {low bits : Int}
    (h : low < 0 ∨ bits < 0 ∨ ∃ n : Nat, n ≤ 1000 ∧ bits = n ∧ low % 2 ^ n ≠ 0) : NewR G "Half" [.int low, .int bits] (.er "NoSpan") := by
  refine nr_mk c0 ?_
  rw [i0, h0, show callD G1 Lb.d_Half___init__ [.obj "Half" [] [], .int low, .int bits] = .er "NoSpan" from ?_, chkE, if_pos hk]
  refine ini_erV rfl (n_chkT ?_)
  by_cases hl : low < 0
  · refine ok_orT ?_
    have : decide (low < 0) = true := decide_eq_true hl
    rw [← this]
    repeat' (first | (apply ok_var; rfl) | exact ok_int | exact ok_bl | exact ok_str | exact ok_non | (apply ok_cst; rfl) | exact oks_nil | exact o_add | exact o_sub | exact o_and | exact o_xor | exact o_eq | exact o_ne | exact o_lt | exact o_le | exact o_gt | exact o_ge | exact o_eqb | exact o_neb | exact o_isn | exact o_nisn | apply x_seq | exact x_skip | apply x_asg | apply x_ret | exact x_retN | apply m_ex | (apply m_mv; rfl) | apply m_exf | apply ok_bin | apply ok_cmp | apply ok_chain | apply ok_not | apply ok_neg | apply ok_and | apply ok_or | apply oks_cons | apply ok_tup | apply ok_lst | apply ok_idx | apply ok_fld | apply ok_call | apply ok_meth | apply ok_new | apply ok_blt | exact Nat.le_of_ble_eq_true rfl | rfl | decide)
  refine ok_orV (d := .bl true) ?_ ?_
  · have : decide (low < 0) = false := decide_eq_false hl
    rw [← this]
    repeat' (first | (apply ok_var; rfl) | exact ok_int | exact ok_bl | exact ok_str | exact ok_non | (apply ok_cst; rfl) | exact oks_nil | exact o_add | exact o_sub | exact o_and | exact o_xor | exact o_eq | exact o_ne | exact o_lt | exact o_le | exact o_gt | exact o_ge | exact o_eqb | exact o_neb | exact o_isn | exact o_nisn | apply x_seq | exact x_skip | apply x_asg | apply x_ret | exact x_retN | apply m_ex | (apply m_mv; rfl) | apply m_exf | apply ok_bin | apply ok_cmp | apply ok_chain | apply ok_not | apply ok_neg | apply ok_and | apply ok_or | apply oks_cons | apply ok_tup | apply ok_lst | apply ok_idx | apply ok_fld | apply ok_call | apply ok_meth | apply ok_new | apply ok_blt | exact Nat.le_of_ble_eq_true rfl | rfl | decide)
  by_cases hb : bits < 0
  · refine ok_orT ?_
    have : decide (bits < 0) = true := decide_eq_true hb
    rw [← this]
    repeat' (first | (apply ok_var; rfl) | exact ok_int | exact ok_bl | exact ok_str | exact ok_non | (apply ok_cst; rfl) | exact oks_nil | exact o_add | exact o_sub | exact o_and | exact o_xor | exact o_eq | exact o_ne | exact o_lt | exact o_le | exact o_gt | exact o_ge | exact o_eqb | exact o_neb | exact o_isn | exact o_nisn | apply x_seq | exact x_skip | apply x_asg | apply x_ret | exact x_retN | apply m_ex | (apply m_mv; rfl) | apply m_exf | apply ok_bin | apply ok_cmp | apply ok_chain | apply ok_not | apply ok_neg | apply ok_and | apply ok_or | apply oks_cons | apply ok_tup | apply ok_lst | apply ok_idx | apply ok_fld | apply ok_call | apply ok_meth | apply ok_new | apply ok_blt | exact Nat.le_of_ble_eq_true rfl | rfl | decide)
  refine ok_orV (d := .bl true) ?_ ?_
  · have : decide (bits < 0) = false := decide_eq_false hb
    rw [← this]
    repeat' (first | (apply ok_var; rfl) | exact ok_int | exact ok_bl | exact ok_str | exact ok_non | (apply ok_cst; rfl) | exact oks_nil | exact o_add | exact o_sub | exact o_and | exact o_xor | exact o_eq | exact o_ne | exact o_lt | exact o_le | exact o_gt | exact o_ge | exact o_eqb | exact o_neb | exact o_isn | exact o_nisn | apply x_seq | exact x_skip | apply x_asg | apply x_ret | exact x_retN | apply m_ex | (apply m_mv; rfl) | apply m_exf | apply ok_bin | apply ok_cmp | apply ok_chain | apply ok_not | apply ok_neg | apply ok_and | apply ok_or | apply oks_cons | apply ok_tup | apply ok_lst | apply ok_idx | apply ok_fld | apply ok_call | apply ok_meth | apply ok_new | apply ok_blt | exact Nat.le_of_ble_eq_true rfl | rfl | decide)
  rcases h with h | h | ⟨n, hn, rfl, h⟩
  · exact (hl h).elim
  · exact (hb h).elim
  have : (!(low % 2 ^ n == 0)) = true := by simpa using h
  rw [← this]
  repeat' (first | exact o_mod (pow_i n) | exact o_shl1 (n := n) (by omega) | (apply ok_var; rfl) | exact ok_int | exact ok_bl | exact ok_str | exact ok_non | (apply ok_cst; rfl) | exact oks_nil | exact o_add | exact o_sub | exact o_and | exact o_xor | exact o_eq | exact o_ne | exact o_lt | exact o_le | exact o_gt | exact o_ge | exact o_eqb | exact o_neb | exact o_isn | exact o_nisn | apply x_seq | exact x_skip | apply x_asg | apply x_ret | exact x_retN | apply m_ex | (apply m_mv; rfl) | apply m_exf | apply ok_bin | apply ok_cmp | apply ok_chain | apply ok_not | apply ok_neg | apply ok_and | apply ok_or | apply oks_cons | apply ok_tup | apply ok_lst | apply ok_idx | apply ok_fld | apply ok_call | apply ok_meth | apply ok_new | apply ok_blt | exact Nat.le_of_ble_eq_true rfl | rfl | decide)
theorem no_open (h0 : ∀ ds, xf G "Open.__init__" ds = chkE kn (callD G1 Lb.d_Open___init__ ds)) (hk : kn "NoSpan" = true) (c0 : G.ci "Open" = some ci) (i0 : ci.init = "Open.__init__") {low : Int}
    (h : low < 0 ∨ ∃ b : Nat, 2 ^ b < low ∧ low < 2 ^ (b + 1)) : NewR G "Open" [.int low] (.er "NoSpan") := by
  refine nr_mk c0 ?_
  rw [i0, h0, show callD G1 Lb.d_Open___init__ [.obj "Open" [] [], .int low] = .er "NoSpan" from ?_, chkE, if_pos hk]
  refine ini_erV rfl (n_chkT ?_)
  by_cases hl : low < 0
  · refine ok_orT ?_
    have : decide (low < 0) = true := decide_eq_true hl
    rw [← this]
    repeat' (first | (apply ok_var; rfl) | exact ok_int | exact ok_bl | exact ok_str | exact ok_non | (apply ok_cst; rfl) | exact oks_nil | exact o_add | exact o_sub | exact o_and | exact o_xor | exact o_eq | exact o_ne | exact o_lt | exact o_le | exact o_gt | exact o_ge | exact o_eqb | exact o_neb | exact o_isn | exact o_nisn | apply x_seq | exact x_skip | apply x_asg | apply x_ret | exact x_retN | apply m_ex | (apply m_mv; rfl) | apply m_exf | apply ok_bin | apply ok_cmp | apply ok_chain | apply ok_not | apply ok_neg | apply ok_and | apply ok_or | apply oks_cons | apply ok_tup | apply ok_lst | apply ok_idx | apply ok_fld | apply ok_call | apply ok_meth | apply ok_new | apply ok_blt | exact Nat.le_of_ble_eq_true rfl | rfl | decide)
  refine ok_orV (d := .bl true) ?_ ?_
  · have : decide (low < 0) = false := decide_eq_false hl
    rw [← this]
    repeat' (first | (apply ok_var; rfl) | exact ok_int | exact ok_bl | exact ok_str | exact ok_non | (apply ok_cst; rfl) | exact oks_nil | exact o_add | exact o_sub | exact o_and | exact o_xor | exact o_eq | exact o_ne | exact o_lt | exact o_le | exact o_gt | exact o_ge | exact o_eqb | exact o_neb | exact o_isn | exact o_nisn | apply x_seq | exact x_skip | apply x_asg | apply x_ret | exact x_retN | apply m_ex | (apply m_mv; rfl) | apply m_exf | apply ok_bin | apply ok_cmp | apply ok_chain | apply ok_not | apply ok_neg | apply ok_and | apply ok_or | apply oks_cons | apply ok_tup | apply ok_lst | apply ok_idx | apply ok_fld | apply ok_call | apply ok_meth | apply ok_new | apply ok_blt | exact Nat.le_of_ble_eq_true rfl | rfl | decide)
  rcases h with h | ⟨b, h1, h2⟩
  · exact (hl h).elim
  have : (!(PySem.Builtin.bitAnd low (low - 1) == 0)) = true := by simpa using and_ne h1 h2
  rw [← this]
  repeat' (first | (apply ok_var; rfl) | exact ok_int | exact ok_bl | exact ok_str | exact ok_non | (apply ok_cst; rfl) | exact oks_nil | exact o_add | exact o_sub | exact o_and | exact o_xor | exact o_eq | exact o_ne | exact o_lt | exact o_le | exact o_gt | exact o_ge | exact o_eqb | exact o_neb | exact o_isn | exact o_nisn | apply x_seq | exact x_skip | apply x_asg | apply x_ret | exact x_retN | apply m_ex | (apply m_mv; rfl) | apply m_exf | apply ok_bin | apply ok_cmp | apply ok_chain | apply ok_not | apply ok_neg | apply ok_and | apply ok_or | apply oks_cons | apply ok_tup | apply ok_lst | apply ok_idx | apply ok_fld | apply ok_call | apply ok_meth | apply ok_new | apply ok_blt | exact Nat.le_of_ble_eq_true rfl | rfl | decide)
theorem no_halves (m : ∀ l n, methF G (Lb.half l n) "halves" = some "Half.halves") (hG : ∀ ds, xf G "Half.halves" ds = chkE kn (callD G1 Lb.d_Half_halves ds)) (hk : kn "NoSpan" = true) (low : Int) : MethR G (Span.half low 0).enc "halves" [] (.er "NoSpan") := by
  refine mr_mk (m low 0) ?_
  show xf G "Half.halves" [Lb.half low 0] = _
  generalize e_ : xf _ _ _ = o_; revert o_; refine to_ans ?_; apply call_x (hG) rfl; (focus repeat' (first | infer_instance | fail))
  (first | apply w_seq | skip); apply w_ifT inferInstance; (focus repeat' (first | infer_instance | fail))
  · rfl
  repeat' (first | infer_instance | fail)
  all_goals assumption
end
/-! ## Multiples of a power -/
theorem shl_shr_mod (x : Int) (b : Nat) : (x / 2 ^ b * 2 ^ b) % 2 ^ b = 0 := Int.mul_emod_left ..
theorem shl_shr_le {x : Int} (h : 0 ≤ x) (b : Nat) : 0 ≤ x / 2 ^ b * 2 ^ b ∧ x / 2 ^ b * 2 ^ b ≤ x := by
  have p := pow_i b
  exact ⟨Int.mul_nonneg (Int.ediv_nonneg h (by omega)) (by omega), Int.ediv_mul_le x (by omega)⟩
theorem xor_mod {l : Int} {b : Nat} (h0 : 0 ≤ l) (h : l % 2 ^ b = 0) : Builtin.bitXor l (2 ^ b) % 2 ^ b = 0 := by
  have e2 : ((2 ^ b : Nat) : Int) = 2 ^ b := by simp
  obtain ⟨q, hq⟩ : ∃ q : Nat, l.toNat = q * 2 ^ b := by
    have d := Int.mul_ediv_add_emod l (2 ^ b)
    rw [h] at d
    have p := pow_i b
    have q0 : 0 ≤ l / 2 ^ b := Int.ediv_nonneg h0 (by omega)
    refine ⟨(l / 2 ^ b).toNat, ?_⟩
    have : ((l / 2 ^ b).toNat : Int) = l / 2 ^ b := Int.toNat_of_nonneg q0
    have e : ((l.toNat : Nat) : Int) = (((l / 2 ^ b).toNat * 2 ^ b : Nat) : Int) := by
      rw [Int.natCast_mul, this, e2, Int.toNat_of_nonneg h0, Int.mul_comm]
      omega
    exact Int.ofNat.inj e
  have k : Builtin.bitXor l (2 ^ b) = ((l.toNat ^^^ 2 ^ b : Nat) : Int) := by
    have := Bits.bitXor_pp h0 (show (0 : Int) ≤ 2 ^ b from by have := pow_i b; omega)
    rw [this, ← e2]
    congr 1
  have m : l.toNat ^^^ 2 ^ b = (q ^^^ 1) * 2 ^ b := by
    rw [hq, ← Nat.shiftLeft_eq, ← Nat.shiftLeft_eq, Nat.shiftLeft_xor_distrib, Nat.shiftLeft_eq 1 b, Nat.one_mul]
  rw [k, m, Int.natCast_mul, e2]
  exact Int.mul_emod_left ..
/-! ## The shortest paper -/
def d_least_paper : Def := .fn 2 3
  (.ret (.ex (.comp (.nm 2) .seq (.cons (.call "talk" (.cons (.var 0) (.cons (.call "top_of" (.cons (.var 1) .nil)) .nil))) .nil) (.cmp .ne (.idx (.var 2) (.int 1)) (.tup (.cons (.str "din") .nil))) (.var 2))))
def leastF (hs : List Int) (n : Nat) : List Row := (talkF hs (.half 0 n)).filter fun r => !decide (r.2 = .din)
def HasLeast (G : Gam) : Prop := ∀ (hs : List Int) (n : Nat), n ≤ 1000 → (HsOk hs → onL hs (.half 0 n) → xf G "least_paper" [.lst false (hs.map .int), .int n] = .ok (.lst true ((leastF hs n).map rowE))) ∧ (¬ onL hs (.half 0 n) → xf G "least_paper" [.lst false (hs.map .int), .int n] = .er "NoHands")
theorem er_comp {G : Gam} {ρ : Ev.Env} {as c e : E} {t : Tg} {k : ItK} {x : String} (h : xvs G ρ as = .er x) : xv G ρ (.comp t k as c e) = .er x := by
  rw [xvs_eq] at h
  rw [xv_eq, ev, h, Res.bind]
theorem least_has {G G1 : Gam} {kn : String → Bool} (hG : ∀ ds, xf G "least_paper" ds = chkE kn (callD G1 d_least_paper ds)) (hk : kn "NoHands" = true) (HT : HasTalk Span.Ok G1) (HP : HasTop G1) : HasLeast G := by
  intro hs n hn
  have tp := HP.1 n hn
  have ok := top_okn hn
  have tp' : xf G1 "top_of" [.int n] = .ok (Span.half 0 n).enc := tp
  clear tp
  refine ⟨fun H on => ?_, fun hno => ?_⟩
  · have few := talk_few H _ ok
    have tk := (HT hs _ ok).1 H on
    have few2 : (talkF hs (.half 0 n)).length ≤ 16777216 := by omega
    generalize e_ : xf _ _ _ = o_; revert o_; refine to_ans ?_; apply call_x (hG) rfl; (focus repeat' (first | infer_instance | fail))
    unfold leastF
    repeat' (first | infer_instance | fail)
  · generalize e_ : xf _ _ _ = o_; revert o_; refine to_ans ?_; apply call_x (hG) rfl; (focus repeat' (first | infer_instance | fail))
    refine w_retX inferInstance (er_comp (er_fst (er_call (ds := [.lst false (hs.map .int), (Span.half 0 n).enc]) ?_ inferInstance ((HT hs _ ok).2 hno)))) (k_er hk rfl)
    repeat' (first | infer_instance | fail)
/-! ## Halves that wait, as a law of its own tells a talk -/
/-- a row as the law tells it -/
def dueE (r : Row) : D := .tup [.str r.1.shown, r.2.enc]
instance shd_due (r : Row) : Shd (dueE r) (dueE r) := ⟨by obtain ⟨s, h⟩ := r; cases h <;> rfl⟩
instance nf_due (r : Row) : NF (dueE r) := ⟨by obtain ⟨s, h⟩ := r; cases h <;> rfl⟩
/-- a half that waits: its hands' list own or not, its low number, its bits -/
abbrev Wt := Bool × Int × Nat
abbrev wsp (p : Wt) : Span := .half p.2.1 p.2.2
def waitE (hs : List Int) (p : Wt) : D := .tup [.int p.2.1, .int (p.2.2 : Int), .lst p.1 ((hs.filter (wsp p).holds).map .int)]
instance pyok_wait (hs : List Int) : PyOk (waitE hs) := pyok_of (n := 2) (fun p => pyn_tup3 (pyn_int _) (pyn_int _) (pyn_ints _)) (by decide)
instance shd_wait (hs : List Int) (p : Wt) : Shd (waitE hs p) (waitE hs (false, p.2)) := ⟨by
  obtain ⟨o, l, n⟩ := p
  have e := shares_ints (hs.filter (wsp (o, l, n)).holds)
  simp only [waitE, share, shares]
  rw [e]⟩
instance pyok_waitG (hs : List Int) {α : Type} (g : α → Wt) : PyOk (fun x => waitE hs (g x)) := ⟨fun x => PyOk.ok (f := waitE hs) (g x)⟩
theorem v_due {G : Gam} {ρ : Ev.Env} {a b : E} {s : Span} {h : Hd} (h1 : xv G ρ a = .ok (.str s.shown)) (h2 : xv G ρ b = .ok h.enc) : xv G ρ (.tup (.cons a (.cons b .nil))) = .ok (dueE (s, h)) := ok_tup (oks_cons h1 (oks_cons h2 oks_nil)) (Nat.le_of_ble_eq_true rfl)
theorem k_wait {G : Gam} {δ δ1 : Ev.Env} {as : M} {hs : List Int} {l : Int} {m : Nat} (h : xMs G δ as = .ok ([.int l, .int (m : Int), .lst true ((hs.filter (Span.half l m).holds).map .int)], δ1)) : xM G δ (.tp as) = .ok (waitE hs (true, l, m), δ1) := k_tp h (show 3 ≤ lineN by decide)
end Lc
namespace Lc
open Ev Lb PySem L2
local macro_rules | `(tactic| infer_instance) => `(tactic| first | (show _ = _; assumption) | exact row_0 _ | exact row_1 _ | exact hd_tag _ | exact hd_num _ | exact hd_eqDin _ | exact hd_eqHush _ | exact hd_eqWord _ _ | exact hd_neDin _ | exact hd_neHush _ | exact hd_neWord _ _ | exact hd_eq _ _ | exact hd_ne _ _ | apply row_bn | exact it_pair | exact fld_low _ | (show Wp _ _ _ _; first | apply w_seq | apply w_asg | apply w_asgT | apply w_skip | (apply w_appM; (focus (repeat (first | exact get0 | apply getS)))) | apply w_app | apply w_exp | apply w_ret | apply w_retN | apply w_rse | apply w_brk | apply w_cnt | apply w_aug | apply w_augS | apply w_tri | apply w_clr | apply w_clrT | apply w_setd | apply w_rem | apply w_rvsM | apply w_rvs | apply w_popA | apply w_ext) | apply q_nx | apply q_rt | apply q_er | apply q_bk | apply q_ct | (apply kq_nx; (focus rfl)) | (apply kq_er; (focus rfl)) | apply kq_rt | apply l_nx | apply l_ct | apply l_bk | apply l_rt | apply l_er | apply r_rt | apply r_nx | apply r_er | apply t_nx | apply t_rt | apply t_er | apply n_nx | apply n_rt | apply n_bk | apply n_ct | apply a_nx | apply a_rt | apply k_nx | apply k_rt | apply k_er | apply nx_nx | apply h_as rfl | apply h_one rfl | apply h_no rfl | (show xM _ _ _ = _; first | apply k_ex | apply k_mv | apply k_exf | apply k_tp | apply k_ls) | (show xv _ _ _ = _; first | apply v_var | exact ok_int | exact ok_bl | exact ok_str | exact ok_non | (apply ok_cst; rfl) | apply ok_bin | apply ok_cmp | apply ok_not | apply v_call | apply v_blt | apply v_idx | apply ok_fld | apply v_methR | apply v_newR | apply v_compA | apply v_comp | apply ok_tup | apply ok_lst | apply ok_chain | apply ok_neg | apply ok_and | apply ok_or | apply v_slc0 | apply v_slcL (nl := rfl) | apply v_slcH (nh := rfl) | apply v_slc (nl := rfl) (nh := rfl)) | (show xvs _ _ _ = _; first | exact oks_nil | apply oks_cons) | (show xb _ _ _ = _; first | exact o_add | exact o_sub | exact o_and | exact o_xor | apply p_mul | apply o_mod (by first | decide | assumption | exact pos_lpow (by decide) | exact Int.pow_pos (by decide) | omega) | apply p_fdiv (by first | decide | assumption | exact pos_lpow (by decide) | exact Int.pow_pos (by decide) | omega) | exact p_pow (by decide) (by decide) | apply o_shl1 | apply p_shlN | apply p_shlL | exact o_shr | exact p_shrL | apply c_map | apply c_lst | apply p_cat) | (show xp _ _ _ = _; first | exact o_eq | exact o_ne | exact o_lt | exact o_le | exact o_gt | exact o_ge | exact o_eqb | exact o_neb | exact o_isn | exact o_nisn | exact o_isb | exact o_nisb | exact o_eqs | exact o_nes | exact eq_nilO | exact ne_nilO | exact eq_nilP | exact ne_nilP | exact eq_nilI | exact ne_nilI | exact o_eqI | exact o_neI | exact in_ints | exact nin_ints) | (show xL _ _ _ = _; first | exact b_max | exact b_min | exact b_lenM | exact b_lenS | exact b_sorted | exact b_sortp | exact b_dict | exact b_dnew | apply b_dget | apply b_sortd | apply b_list | apply b_listT | apply b_listrevM | exact b_sum | exact b_all | exact b_intT | exact b_intF | exact b_intB | exact b_intI | exact b_abs | apply b_str | (rw [xL_eq]; assumption) | (rw [xL_eq]; rfl)) | (show xI _ _ = _; first | exact it_scr | apply it_seq | apply it_rng | exact it_rng2 (by omega) (by omega) | apply it_enum | apply it_zip | apply it_seqT | (rw [xI_eq]; assumption)) | (show xX _ _ = _; first | (apply i_mapL; rfl) | (apply i_lstL; rfl) | (apply i_tupL; rfl) | (apply i_scrL; rfl) | (rw [xX_eq]; assumption) | apply i_map | apply i_scr) | (show xS _ _ _ = _; first | exact s_scr | apply s_map) | (show Shds _ _; exact inferInstance) | (show ShEnv _ _; exact inferInstance) | (show NF _; exact inferInstance) | (show NFs _; exact inferInstance) | (show Shd _ _; exact inferInstance) | (show ShO _ _; exact inferInstance) | exact get0 | apply getS | exact set0 | apply setS | apply bn_nm | apply bn_tup | apply bn_lst | exact bs_nil | apply bs_cons | exact fz_nil | apply fz_cons | exact mk_nil | apply mk_in (by decide) | apply mk_out (by decide) | exact e0_nil | apply e0_none | apply e0_cons | (show Sm _ _; first | assumption | exact sm_int (by decide) | exact sm_int2 (by decide) | exact sm_nat (by omega) | exact sm_lpow (k := 220) (by decide) | exact sm_p2 (k := 1001) (by omega) | apply sm_mod (by first | decide | assumption | exact pos_lpow (by decide) | exact Int.pow_pos (by decide) | omega) | apply sm_add | apply sm_sub | apply sm_mul | apply sm_fdiv (by first | decide | assumption | exact pos_lpow (by decide) | exact Int.pow_pos (by decide) | omega) | apply sm_max | apply sm_min | apply sm_neg) | (show SLen _ _; first | assumption | apply sl_int | apply sl_app | exact sl_le (n := 64) (by decide)) | (show xMs _ _ _ = _; first | exact ks_nil | apply ks_cons) | (show NewR _ _ _ _; assumption) | (show MethR _ _ _ _ _; assumption) | rfl | apply bw | apply cb | apply cA | (show ∀ _ ∈ _, Cb _ _ _ _ _ _ _ _; intro _ _) | (show ∀ _ ∈ _, Ca _ _ _ _ _ _; intro _ _) | (show _ = true → xv _ _ _ = _; intro _) | (show _ ≤ (16777216 : Nat); omega) | (show _ < (16777216 : Nat); omega) | (show _ ≤ _; first | assumption | exact Nat.le_of_ble_eq_true rfl | decide | omega) | (show _ < _; first | assumption | decide | omega) | (show _ = true; first | assumption | decide) | (show _ = false; first | assumption | decide))
/-! ## Books as texts -/
def d_shown_heard : Def := .fn 1 1
  (.seq (.ife (.cmp .eq (.idx (.var 0) (.int 0)) (.str "word"))
  (.ret (.ex (.blt .str (.cons (.idx (.var 0) (.int 1)) .nil))))
  .skip)
  (.ret (.ex (.idx (.var 0) (.int 0)))))
def d_shown_book : Def := .fn 1 3
  (.seq (.ife (.cmp .eq (.var 0) (.lst .nil))
  (.ret (.ex (.str "silence")))
  .skip)
  (.ret (.ex (.blt .join (.cons (.str "; ") (.cons (.comp (.tp [2, 1]) .seq (.cons (.var 0) .nil) (.bl true) (.bin .add (.bin .add (.meth (.var 2) "shown" .nil) (.str " ")) (.call "shown_heard" (.cons (.var 1) .nil)))) .nil))))))
def d_number_of : Def := .fn 1 2
  (.seq (.ife (.or (.cmp .eq (.var 0) (.str "")) (.or (.cmp .gt (.blt .len (.cons (.var 0) .nil)) (.int 60)) (.and (.cmp .eq (.idx (.var 0) (.int 0)) (.str "0")) (.cmp .gt (.blt .len (.cons (.var 0) .nil)) (.int 1)))))
  (.rse "NoText")
  .skip)
  (.seq (.for_ (.nm 1) .chr (some [0]) (.cons (.var 0) .nil)
  (.ife (.cmp .nin (.var 1) (.str "0123456789"))
  (.rse "NoText")
  .skip))
  (.ret (.ex (.blt .int (.cons (.var 0) .nil))))))
def d_read_span : Def := .fn 1 4
  (.seq (.asg (.tp [1, 2, 3]) (.ex (.blt .part (.cons (.var 0) (.cons (.str "+") .nil)))))
  (.seq (.ife (.cmp .eq (.var 2) (.str ""))
  (.rse "NoText")
  .skip)
  (.seq (.asg (.nm 1) (.ex (.call "number_of" (.cons (.var 1) .nil))))
  (.seq (.ife (.cmp .eq (.var 3) (.str ""))
  (.ret (.ex (.call "span_of" (.cons (.var 1) (.cons .non .nil)))))
  .skip)
  (.seq (.asg (.nm 3) (.ex (.call "number_of" (.cons (.var 3) .nil))))
  (.seq (.ife (.cmp .gt (.var 3) (.int 200))
  (.rse "NoText")
  .skip)
  (.ret (.ex (.call "span_of" (.cons (.var 1) (.cons (.var 3) .nil)))))))))))
def d_read_row : Def := .fn 1 5
  (.seq (.asg (.tp [1, 2, 3]) (.ex (.blt .part (.cons (.var 0) (.cons (.str " ") .nil)))))
  (.seq (.asg (.nm 4) (.ex (.call "read_span" (.cons (.var 1) .nil))))
  (.seq (.ife (.or (.cmp .eq (.var 3) (.str "hush")) (.cmp .eq (.var 3) (.str "din")))
  (.ret (.ex (.tup (.cons (.var 4) (.cons (.tup (.cons (.var 3) .nil)) .nil)))))
  .skip)
  (.ret (.ex (.tup (.cons (.var 4) (.cons (.tup (.cons (.str "word") (.cons (.call "number_of" (.cons (.var 3) .nil)) .nil))) .nil))))))))
def d_read_book : Def := .fn 1 2
  (.seq (.ife (.cmp .eq (.var 0) (.str "silence"))
  (.ret (.ex (.lst .nil)))
  .skip)
  (.ret (.ex (.comp (.nm 1) .seq (.cons (.blt .split (.cons (.var 0) (.cons (.str "; ") .nil))) .nil) (.bl true) (.call "read_row" (.cons (.var 1) .nil))))))
def d_span_of0 : Def := .fn 2 4
  (.seq (.tri (.ife (.cmp .is (.var 1) .non)
  (.asg (.nm 2) (.ex (.new "Open" (.cons (.var 0) .nil))))
  (.asg (.nm 2) (.ex (.new "Half" (.cons (.var 0) (.cons (.var 1) .nil))))))
  (.hnd ["NoSpan"] (some 3) (.hnd [] none .skip .skip)
  .skip))
  (.ret (.ex (.var 2))))

def Hd.text : Hd → PySem.Str
  | .hush => "hush"
  | .word n => toString n
  | .din => "din"
def rowT (r : Row) : PySem.Str := (r.1.shown ++ (" " : PySem.Str)) ++ r.2.text
noncomputable def bookT (b : List Row) : PySem.Str := if b = [] then "silence" else Txt.join "; " (b.map rowT)
/-- a row whose text is not too long -/
structure TxR (r : Row) : Prop where
  num : ∀ n, r.2 = .word n → Sm 1900 n
  len : (rowT r).length ≤ 160
def HasShownHeard (G : Gam) : Prop := ∀ h : Hd, (∀ n, h = .word n → Sm 1900 n) → xf G "shown_heard" [h.enc] = .ok (.str h.text)
def HasShownBook (V : Span → Prop) (G : Gam) : Prop := ∀ b : List Row, b.length ≤ 100000 → (∀ r ∈ b, V r.1 ∧ TxR r) → xf G "shown_book" [.lst false (b.map rowE)] = .ok (.str (bookT b))
section
variable {G G1 : Gam} {kn : String → Bool} {V : Span → Prop}
theorem shown_heard_has (hG : ∀ ds, xf G "shown_heard" ds = chkE kn (callD G1 d_shown_heard ds)) : HasShownHeard G := by
  intro h sm
  have ht := hd_tag h
  cases h with
  | hush =>
    generalize e_ : xf _ _ _ = o_; revert o_; refine to_ans ?_; apply call_x (hG) rfl; (focus repeat' (first | infer_instance | fail))
    (first | apply w_seq | skip); apply w_ifF inferInstance; (focus repeat' (first | exact ht | infer_instance | fail))
    · decide +kernel
    repeat' (first | exact ht | infer_instance | fail)
  | din =>
    generalize e_ : xf _ _ _ = o_; revert o_; refine to_ans ?_; apply call_x (hG) rfl; (focus repeat' (first | infer_instance | fail))
    (first | apply w_seq | skip); apply w_ifF inferInstance; (focus repeat' (first | exact ht | infer_instance | fail))
    · decide +kernel
    repeat' (first | exact ht | infer_instance | fail)
  | word n =>
    have s := sm n rfl
    have hn := hd_num n
    generalize e_ : xf _ _ _ = o_; revert o_; refine to_ans ?_; apply call_x (hG) rfl; (focus repeat' (first | infer_instance | fail))
    (first | apply w_seq | skip); apply w_ifT inferInstance; (focus repeat' (first | exact ht | infer_instance | fail))
    · exact (show (("word" : PySem.Str) == ("word" : PySem.Str)) = true by decide +kernel)
    repeat' (first | exact hn | infer_instance | fail)
theorem shown_book_has (hG : ∀ ds, xf G "shown_book" ds = chkE kn (callD G1 d_shown_book ds)) (HS : HasShown V G1) (HH : HasShownHeard G1) : HasShownBook V G := by
  intro b hb hr
  have sp : (" " : PySem.Str).length = 1 := by decide +kernel
  have sc : ("; " : PySem.Str).length = 2 := by decide +kernel
  by_cases ne : b = []
  · subst ne
    show _ = Res.ok (D.str (bookT []))
    rw [bookT, if_pos rfl]
    generalize e_ : xf _ _ _ = o_; revert o_; refine to_ans ?_; apply call_x (hG) rfl; (focus repeat' (first | infer_instance | fail))
    (first | apply w_seq | skip); apply w_ifT inferInstance; (focus repeat' (first | infer_instance | fail))
    · rfl
    repeat' (first | infer_instance | fail)
  · rw [bookT, if_neg ne]
    have item : ∀ r ∈ b, Ca G1 (.tp [2, 1]) (rowE r) [some (.lst false (b.map rowE)), none, none] (.bin .add (.bin .add (.meth (.var 2) "shown" .nil) (.str " ")) (.call "shown_heard" (.cons (.var 1) .nil))) (D.str (rowT r)) := by
      intro r m
      obtain ⟨hV, tx⟩ := hr r m
      have e1 := HS r.1 hV
      have e2 := HH r.2 tx.num
      have l := tx.len
      have l' : r.1.shown.length + 1 + r.2.text.length ≤ 160 := by
        have := l
        rw [rowT, PySem.Str.length_append, PySem.Str.length_append, sp] at this
        exact this
      have c1 : xb .add (.str r.1.shown) (.str " ") = .ok (.str (r.1.shown ++ (" " : PySem.Str))) := o_catS (by rw [sp]; exact Nat.le_trans (by omega) (show 160 ≤ lineN by decide))
      have c2 : xb .add (.str (r.1.shown ++ (" " : PySem.Str))) (.str r.2.text) = .ok (.str (rowT r)) := o_catS (by rw [PySem.Str.length_append, sp]; exact Nat.le_trans l' (by decide))
      apply cA
      (focus repeat' (first | apply row_bn | infer_instance | fail))
      repeat' (first | infer_instance | fail)
    have sum : ((b.map rowT).map (·.length)).sum + (b.map rowT).length * ("; " : PySem.Str).length ≤ lineN := by
      have key : ∀ l : List Row, (∀ r ∈ l, TxR r) → ((l.map rowT).map (·.length)).sum ≤ l.length * 160 := by
        intro l
        induction l with
        | nil => intro _; simp
        | cons x r ih =>
          intro h
          have a := (h x (List.mem_cons_self ..)).len
          have b := ih fun y m => h y (List.mem_cons_of_mem _ m)
          simp only [List.map_cons, List.sum_cons, List.length_cons]
          omega
      have k := key b fun r m => (hr r m).2
      rw [sc, List.length_map]
      show _ ≤ 16777216
      omega
    have jn : ∀ o, xL G1 .join [.str "; ", .lst o (b.map fun r => D.str (rowT r))] = .ok (.str (Txt.join "; " (b.map rowT))) := fun o => by
      have := b_join (G := G1) (o := o) (a := "; ") (ys := b.map rowT) sum
      rw [List.map_map] at this
      exact this
    generalize e_ : xf _ _ _ = o_; revert o_; refine to_ans ?_; apply call_x (hG) rfl; (focus repeat' (first | infer_instance | fail))
    (first | apply w_seq | skip); apply w_ifF inferInstance; (focus repeat' (first | infer_instance | fail))
    · cases b with
      | nil => exact (ne rfl).elim
      | cons x r => rfl
    repeat' (first | exact item _ (by assumption) | exact jn _ | infer_instance | fail)
end
/-! ### Reading -/
def figs (l : List Nat) : Bool := l.all fun c => decide (48 ≤ c) && decide (c ≤ 57)
def numOk (l : List Nat) : Bool := !l.isEmpty && (decide (l.length ≤ 60) && (!(l.head? == some 48 && decide (1 < l.length)) && figs l))
def readN (z : PySem.Str) : Option Nat := if numOk (TL.tl z) then some (PySem.NumText.digitsVal (TL.tl z)) else none
def HasNumOf (G : Gam) : Prop := ∀ z : PySem.Str, z.length ≤ lineN → xf G "number_of" [.str z] = match readN z with | some n => .ok (.int (n : Int)) | none => .er "NoText"
theorem figs_digits {l : List Nat} (h : figs l = true) : PySem.NumText.AllDigits l := fun c m => by
  have := List.all_eq_true.mp h c m
  simp at this
  exact this
theorem tl_nil {z : PySem.Str} (h : TL.tl z = []) : z = "" := TL.ext_tl (h.trans (by decide +kernel))
theorem figures_tl : TL.tl ("0123456789" : PySem.Str) = [48, 49, 50, 51, 52, 53, 54, 55, 56, 57] := by decide +kernel
theorem nin_figs (c : Nat) : xp .nin (.str ⟨#[c]⟩) (.str "0123456789") = .ok (!(decide (48 ≤ c) && decide (c ≤ 57))) := by
  have e : cmpF .nin (.str ⟨#[c]⟩) (.str "0123456789") = .ok (!decide (c ∈ TL.tl ("0123456789" : PySem.Str))) := rfl
  rw [xp_eq, e, figures_tl]
  congr 2
  by_cases h : 48 ≤ c ∧ c ≤ 57
  · have : c = 48 ∨ c = 49 ∨ c = 50 ∨ c = 51 ∨ c = 52 ∨ c = 53 ∨ c = 54 ∨ c = 55 ∨ c = 56 ∨ c = 57 := by omega
    rw [decide_eq_true h.1, decide_eq_true h.2]
    exact decide_eq_true (by simpa using this)
  · have n : ¬ (c ∈ ([48, 49, 50, 51, 52, 53, 54, 55, 56, 57] : List Nat)) := fun m => by simp at m; omega
    rw [decide_eq_false n]
    by_cases h1 : 48 ≤ c
    · rw [decide_eq_false (fun h2 => h ⟨h1, h2⟩), Bool.and_false]
    · rw [decide_eq_false h1]; rfl
section
variable {G G1 : Gam} {kn : String → Bool} {V : Span → Prop}
theorem number_of_has (hG : ∀ ds, xf G "number_of" ds = chkE kn (callD G1 d_number_of ds)) (hk : kn "NoText" = true) : HasNumOf G := by
  intro z hz
  have ll : z.length = (TL.tl z).length := TL.len_tl z
  have le : xL G1 .len [.str z] = .ok (.int (z.length : Int)) := by
    rw [xL_eq]
    show lenF [.str z] = _
    rw [lenF, if_pos hz]
  have it : xI .chr [.str z] = .ok ((TL.tl z).map fun c => D.str ⟨#[c]⟩) := by rw [xI_eq]; rfl
  have bad : numOk (TL.tl z) = false → readN z = none := fun h => by rw [readN, h]; rfl
  by_cases h0 : TL.tl z = []
  · have e := tl_nil h0
    have t : (z == ("" : PySem.Str)) = true := by rw [e]; decide +kernel
    rw [bad (by rw [h0]; rfl)]
    have ev : xp .eq (.str z) (.str "") = .ok true := by rw [o_eqs, t]
    generalize e_ : xf _ _ _ = o_; revert o_; refine to_ans ?_; apply call_x (hG) rfl; (focus repeat' (first | infer_instance | fail))
    (first | apply w_seq | skip); apply w_ifT inferInstance; (focus repeat' (first | refine ok_orT ?_ | infer_instance | fail))
    · rfl
    repeat' (first | infer_instance | fail)
  have t : (z == ("" : PySem.Str)) = false := by
    refine beq_eq_false_iff_ne.mpr fun e => h0 ?_
    rw [e]; decide +kernel
  have ev : xp .eq (.str z) (.str "") = .ok false := by rw [o_eqs, t]
  by_cases h1 : 60 < z.length
  · rw [bad (by unfold numOk; rw [← ll, decide_eq_false (show ¬ z.length ≤ 60 by omega)]; simp)]
    have ev2 : xp .gt (.int (z.length : Int)) (.int 60) = .ok true := by rw [o_gt]; congr 1; exact decide_eq_true (by omega)
    generalize e_ : xf _ _ _ = o_; revert o_; refine to_ans ?_; apply call_x (hG) rfl; (focus repeat' (first | infer_instance | fail))
    (first | apply w_seq | skip); apply w_ifT inferInstance; (focus repeat' (first | refine ok_orV ?_ (ok_orT ?_) | infer_instance | fail))
    · rfl
    repeat' (first | infer_instance | fail)
  have ev2 : xp .gt (.int (z.length : Int)) (.int 60) = .ok false := by rw [o_gt]; congr 1; exact decide_eq_false (by omega)
  obtain ⟨c, r, ec⟩ : ∃ c r, TL.tl z = c :: r := by
    cases q : TL.tl z with
    | nil => exact (h0 q).elim
    | cons c r => exact ⟨c, r, rfl⟩
  have e0 : xX (.str z) (.int 0) = .ok (.str ⟨#[c]⟩) := by
    rw [xX_eq, idxF, if_pos hz, show atI z.cps.toList 0 = some c by rw [show z.cps.toList = c :: r from ec]; exact (atI_nat (xs := c :: r) (k := 0))]
  have q0 : ((⟨#[c]⟩ : PySem.Str) == ("0" : PySem.Str)) = (c == 48) := by
    have z48 : ("0" : PySem.Str) = ⟨#[48]⟩ := TL.ext_tl (by decide +kernel)
    rw [z48]
    by_cases h : c = 48
    · subst h; decide
    · rw [show (c == 48) = false from beq_eq_false_iff_ne.mpr h]
      refine beq_eq_false_iff_ne.mpr fun e => h ?_
      have := congrArg TL.tl e
      simpa [TL.tl] using this
  have ev3 : xp .eq (.str ⟨#[c]⟩) (.str "0") = .ok (c == 48) := by rw [o_eqs, q0]
  have ev4 : xp .gt (.int (z.length : Int)) (.int 1) = .ok (decide (1 < z.length)) := by rw [o_gt]; congr 1; exact decide_eq_decide.mpr (by omega)
  have hh : ((TL.tl z).head? == some 48) = (c == 48) := by rw [ec]; rfl
  have hl : decide ((TL.tl z).length ≤ 60) = true := decide_eq_true (by omega)
  have hi : (TL.tl z).isEmpty = false := by rw [ec]; rfl
  have nk : numOk (TL.tl z) = (!((c == 48) && decide (1 < z.length)) && figs (TL.tl z)) := by
    unfold numOk
    rw [hh, hl, hi, ← ll]
    rfl
  by_cases h2 : ((c == 48) && decide (1 < z.length)) = true
  · rw [bad (by rw [nk, h2]; rfl)]
    generalize e_ : xf _ _ _ = o_; revert o_; refine to_ans ?_; apply call_x (hG) rfl; (focus repeat' (first | infer_instance | fail))
    (first | apply w_seq | skip); apply w_ifT inferInstance; (focus repeat' (first | refine ok_orV ?_ (ok_orV ?_ (ok_and ?_ ?_)) | infer_instance | fail))
    · exact h2
    repeat' (first | infer_instance | fail)
  have h2 : ((c == 48) && decide (1 < z.length)) = false := by simpa using h2
  have nk : numOk (TL.tl z) = figs (TL.tl z) := by rw [nk, h2]; rfl
  generalize e_ : xf _ _ _ = o_; revert o_; refine to_ans ?_; apply call_x (hG) rfl; (focus repeat' (first | infer_instance | fail))
  (first | apply w_seq | skip); apply w_ifF inferInstance; (focus repeat' (first | refine ok_orV ?_ (ok_orV ?_ (ok_and ?_ ?_)) | infer_instance | fail))
  · exact h2
  repeat' (first | infer_instance | fail)
  (first | apply w_seq | skip); apply w_forF; (focus repeat' (first | infer_instance | fail)); (focus repeat' (first | infer_instance | fail)); (focus repeat' (first | exact it | infer_instance | fail)); (focus repeat' (first | infer_instance | fail))
  refine fl_pre (fun done δ => ∃ x1 : Option D, δ = [some (.str z), x1] ∧ figs done = true) ⟨none, rfl, rfl⟩ ?_ ?_
  · rintro done y rest δ hy ⟨x1, rfl, hd⟩
    have en := nin_figs y
    repeat' (first | infer_instance | fail)
    (first | apply w_seq | skip); apply w_if inferInstance; (focus repeat' (first | infer_instance | fail))
    · intro h
      have hq : (decide (48 ≤ y) && decide (y ≤ 57)) = false := by
        cases q : (decide (48 ≤ y) && decide (y ≤ 57)) with
        | false => rfl
        | true => rw [q] at h; cases h
      have f : figs (TL.tl z) = false := by
        rw [hy]
        unfold figs
        rw [List.all_append, List.all_cons, hq]
        simp
      rw [bad (by rw [nk]; exact f)]
      repeat' (first | infer_instance | fail)
    · intro h
      have hq : (decide (48 ≤ y) && decide (y ≤ 57)) = true := by
        cases q : (decide (48 ≤ y) && decide (y ≤ 57)) with
        | true => rfl
        | false => rw [q] at h; cases h
      repeat' (first | infer_instance | fail)
      refine ⟨_, rfl, ?_⟩
      unfold figs at hd ⊢
      rw [List.all_append, hd, List.all_cons, hq]
      rfl
  · rintro δ ⟨x1, rfl, hd⟩
    have rd : readN z = some (PySem.NumText.digitsVal (TL.tl z)) := by rw [readN, nk, hd]; rfl
    have ei : xL G1 .int [.str z] = .ok (.int (PySem.NumText.digitsVal (TL.tl z) : Nat)) := by
      rw [xL_eq]
      show intF [.str z] = _
      have := PySem.intText_digits (x := z) (figs_digits hd) h0 (by omega)
      rw [intF, this]
      show (if z.length ≤ 640 then _ else _) = _
      rw [if_pos (by omega)]
    rw [rd]
    repeat' (first | infer_instance | fail)
end
/-! ### Spans, rows and books -/
open Classical in
noncomputable def readS (z : PySem.Str) : Option Span :=
  if (Txt.partition z "+").2.1 = "" then none else
  match readN (Txt.partition z "+").1 with
  | none => none
  | some l => if (Txt.partition z "+").2.2 = "" then (if IsOp (l : Int) then some (.opn l) else none) else
    match readN (Txt.partition z "+").2.2 with
    | none => none
    | some n => if 200 < n then none else if (l : Int) % 2 ^ n = 0 then some (.half l n) else none
noncomputable def readR (z : PySem.Str) : Option Row :=
  match readS (Txt.partition z " ").1 with
  | none => none
  | some s => if (Txt.partition z " ").2.2 = "hush" then some (s, .hush) else if (Txt.partition z " ").2.2 = "din" then some (s, .din) else
    match readN (Txt.partition z " ").2.2 with
    | none => none
    | some n => some (s, .word n)
noncomputable def readL : List PySem.Str → Option (List Row)
  | [] => some []
  | z :: r => match readR z, readL r with
    | some x, some b => some (x :: b)
    | _, _ => none
noncomputable def readB (z : PySem.Str) : Option (List Row) := if z = "silence" then some [] else readL (Txt.split z "; ")
def HasSpanOf (V : Span → Prop) (G : Gam) : Prop := (∀ l n, V (.half l n) → xf G "span_of" [.int l, .int (n : Nat)] = .ok (Span.half l n).enc) ∧ (∀ l, V (.opn l) → xf G "span_of" [.int l, .non] = .ok (Span.opn l).enc)
def HasReadS (V : Span → Prop) (G : Gam) : Prop := ∀ (z : PySem.Str) (s : Span), z.length ≤ lineN → readS z = some s → V s → xf G "read_span" [.str z] = .ok s.enc
def HasReadR (V : Span → Prop) (G : Gam) : Prop := ∀ (z : PySem.Str) (r : Row), z.length ≤ lineN → readR z = some r → V r.1 → xf G "read_row" [.str z] = .ok (rowE r)
def HasReadB (V : Span → Prop) (G : Gam) : Prop := ∀ (z : PySem.Str) (b : List Row), z.length + 2 ≤ lineN → readB z = some b → (∀ r ∈ b, V r.1) → xf G "read_book" [.str z] = .ok (.lst true (b.map rowE))
theorem str_eqb {a b : PySem.Str} (h : a = b) : (a == b) = true := by rw [h]; exact beq_self_eq_true b
theorem str_neb {a b : PySem.Str} (h : ¬ a = b) : (a == b) = false := beq_eq_false_iff_ne.mpr h
theorem plus_nz : ((("+" : PySem.Str)).length == 0) = false := by decide +kernel
theorem gap_nz : (((" " : PySem.Str)).length == 0) = false := by decide +kernel
theorem semi_nz : ((("; " : PySem.Str)).length == 0) = false := by decide +kernel
theorem splits_le {s : Nat} {S : List Nat} : ∀ (k : Nat) (l acc : List Nat), l.length ≤ k → (TL.spl (s :: S) 0 acc l).length ≤ l.length + 1 ∧ ∀ p ∈ TL.spl (s :: S) 0 acc l, p.length ≤ acc.length + l.length
  | _, [], acc, _ => by rw [TL.spl_nil]; simp
  | k + 1, c :: r, acc, h => by
    rw [List.length_cons] at h
    cases q : TL.pre (s :: S) (c :: r) with
    | true =>
      rw [TL.spl_hit q, TL.spl_pass]
      have dl : (r.drop ((s :: S).length - 1)).length ≤ r.length := by rw [List.length_drop]; omega
      generalize r.drop ((s :: S).length - 1) = rd at *
      obtain ⟨a, b⟩ := splits_le (s := s) (S := S) k rd [] (by omega)
      refine ⟨by rw [List.length_cons, List.length_cons]; omega, fun p m => ?_⟩
      rcases List.mem_cons.mp m with e | m
      · rw [e]; omega
      · have := b p m
        rw [List.length_nil] at this
        rw [List.length_cons]
        omega
    | false =>
      rw [TL.spl_miss q]
      obtain ⟨a, b⟩ := splits_le (s := s) (S := S) k r (acc ++ [c]) (by omega)
      refine ⟨by rw [List.length_cons]; omega, fun p m => ?_⟩
      have := b p m
      rw [List.length_append, List.length_singleton] at this
      rw [List.length_cons]
      omega
theorem split_le (z : PySem.Str) {y : PySem.Str} {s : Nat} {S : List Nat} (ey : TL.tl y = s :: S) (hk : y.cps.all (· < 256) = true) : (Txt.split z y).length ≤ z.length + 1 ∧ ∀ p ∈ Txt.split z y, p.length ≤ z.length := by
  have e := TL.split_spl z y (by rw [ey]; simp) (TL.kind_ok hk)
  rw [ey] at e
  obtain ⟨a, b⟩ := splits_le (s := s) (S := S) _ (TL.tl z) [] (Nat.le_refl _)
  rw [← e, List.length_map, ← TL.len_tl] at a
  refine ⟨a, fun p m => ?_⟩
  have := b (TL.tl p) (by rw [← e]; exact List.mem_map.mpr ⟨p, m, rfl⟩)
  rw [TL.len_tl, TL.len_tl z]
  simpa using this
theorem semi_tl : TL.tl ("; " : PySem.Str) = 59 :: [32] := by decide +kernel
theorem plus_tl : TL.tl ("+" : PySem.Str) = 43 :: [] := by decide +kernel
theorem gap_tl : TL.tl (" " : PySem.Str) = 32 :: [] := by decide +kernel
theorem part_len {z y : PySem.Str} (hy : TL.tl y ≠ []) : (Txt.partition z y).1.length ≤ z.length ∧ (Txt.partition z y).2.2.length ≤ z.length := by
  have key : ∀ (S l acc : List Nat), match TL.par S acc l with | some (a, b) => a.length ≤ acc.length + l.length ∧ b.length ≤ l.length | none => True := by
    intro S l
    induction l with
    | nil => intro acc; simp [TL.par]
    | cons c r ih =>
      intro acc
      cases q : TL.pre S (c :: r) with
      | true =>
        rw [TL.par_hit q]
        simp
      | false =>
        rw [TL.par_miss q]
        have := ih (acc ++ [c])
        revert this
        cases TL.par S (acc ++ [c]) r with
        | none => exact id
        | some p =>
          simp
          omega
  have k := key (TL.tl y) (TL.tl z) []
  rw [TL.partition_par z y hy]
  revert k
  cases TL.par (TL.tl y) [] (TL.tl z) with
  | none => intro _; exact ⟨Nat.le_refl _, Nat.zero_le _⟩
  | some p =>
    intro k
    simp only [List.length_nil, Nat.zero_add] at k
    rw [TL.len_tl z]
    refine ⟨?_, ?_⟩
    · show (⟨p.1.toArray⟩ : PySem.Str).length ≤ _
      rw [TL.len_tl]
      exact k.1
    · show (⟨p.2.toArray⟩ : PySem.Str).length ≤ _
      rw [TL.len_tl]
      exact k.2
section
variable {G G1 : Gam} {kn : String → Bool} {V : Span → Prop}
theorem span_of0_has (hG : ∀ ds, xf G "span_of" ds = chkE kn (callD G1 d_span_of0 ds)) (hV : ∀ s, V s → s.Ok) (HA : HasHalf G1) (HB : HasOpen G1) : HasSpanOf V G := by
  refine ⟨fun l n v => ?_, fun l v => ?_⟩
  · have ok : (Span.half l n).Ok := hV _ v
    generalize e_ : xf _ _ _ = o_; revert o_; refine to_ans ?_; apply call_x (hG) rfl; (focus repeat' (first | infer_instance | fail))
    repeat' (first | infer_instance | fail)
    (first | apply w_seq | skip); apply w_ifF inferInstance; (focus repeat' (first | infer_instance | fail))
    · rfl
    repeat' (first | exact newHalf HA ok.2.2.1 ok.1 ok.2.1 | infer_instance | fail)
  · have ok : (Span.opn l).Ok := hV _ v
    generalize e_ : xf _ _ _ = o_; revert o_; refine to_ans ?_; apply call_x (hG) rfl; (focus repeat' (first | infer_instance | fail))
    repeat' (first | infer_instance | fail)
    (first | apply w_seq | skip); apply w_ifT inferInstance; (focus repeat' (first | infer_instance | fail))
    · rfl
    repeat' (first | exact newOpen HB ok | infer_instance | fail)
theorem read_span_has (hG : ∀ ds, xf G "read_span" ds = chkE kn (callD G1 d_read_span ds)) (HN : HasNumOf G1) (HS : HasSpanOf V G1) : HasReadS V G := by
  intro z s hz hr hv
  have pt : xL G1 .part [.str z, .str "+"] = .ok (.tup [.str (Txt.partition z "+").1, .str (Txt.partition z "+").2.1, .str (Txt.partition z "+").2.2]) := b_part plus_nz hz
  obtain ⟨l1, l2⟩ := part_len (z := z) (y := "+") (by decide +kernel)
  unfold readS at hr
  generalize Txt.partition z "+" = p at *
  obtain ⟨lo, pl, hi⟩ := p
  simp only at hr l1 l2 pt
  split at hr
  · cases hr
  rename_i n0
  have b0 : xp .eq (.str pl) (.str "") = .ok false := by rw [o_eqs, str_neb n0]
  have a1 := HN lo (by omega)
  split at hr
  · cases hr
  rename_i l hl
  rw [hl] at a1
  simp only at a1
  split at hr
  · rename_i e2
    split at hr
    · rename_i io
      injection hr with hr
      subst hr
      have b1 : xp .eq (.str hi) (.str "") = .ok true := by rw [o_eqs, str_eqb e2]
      have f := HS.2 l hv
      generalize e_ : xf _ _ _ = o_; revert o_; refine to_ans ?_; apply call_x (hG) rfl; (focus repeat' (first | infer_instance | fail))
      repeat' (first | infer_instance | fail)
      (first | apply w_seq | skip); apply w_ifF inferInstance; (focus repeat' (first | infer_instance | fail))
      · rfl
      repeat' (first | infer_instance | fail)
      (first | apply w_seq | skip); apply w_ifT inferInstance; (focus repeat' (first | infer_instance | fail))
      · rfl
      repeat' (first | infer_instance | fail)
    · cases hr
  · rename_i n2
    have b1 : xp .eq (.str hi) (.str "") = .ok false := by rw [o_eqs, str_neb n2]
    have a2 := HN hi (by omega)
    split at hr
    · cases hr
    rename_i n hn
    rw [hn] at a2
    simp only at a2
    split at hr
    · cases hr
    rename_i few
    split at hr
    · injection hr with hr
      subst hr
      have f := HS.1 l n hv
      generalize e_ : xf _ _ _ = o_; revert o_; refine to_ans ?_; apply call_x (hG) rfl; (focus repeat' (first | infer_instance | fail))
      repeat' (first | infer_instance | fail)
      (first | apply w_seq | skip); apply w_ifF inferInstance; (focus repeat' (first | infer_instance | fail))
      · rfl
      repeat' (first | infer_instance | fail)
      (first | apply w_seq | skip); apply w_ifF inferInstance; (focus repeat' (first | infer_instance | fail))
      · rfl
      repeat' (first | infer_instance | fail)
      (first | apply w_seq | skip); apply w_ifF inferInstance; (focus repeat' (first | infer_instance | fail))
      · simp; omega
      repeat' (first | infer_instance | fail)
    · cases hr
theorem read_row_has (hG : ∀ ds, xf G "read_row" ds = chkE kn (callD G1 d_read_row ds)) (HN : HasNumOf G1) (HS : HasReadS V G1) : HasReadR V G := by
  intro z r hz hr hv
  have pt : xL G1 .part [.str z, .str " "] = .ok (.tup [.str (Txt.partition z " ").1, .str (Txt.partition z " ").2.1, .str (Txt.partition z " ").2.2]) := b_part gap_nz hz
  obtain ⟨l1, l2⟩ := part_len (z := z) (y := " ") (by decide +kernel)
  unfold readR at hr
  generalize Txt.partition z " " = p at *
  obtain ⟨w, gap, rest⟩ := p
  simp only at hr l1 l2 pt
  split at hr
  · cases hr
  rename_i s hs
  split at hr
  · rename_i e1
    injection hr with hr
    subst hr
    have b1 : xp .eq (.str rest) (.str "hush") = .ok true := by rw [o_eqs, str_eqb e1]
    have f := HS w s (by omega) hs hv
    generalize e_ : xf _ _ _ = o_; revert o_; refine to_ans ?_; apply call_x (hG) rfl; (focus repeat' (first | infer_instance | fail))
    repeat' (first | infer_instance | fail)
    (first | apply w_seq | skip); apply w_ifT inferInstance; (focus repeat' (first | refine ok_orT ?_ | infer_instance | fail))
    · rfl
    repeat' (first | infer_instance | fail)
    rw [e1]
    rfl
  rename_i n1
  have b1 : xp .eq (.str rest) (.str "hush") = .ok false := by rw [o_eqs, str_neb n1]
  split at hr
  · rename_i e1
    injection hr with hr
    subst hr
    have b2 : xp .eq (.str rest) (.str "din") = .ok true := by rw [o_eqs, str_eqb e1]
    have f := HS w s (by omega) hs hv
    generalize e_ : xf _ _ _ = o_; revert o_; refine to_ans ?_; apply call_x (hG) rfl; (focus repeat' (first | infer_instance | fail))
    repeat' (first | infer_instance | fail)
    (first | apply w_seq | skip); apply w_ifT inferInstance; (focus repeat' (first | infer_instance | fail))
    · rfl
    repeat' (first | infer_instance | fail)
    rw [e1]
    rfl
  rename_i n2
  have b2 : xp .eq (.str rest) (.str "din") = .ok false := by rw [o_eqs, str_neb n2]
  have a2 := HN rest (by omega)
  split at hr
  · cases hr
  rename_i n hn
  rw [hn] at a2
  simp only at a2
  injection hr with hr
  subst hr
  have f := HS w s (by omega) hs hv
  generalize e_ : xf _ _ _ = o_; revert o_; refine to_ans ?_; apply call_x (hG) rfl; (focus repeat' (first | infer_instance | fail))
  repeat' (first | infer_instance | fail)
  (first | apply w_seq | skip); apply w_ifF inferInstance; (focus repeat' (first | infer_instance | fail))
  · rfl
  repeat' (first | infer_instance | fail)
theorem read_book_has (hG : ∀ ds, xf G "read_book" ds = chkE kn (callD G1 d_read_book ds)) (HR : HasReadR V G1) : HasReadB V G := by
  intro z b hz hr hv
  unfold readB at hr
  split at hr
  · rename_i e
    injection hr with hr
    subst hr
    have b1 : xp .eq (.str z) (.str "silence") = .ok true := by rw [o_eqs, str_eqb e]
    generalize e_ : xf _ _ _ = o_; revert o_; refine to_ans ?_; apply call_x (hG) rfl; (focus repeat' (first | infer_instance | fail))
    (first | apply w_seq | skip); apply w_ifT inferInstance; (focus repeat' (first | infer_instance | fail))
    · rfl
    repeat' (first | infer_instance | fail)
  · rename_i e
    have b1 : xp .eq (.str z) (.str "silence") = .ok false := by rw [o_eqs, str_neb e]
    have sp : xL G1 .split [.str z, .str "; "] = .ok (.lst true ((Txt.split z "; ").map .str)) := b_split semi_nz hz
    obtain ⟨c1, c2⟩ := split_le z semi_tl (by decide +kernel)
    have lz : (Txt.split z "; ").length ≤ lineN := by omega
    have lp : ∀ p ∈ Txt.split z "; ", p.length ≤ lineN := fun p m => by have := c2 p m; omega
    generalize Txt.split z "; " = zs at *
    let g : PySem.Str → D := fun p => match readR p with | some r => rowE r | none => .non
    have key : ∀ (zs : List PySem.Str) (b : List Row), readL zs = some b → zs.map g = b.map rowE ∧ ∀ p ∈ zs, ∃ r ∈ b, readR p = some r := by
      intro zs
      induction zs with
      | nil => intro b e; injection e with e; subst e; exact ⟨rfl, fun p m => (List.not_mem_nil m).elim⟩
      | cons x l ih =>
        intro b e
        rw [readL] at e
        cases q : readR x with
        | none => rw [q] at e; cases e
        | some r =>
          cases q2 : readL l with
          | none => rw [q, q2] at e; cases e
          | some b' =>
            rw [q, q2] at e
            injection e with e
            subst e
            obtain ⟨i1, i2⟩ := ih b' q2
            refine ⟨?_, fun p m => ?_⟩
            · rw [List.map_cons, List.map_cons, i1]
              congr 1
              show (match readR x with | some r => rowE r | none => D.non) = _
              rw [q]
            · rcases List.mem_cons.mp m with e | m
              · exact ⟨r, List.mem_cons_self .., by rw [e]; exact q⟩
              · obtain ⟨r', m', e'⟩ := i2 p m
                exact ⟨r', List.mem_cons_of_mem _ m', e'⟩
    obtain ⟨k1, k2⟩ := key zs b hr
    have item : ∀ p ∈ zs, xf G1 "read_row" [.str p] = .ok (g p) := fun p m => by
      obtain ⟨r, mr, e'⟩ := k2 p m
      rw [HR p r (lp p m) e' (hv r mr)]
      show _ = Res.ok (match readR p with | some r => rowE r | none => D.non)
      rw [e']
    have nf : NF (.lst true (zs.map g)) := by rw [k1]; exact inferInstance
    rw [← k1]
    generalize e_ : xf _ _ _ = o_; revert o_; refine to_ans ?_; apply call_x (hG) rfl; (focus repeat' (first | infer_instance | fail))
    (first | apply w_seq | skip); apply w_ifF inferInstance; (focus repeat' (first | infer_instance | fail))
    · rfl
    repeat' (first | exact item _ (by assumption) | exact nf | infer_instance | fail)
end
/-! ### What is written is read -/
/-- a row that a text can tell -/
def RdOk (r : Row) : Prop := (match r.1 with | .half l n => 0 ≤ l ∧ l < 10 ^ 60 ∧ n ≤ 200 ∧ l % 2 ^ n = 0 | .opn l => IsOp l ∧ l < 10 ^ 60) ∧ ∀ m, r.2 = .word m → 0 ≤ m ∧ m < 10 ^ 60
theorem num_head : ∀ m : Nat, 0 < m → (TL.numL m).head? ≠ some 48 := by
  intro m
  induction m using Nat.strongRecOn with
  | _ m ih =>
    intro h
    by_cases h10 : m < 10
    · rw [TL.numL_lt h10]
      simp
      omega
    · rw [TL.numL_step (by omega)]
      have := ih (m / 10) (by omega) (by omega)
      cases q : TL.numL (m / 10) with
      | nil => exact (TL.numL_ne _ q).elim
      | cons c r => rw [q] at this; exact this
theorem tl_int (m : Nat) : TL.tl (toString (m : Int) : PySem.Str) = TL.numL m := TL.tl_num m
theorem figs_num (m : Nat) : figs (TL.numL m) = true := List.all_eq_true.mpr fun c hc => by
  have := TL.numL_digits m c hc
  simp [this.1, this.2]
theorem read_num {m : Nat} (h : m < 10 ^ 60) : readN (toString (m : Int)) = some m := by
  have l := TL.numL_len (k := 60) (by decide) h
  have ok : numOk (TL.numL m) = true := by
    unfold numOk
    rw [figs_num, decide_eq_true l]
    have e : (TL.numL m).isEmpty = false := by
      cases q : TL.numL m with
      | nil => exact (TL.numL_ne _ q).elim
      | cons c r => rfl
    rw [e]
    have z : ((TL.numL m).head? == some 48 && decide (1 < (TL.numL m).length)) = false := by
      by_cases h0 : m = 0
      · subst h0; decide
      · rw [beq_eq_false_iff_ne.mpr (num_head m (by omega))]; rfl
    rw [z]
    rfl
  rw [readN, tl_int, ok, TL.numL_val]
  rfl
theorem text_free {h : Hd} (hh : ∀ m, h = .word m → 0 ≤ m) {s : Nat} (hs : s = 59 ∨ s = 43 ∨ s = 32) : s ∉ TL.tl h.text := by
  cases h with
  | hush => rcases hs with h | h | h <;> subst h <;> decide +kernel
  | din => rcases hs with h | h | h <;> subst h <;> decide +kernel
  | word m =>
    have h0 := hh m rfl
    obtain ⟨k, rfl⟩ : ∃ k : Nat, m = k := ⟨m.toNat, by omega⟩
    show s ∉ TL.tl (toString (k : Int) : PySem.Str)
    rw [tl_int]
    exact TL.numL_free (by omega)
theorem shown_tl {s : Span} (h : 0 ≤ s.low) : ∃ l : Nat, s.low = l ∧ TL.tl s.shown = TL.numL l ++ 43 :: (match s with | .half _ n => TL.numL n | .opn _ => []) := by
  obtain ⟨k, hk⟩ : ∃ k : Nat, s.low = k := ⟨s.low.toNat, by omega⟩
  refine ⟨k, hk, ?_⟩
  cases s with
  | half l n =>
    have hk : l = k := hk
    subst hk
    show TL.tl ((toString (k : Int) ++ ("+" : PySem.Str)) ++ toString (n : Int)) = _
    rw [TL.tl_append, TL.tl_append, tl_int, tl_int, plus_tl]
    simp
  | opn l =>
    have hk : l = k := hk
    subst hk
    show TL.tl (toString (k : Int) ++ ("+" : PySem.Str)) = _
    rw [TL.tl_append, tl_int, plus_tl]
theorem RdOk.low {r : Row} (h : RdOk r) : 0 ≤ r.1.low := by
  obtain ⟨s, hd⟩ := r
  cases s with
  | half l n => exact h.1.1
  | opn l => exact IsOp.nn h.1.1
theorem shown_free {s : Span} (h : 0 ≤ s.low) {c : Nat} (hc : c = 59 ∨ c = 32) : c ∉ TL.tl s.shown := by
  obtain ⟨l, _, e⟩ := shown_tl h
  rw [e]
  intro m
  rcases List.mem_append.mp m with m | m
  · exact TL.numL_free (by omega) m
  · rcases List.mem_cons.mp m with m | m
    · omega
    · cases s with
      | half l' n => exact TL.numL_free (by omega) m
      | opn l' => cases m
theorem row_free {r : Row} (h : RdOk r) : 59 ∉ TL.tl (rowT r) := by
  rw [rowT, TL.tl_append, TL.tl_append, gap_tl]
  intro m
  rcases List.mem_append.mp m with m | m
  · rcases List.mem_append.mp m with m | m
    · exact shown_free h.low (.inl rfl) m
    · simp at m
  · exact text_free (fun k e => (h.2 k e).1) (.inl rfl) m
theorem read_shown {r : Row} (h : RdOk r) : readS r.1.shown = some r.1 := by
  obtain ⟨s, hd⟩ := r
  have pn : ¬ (("+" : PySem.Str) = "") := by decide +kernel
  cases s with
  | half l n =>
    obtain ⟨h0, h60, hn, hm⟩ := h.1
    obtain ⟨k, rfl⟩ : ∃ k : Nat, l = k := ⟨l.toNat, by omega⟩
    have k60 : k < 10 ^ 60 := by
      have e : ((10 : Int) ^ 60) = ((10 ^ 60 : Nat) : Int) := by simp
      rw [e] at h60
      exact Int.ofNat_lt.mp h60
    have n60 : n < 10 ^ 60 := Nat.lt_of_le_of_lt hn (by decide)
    have e : Txt.partition (Span.half (k : Int) n).shown "+" = ((toString (k : Int) : PySem.Str), ("+" : PySem.Str), (toString (n : Int) : PySem.Str)) := TL.partition_app plus_tl (by rw [tl_int]; exact TL.numL_free (by decide))
    have nn : ¬ ((toString (n : Int) : PySem.Str) = "") := fun q => TL.numL_ne n (by rw [← tl_int, q]; decide +kernel)
    unfold readS
    rw [e]
    simp only [pn, if_false, read_num k60, nn, read_num n60, show ¬ 200 < n by omega, hm, if_true]
  | opn l =>
    obtain ⟨io, h60⟩ := h.1
    have h0 := IsOp.nn io
    obtain ⟨k, rfl⟩ : ∃ k : Nat, l = k := ⟨l.toNat, by omega⟩
    have k60 : k < 10 ^ 60 := by
      have e : ((10 : Int) ^ 60) = ((10 ^ 60 : Nat) : Int) := by simp
      rw [e] at h60
      exact Int.ofNat_lt.mp h60
    have e0 : (Span.opn (k : Int)).shown = ((toString (k : Int) : PySem.Str) ++ ("+" : PySem.Str)) ++ ("" : PySem.Str) := TL.ext_tl (by
      show TL.tl (toString (k : Int) ++ ("+" : PySem.Str)) = _
      rw [TL.tl_append _ ("" : PySem.Str), show TL.tl ("" : PySem.Str) = [] by decide +kernel, List.append_nil])
    have e : Txt.partition (Span.opn (k : Int)).shown "+" = ((toString (k : Int) : PySem.Str), ("+" : PySem.Str), ("" : PySem.Str)) := by
      rw [e0]
      exact TL.partition_app plus_tl (by rw [tl_int]; exact TL.numL_free (by decide))
    unfold readS
    rw [e]
    simp only [pn, if_false, read_num k60, if_true, io]
theorem read_rowT {r : Row} (h : RdOk r) : readR (rowT r) = some r := by
  have e : Txt.partition (rowT r) " " = (r.1.shown, (" " : PySem.Str), r.2.text) := TL.partition_app gap_tl (shown_free h.low (.inr rfl))
  obtain ⟨s, hd⟩ := r
  have rs := read_shown h
  unfold readR
  rw [e]
  simp only at rs ⊢
  rw [rs]
  simp only
  cases hd with
  | hush => rw [if_pos (show Hd.hush.text = "hush" from rfl)]
  | din => rw [if_neg (show ¬ ((Hd.din).text = "hush") by decide +kernel), if_pos (show Hd.din.text = "din" from rfl)]
  | word m =>
    obtain ⟨h0, h60⟩ := h.2 m rfl
    obtain ⟨k, rfl⟩ : ∃ k : Nat, m = k := ⟨m.toNat, by omega⟩
    have k60 : k < 10 ^ 60 := by
      have e : ((10 : Int) ^ 60) = ((10 ^ 60 : Nat) : Int) := by simp
      rw [e] at h60
      exact Int.ofNat_lt.mp h60
    have dig : ∀ z : PySem.Str, (∃ c ∈ TL.tl z, 57 < c) → ¬ ((Hd.word (k : Int)).text = z) := fun z ⟨c, hc, hb⟩ q => by
      rw [← q] at hc
      have hc' : c ∈ TL.numL k := by rw [← tl_int]; exact hc
      have := TL.numL_digits k c hc'
      omega
    have t : readN (Hd.word (k : Int)).text = some k := read_num k60
    rw [if_neg (dig "hush" ⟨104, by decide +kernel, by decide⟩), if_neg (dig "din" ⟨100, by decide +kernel, by decide⟩), t]
theorem read_list : ∀ {b : List Row}, (∀ r ∈ b, RdOk r) → readL (b.map rowT) = some b
  | [], _ => rfl
  | r :: b, h => by
    rw [List.map_cons, readL, read_rowT (h r (List.mem_cons_self ..)), read_list fun x m => h x (List.mem_cons_of_mem _ m)]
theorem read_book {b : List Row} (h : ∀ r ∈ b, RdOk r) : readB (bookT b) = some b := by
  unfold bookT
  by_cases e : b = []
  · subst e
    rw [if_pos rfl, readB, if_pos rfl]
  · rw [if_neg e]
    have hp : ∀ p ∈ b.map rowT, 59 ∉ TL.tl p := fun p m => by
      obtain ⟨r, mr, er⟩ := List.mem_map.mp m
      rw [← er]
      exact row_free (h r mr)
    have sp := TL.split_join semi_tl (by decide +kernel) (parts := b.map rowT) (by simpa using e) hp
    have ns : ¬ (Txt.join "; " (b.map rowT) = "silence") := by
      intro q
      have m : 43 ∈ TL.tl (Txt.join "; " (b.map rowT)) := by
        rw [TL.join_eq, TL.tl_join]
        cases b with
        | nil => exact (e rfl).elim
        | cons r l =>
          have m43 : 43 ∈ TL.tl (rowT r) := by
            obtain ⟨k, _, es⟩ := shown_tl (h r (List.mem_cons_self ..)).low
            rw [rowT, TL.tl_append, TL.tl_append, es]
            simp
          cases l with
          | nil => exact m43
          | cons r2 l2 => exact List.mem_append_left _ m43
      rw [q] at m
      exact absurd m (by decide +kernel)
    rw [readB, if_neg ns, sp, read_list h]
theorem int_len {m : Nat} {k : Nat} (hk : 0 < k) (h : m < 10 ^ k) : (toString (m : Int) : PySem.Str).length ≤ k := by
  rw [TL.len_tl, tl_int]
  exact TL.numL_len hk h
theorem lt60 {k : Nat} (h : (k : Int) < 10 ^ 60) : k < 10 ^ 60 := by
  have e : ((10 : Int) ^ 60) = ((10 ^ 60 : Nat) : Int) := by simp
  rw [e] at h
  exact Int.ofNat_lt.mp h
theorem RdOk.txr {r : Row} (h : RdOk r) : TxR r := by
  have plus : ("+" : PySem.Str).length = 1 := by decide +kernel
  have gap : (" " : PySem.Str).length = 1 := by decide +kernel
  refine ⟨fun n e => ?_, ?_⟩
  · obtain ⟨h0, h60⟩ := h.2 n e
    exact sm_of h0 (Int.lt_trans h60 (by decide))
  · obtain ⟨s, hd⟩ := r
    have l1 : s.shown.length ≤ 64 := by
      cases s with
      | half l n =>
        obtain ⟨h0, h60, hn, hm⟩ := h.1
        obtain ⟨k, rfl⟩ : ∃ k : Nat, l = k := ⟨l.toNat, by omega⟩
        have a := int_len (m := k) (k := 60) (by decide) (lt60 h60)
        have b := int_len (m := n) (k := 3) (by decide) (by omega)
        show ((toString (k : Int) ++ ("+" : PySem.Str)) ++ toString (n : Int)).length ≤ _
        rw [PySem.Str.length_append, PySem.Str.length_append, plus]
        omega
      | opn l =>
        obtain ⟨io, h60⟩ := h.1
        have h0 := IsOp.nn io
        obtain ⟨k, rfl⟩ : ∃ k : Nat, l = k := ⟨l.toNat, by omega⟩
        have a := int_len (m := k) (k := 60) (by decide) (lt60 h60)
        show ((toString (k : Int) ++ ("+" : PySem.Str))).length ≤ _
        rw [PySem.Str.length_append, plus]
        omega
    have l2 : hd.text.length ≤ 60 := by
      cases hd with
      | hush => exact (show ("hush" : PySem.Str).length ≤ 60 by decide +kernel)
      | din => exact (show ("din" : PySem.Str).length ≤ 60 by decide +kernel)
      | word m =>
        obtain ⟨h0, h60⟩ := h.2 m rfl
        obtain ⟨k, rfl⟩ : ∃ k : Nat, m = k := ⟨m.toNat, by omega⟩
        exact int_len (m := k) (k := 60) (by decide) (lt60 h60)
    show ((s.shown ++ (" " : PySem.Str)) ++ hd.text).length ≤ 160
    rw [PySem.Str.length_append, PySem.Str.length_append, gap]
    omega
theorem join_le {S : List Nat} {n : Nat} : ∀ {ps : List (List Nat)}, (∀ p ∈ ps, p.length ≤ n) → (TL.joinL S ps).length ≤ ps.length * (n + S.length)
  | [], _ => Nat.zero_le _
  | [p], h => by
    have := h p (List.mem_cons_self ..)
    show p.length ≤ _
    rw [List.length_singleton]
    omega
  | p :: q :: r, h => by
    have a := h p (List.mem_cons_self ..)
    have b := join_le (S := S) (n := n) (ps := q :: r) fun y m => h y (List.mem_cons_of_mem _ m)
    show (p ++ (S ++ TL.joinL S (q :: r))).length ≤ _
    rw [List.length_append, List.length_append, List.length_cons (a := p), Nat.add_mul]
    omega
theorem book_len {b : List Row} (hb : b.length ≤ 100000) (h : ∀ r ∈ b, TxR r) : (bookT b).length + 2 ≤ lineN := by
  unfold bookT
  by_cases e : b = []
  · rw [if_pos e]
    decide +kernel
  · rw [if_neg e, TL.len_tl, TL.join_eq, TL.tl_join, semi_tl]
    have := join_le (S := [59, 32]) (n := 160) (ps := (b.map rowT).map TL.tl) fun p m => by
      obtain ⟨z, mz, ez⟩ := List.mem_map.mp m
      obtain ⟨r, mr, er⟩ := List.mem_map.mp mz
      rw [← ez, ← TL.len_tl, ← er]
      exact (h r mr).len
    simp only [List.length_map, List.length_cons, List.length_nil] at this
    show _ ≤ 16777216
    omega
end Lc
namespace K66
open PySem L2 Ev
/-! ### the compact trees -/
abbrev d_Span___init__ : Def := Lb.d_Span___init__
abbrev d_Open___init__ : Def := Lb.d_Open___init__
abbrev d_Half___init__ : Def := Lb.d_Half___init__
def d__law_row : Def := .fn 1 7
  (.seq (.asg (.nm 0) (.ex (.bin .mod (.var 0) (.bin .pow (.int 10) (.int 40)))))
  (.seq (.asg (.nm 1) (.ex (.bin .mod (.bin .mul (.bin .add (.var 0) (.int 3)) (.bin .add (.var 0) (.int 11))) (.bin .pow (.int 10) (.int 60)))))
  (.seq (.asg (.nm 2) (.ex (.bin .mod (.var 0) (.int 4))))
  (.seq (.asg (.nm 3) (.ex (.idx (.lst (.cons (.tup (.cons (.str "hush") .nil)) (.cons (.tup (.cons (.str "din") .nil)) (.cons (.tup (.cons (.str "word") (.cons (.bin .mod (.bin .fdiv (.var 0) (.int 4)) (.int 100)) .nil))) (.cons (.tup (.cons (.str "word") (.cons (.var 1) .nil))) .nil))))) (.bin .mod (.bin .fdiv (.var 0) (.int 4)) (.int 4)))))
  (.seq (.ife (.cmp .eq (.var 2) (.int 0))
  (.seq (.asg (.nm 4) (.ex (.bin .mod (.bin .fdiv (.var 0) (.int 16)) (.int 192))))
  (.seq (.ife (.cmp .eq (.var 4) (.int 0))
  (.ret (.ex (.tup (.cons (.new "Open" (.cons (.int 0) .nil)) (.cons (.str "0+") (.cons (.var 3) .nil))))))
  .skip)
  (.ret (.ex (.tup (.cons (.new "Open" (.cons (.bin .shl (.int 1) (.bin .sub (.var 4) (.int 1))) .nil)) (.cons (.bin .add (.blt .str (.cons (.bin .shl (.int 1) (.bin .sub (.var 4) (.int 1))) .nil)) (.str "+")) (.cons (.var 3) .nil))))))))
  .skip)
  (.seq (.asg (.nm 5) (.ex (.idx (.lst (.cons (.bin .mod (.bin .fdiv (.var 0) (.int 16)) (.int 4)) (.cons (.bin .mod (.bin .fdiv (.var 0) (.int 16)) (.int 30)) (.cons (.bin .mod (.bin .fdiv (.var 0) (.int 16)) (.int 201)) .nil)))) (.bin .sub (.var 2) (.int 1)))))
  (.seq (.asg (.nm 6) (.ex (.bin .mul (.bin .fdiv (.var 1) (.bin .shl (.int 1) (.var 5))) (.bin .shl (.int 1) (.var 5)))))
  (.ret (.ex (.tup (.cons (.new "Half" (.cons (.var 6) (.cons (.var 5) .nil))) (.cons (.bin .add (.bin .add (.blt .str (.cons (.var 6) .nil)) (.str "+")) (.blt .str (.cons (.var 5) .nil))) (.cons (.var 3) .nil)))))))))))))
abbrev d_Span_shown : Def := Lb.d_Span_shown
abbrev d_Half_shown : Def := Lb.d_Half_shown
abbrev d_shown_heard : Def := Lc.d_shown_heard
abbrev d_shown_book : Def := Lc.d_shown_book
abbrev d_number_of : Def := Lc.d_number_of
abbrev d_span_of : Def := Lc.d_span_of0
abbrev d_read_span : Def := Lc.d_read_span
abbrev d_read_row : Def := Lc.d_read_row
abbrev d_read_book : Def := Lc.d_read_book
abbrev d_Span_alike : Def := Lc.d_Span_alike
def d__law_same_told : Def := .fn 2 2
  (.seq (.ife (.or (.not (.blt .isinst (.cons (.var 0) (.cons (.cst "tuple") .nil)))) (.or (.cmp .ne (.blt .len (.cons (.var 0) .nil)) (.blt .len (.cons (.var 1) .nil))) (.or (.not (.blt .isinst (.cons (.idx (.var 0) (.int 0)) (.cons (.cst "str") .nil)))) (.cmp .ne (.idx (.var 0) (.int 0)) (.idx (.var 1) (.int 0))))))
  (.ret (.ex (.bl false)))
  .skip)
  (.seq (.ife (.cmp .eq (.blt .len (.cons (.var 1) .nil)) (.int 1))
  (.ret (.ex (.bl true)))
  .skip)
  (.ret (.ex (.and (.blt .isinst (.cons (.idx (.var 0) (.int 1)) (.cons (.cst "int") .nil))) (.and (.not (.blt .isinst (.cons (.idx (.var 0) (.int 1)) (.cons (.cst "bool") .nil)))) (.cmp .eq (.idx (.var 0) (.int 1)) (.idx (.var 1) (.int 1)))))))))
def d__law_same : Def := .fn 2 3
  (.seq (.ife (.or (.not (.blt .isinst (.cons (.var 0) (.cons (.cst "tuple") .nil)))) (.cmp .ne (.blt .len (.cons (.var 0) .nil)) (.int 2)))
  (.ret (.ex (.bl false)))
  .skip)
  (.seq (.asg (.nm 2) (.ex (.idx (.var 0) (.int 0))))
  (.seq (.ife (.or (.cmp .ne (.blt .isinst (.cons (.idx (.var 1) (.int 0)) (.cons (.cst "Half") .nil))) (.blt .isinst (.cons (.var 2) (.cons (.cst "Half") .nil)))) (.cmp .ne (.blt .isinst (.cons (.idx (.var 1) (.int 0)) (.cons (.cst "Open") .nil))) (.blt .isinst (.cons (.var 2) (.cons (.cst "Open") .nil)))))
  (.ret (.ex (.bl false)))
  .skip)
  (.seq (.ife (.or (.not (.meth (.var 2) "alike" (.cons (.idx (.var 1) (.int 0)) .nil))) (.or (.not (.meth (.idx (.var 1) (.int 0)) "alike" (.cons (.var 2) .nil))) (.cmp .ne (.meth (.var 2) "shown" .nil) (.idx (.var 1) (.int 1)))))
  (.ret (.ex (.bl false)))
  .skip)
  (.ret (.ex (.call "_law_same_told" (.cons (.idx (.var 0) (.int 1)) (.cons (.idx (.var 1) (.int 2)) .nil)))))))))
def d_law : Def := .fn 1 12
  (.seq (.asg (.nm 1) (.ex (.comp (.nm 11) .seq (.cons (.slc (.var 0) (.int 1) (.int 41)) .nil) (.bl true) (.call "_law_row" (.cons (.var 11) .nil)))))
  (.seq (.asg (.nm 2) (.ex (.comp (.nm 6) .seq (.cons (.var 1) .nil) (.bl true) (.tup (.cons (.idx (.var 6) (.int 0)) (.cons (.idx (.var 6) (.int 2)) .nil))))))
  (.seq (.asg (.nm 3) (.ex (.blt .list (.cons (.var 2) .nil))))
  (.seq (.asg (.nm 4) (.ex (.call "shown_book" (.cons (.var 3) .nil))))
  (.seq (.asg (.nm 5) (.ex (.lst .nil)))
  (.seq (.for_ (.nm 6) .seq (some [1]) (.cons (.var 1) .nil)
  (.seq (.asg (.nm 7) (.ex (.idx (.idx (.var 6) (.int 2)) (.int 0))))
  (.seq (.ife (.cmp .eq (.var 7) (.str "word"))
  (.asg (.nm 7) (.ex (.blt .str (.cons (.idx (.idx (.var 6) (.int 2)) (.int 1)) .nil))))
  .skip)
  (.app 5 (.ex (.bin .add (.bin .add (.idx (.var 6) (.int 1)) (.str " ")) (.var 7)))))))
  (.seq (.asg (.nm 8) (.ex (.blt .join (.cons (.str "; ") (.cons (.var 5) .nil)))))
  (.seq (.ife (.cmp .eq (.var 1) (.lst .nil))
  (.asg (.nm 8) (.ex (.str "silence")))
  .skip)
  (.seq (.ife (.or (.not (.blt .isinst (.cons (.var 4) (.cons (.cst "str") .nil)))) (.or (.cmp .ne (.var 4) (.var 8)) (.cmp .ne (.blt .len (.cons (.var 3) .nil)) (.blt .len (.cons (.var 2) .nil)))))
  (.ret (.ex (.bl false)))
  .skip)
  (.seq (.asg (.nm 9) (.ex (.call "read_book" (.cons (.var 4) .nil))))
  (.seq (.ife (.or (.not (.blt .isinst (.cons (.var 9) (.cons (.cst "list") .nil)))) (.cmp .ne (.blt .len (.cons (.var 9) .nil)) (.blt .len (.cons (.var 1) .nil))))
  (.ret (.ex (.bl false)))
  .skip)
  (.seq (.for_ (.tp [10, 6]) .zip (some [1, 9]) (.cons (.var 9) (.cons (.var 1) .nil))
  (.ife (.not (.call "_law_same" (.cons (.var 10) (.cons (.var 6) .nil))))
  (.ret (.ex (.bl false)))
  .skip))
  (.ret (.ex (.bl true)))))))))))))))
def clsL : List (String × ClsI) := [("Half", ⟨["low", "bits"], [("shown", "Half.shown"), ("alike", "Span.alike")], "Half.__init__"⟩),
  ("Open", ⟨["low"], [("shown", "Span.shown"), ("alike", "Span.alike")], "Open.__init__"⟩),
  ("Span", ⟨[], [], ""⟩)]
def cstL : List (String × D) := [("Half", .cls "Half"), ("Open", .cls "Open"), ("bool", .ty "bool"), ("int", .ty "int"), ("list", .ty "list"), ("str", .ty "str"), ("tuple", .ty "tuple")]
def isL : List (String × List (String × Bool)) := [("NoneType", [("Half", false), ("NoSpan", false), ("Open", false), ("bool", false), ("int", false), ("list", false), ("str", false), ("tuple", false)]),
  ("bool", [("Half", false), ("NoSpan", false), ("Open", false), ("bool", true), ("int", true), ("list", false), ("str", false), ("tuple", false)]),
  ("int", [("Half", false), ("NoSpan", false), ("Open", false), ("bool", false), ("int", true), ("list", false), ("str", false), ("tuple", false)]),
  ("str", [("Half", false), ("NoSpan", false), ("Open", false), ("bool", false), ("int", false), ("list", false), ("str", true), ("tuple", false)]),
  ("tuple", [("Half", false), ("NoSpan", false), ("Open", false), ("bool", false), ("int", false), ("list", false), ("str", false), ("tuple", true)]),
  ("list", [("Half", false), ("NoSpan", false), ("Open", false), ("bool", false), ("int", false), ("list", true), ("str", false), ("tuple", false)]),
  ("Half", [("Half", true), ("NoSpan", false), ("Open", false), ("bool", false), ("int", false), ("list", false), ("str", false), ("tuple", false)]),
  ("Open", [("Half", false), ("NoSpan", false), ("Open", true), ("bool", false), ("int", false), ("list", false), ("str", false), ("tuple", false)]),
  ("NoSpan", [("Half", false), ("NoSpan", true), ("Open", false), ("bool", false), ("int", false), ("list", false), ("str", false), ("tuple", false)]),
  ("NoText", [("Half", false), ("NoSpan", false), ("Open", false), ("bool", false), ("int", false), ("list", false), ("str", false), ("tuple", false)])]
def G0 : Gam := ⟨fun _ _ => .st, fun c => clsL.lookup c, fun x => cstL.lookup x, fun t n => (isL.lookup t).bind fun r => r.lookup n⟩
def kn : String → Bool := fun c => (["NoSpan", "NoText"] : List String).contains c
abbrev l_0 : List (String × Def) := []
abbrev l_1 : List (String × Def) := ("Span.__init__", d_Span___init__) :: l_0
abbrev l_2 : List (String × Def) := ("Open.__init__", d_Open___init__) :: l_1
abbrev l_3 : List (String × Def) := ("Half.__init__", d_Half___init__) :: l_2
abbrev l_4 : List (String × Def) := ("_law_row", d__law_row) :: l_3
abbrev l_5 : List (String × Def) := ("Span.shown", d_Span_shown) :: l_4
abbrev l_6 : List (String × Def) := ("Half.shown", d_Half_shown) :: l_5
abbrev l_7 : List (String × Def) := ("shown_heard", d_shown_heard) :: l_6
abbrev l_8 : List (String × Def) := ("shown_book", d_shown_book) :: l_7
abbrev l_9 : List (String × Def) := ("number_of", d_number_of) :: l_8
abbrev l_10 : List (String × Def) := ("span_of", d_span_of) :: l_9
abbrev l_11 : List (String × Def) := ("read_span", d_read_span) :: l_10
abbrev l_12 : List (String × Def) := ("read_row", d_read_row) :: l_11
abbrev l_13 : List (String × Def) := ("read_book", d_read_book) :: l_12
abbrev l_14 : List (String × Def) := ("Span.alike", d_Span_alike) :: l_13
abbrev l_15 : List (String × Def) := ("_law_same_told", d__law_same_told) :: l_14
abbrev l_16 : List (String × Def) := ("_law_same", d__law_same) :: l_15
abbrev l_17 : List (String × Def) := ("law", d_law) :: l_16
/-! ### what a call is -/
theorem r1_Span___init__ (ds : List D) : xf (withD kn G0 l_1) "Span.__init__" ds = chkE kn (callD (withD kn G0 l_0) d_Span___init__ ds) := xf_of (cf_here)
theorem r2_Span___init__ (ds : List D) : xf (withD kn G0 l_2) "Span.__init__" ds = chkE kn (callD (withD kn G0 l_0) d_Span___init__ ds) := xf_of ((cf_skip (by decide) cf_here))
theorem r3_Open___init__ (ds : List D) : xf (withD kn G0 l_3) "Open.__init__" ds = chkE kn (callD (withD kn G0 l_1) d_Open___init__ ds) := xf_of ((cf_skip (by decide) cf_here))
theorem r3_Half___init__ (ds : List D) : xf (withD kn G0 l_3) "Half.__init__" ds = chkE kn (callD (withD kn G0 l_2) d_Half___init__ ds) := xf_of (cf_here)
theorem r7_Span_shown (ds : List D) : xf (withD kn G0 l_7) "Span.shown" ds = chkE kn (callD (withD kn G0 l_4) d_Span_shown ds) := xf_of ((cf_skip (by decide) (cf_skip (by decide) cf_here)))
theorem r7_Half_shown (ds : List D) : xf (withD kn G0 l_7) "Half.shown" ds = chkE kn (callD (withD kn G0 l_5) d_Half_shown ds) := xf_of ((cf_skip (by decide) cf_here))
theorem r7_shown_heard (ds : List D) : xf (withD kn G0 l_7) "shown_heard" ds = chkE kn (callD (withD kn G0 l_6) d_shown_heard ds) := xf_of (cf_here)
theorem r9_Open___init__ (ds : List D) : xf (withD kn G0 l_9) "Open.__init__" ds = chkE kn (callD (withD kn G0 l_1) d_Open___init__ ds) := xf_of ((cf_skip (by decide) (cf_skip (by decide) (cf_skip (by decide) (cf_skip (by decide) (cf_skip (by decide) (cf_skip (by decide) (cf_skip (by decide) cf_here))))))))
theorem r9_Half___init__ (ds : List D) : xf (withD kn G0 l_9) "Half.__init__" ds = chkE kn (callD (withD kn G0 l_2) d_Half___init__ ds) := xf_of ((cf_skip (by decide) (cf_skip (by decide) (cf_skip (by decide) (cf_skip (by decide) (cf_skip (by decide) (cf_skip (by decide) cf_here)))))))
theorem r10_number_of (ds : List D) : xf (withD kn G0 l_10) "number_of" ds = chkE kn (callD (withD kn G0 l_8) d_number_of ds) := xf_of ((cf_skip (by decide) cf_here))
theorem r10_span_of (ds : List D) : xf (withD kn G0 l_10) "span_of" ds = chkE kn (callD (withD kn G0 l_9) d_span_of ds) := xf_of (cf_here)
theorem r11_read_span (ds : List D) : xf (withD kn G0 l_11) "read_span" ds = chkE kn (callD (withD kn G0 l_10) d_read_span ds) := xf_of (cf_here)
theorem r11_number_of (ds : List D) : xf (withD kn G0 l_11) "number_of" ds = chkE kn (callD (withD kn G0 l_8) d_number_of ds) := xf_of ((cf_skip (by decide) (cf_skip (by decide) cf_here)))
theorem r12_read_row (ds : List D) : xf (withD kn G0 l_12) "read_row" ds = chkE kn (callD (withD kn G0 l_11) d_read_row ds) := xf_of (cf_here)
theorem r13_Span_shown (ds : List D) : xf (withD kn G0 l_13) "Span.shown" ds = chkE kn (callD (withD kn G0 l_4) d_Span_shown ds) := xf_of ((cf_skip (by decide) (cf_skip (by decide) (cf_skip (by decide) (cf_skip (by decide) (cf_skip (by decide) (cf_skip (by decide) (cf_skip (by decide) (cf_skip (by decide) cf_here)))))))))
theorem r13_Half_shown (ds : List D) : xf (withD kn G0 l_13) "Half.shown" ds = chkE kn (callD (withD kn G0 l_5) d_Half_shown ds) := xf_of ((cf_skip (by decide) (cf_skip (by decide) (cf_skip (by decide) (cf_skip (by decide) (cf_skip (by decide) (cf_skip (by decide) (cf_skip (by decide) cf_here))))))))
theorem r15_Span_alike (ds : List D) : xf (withD kn G0 l_15) "Span.alike" ds = chkE kn (callD (withD kn G0 l_13) d_Span_alike ds) := xf_of ((cf_skip (by decide) cf_here))
theorem r15_Span_shown (ds : List D) : xf (withD kn G0 l_15) "Span.shown" ds = chkE kn (callD (withD kn G0 l_4) d_Span_shown ds) := xf_of ((cf_skip (by decide) (cf_skip (by decide) (cf_skip (by decide) (cf_skip (by decide) (cf_skip (by decide) (cf_skip (by decide) (cf_skip (by decide) (cf_skip (by decide) (cf_skip (by decide) (cf_skip (by decide) cf_here)))))))))))
theorem r15_Half_shown (ds : List D) : xf (withD kn G0 l_15) "Half.shown" ds = chkE kn (callD (withD kn G0 l_5) d_Half_shown ds) := xf_of ((cf_skip (by decide) (cf_skip (by decide) (cf_skip (by decide) (cf_skip (by decide) (cf_skip (by decide) (cf_skip (by decide) (cf_skip (by decide) (cf_skip (by decide) (cf_skip (by decide) cf_here))))))))))
theorem r15__law_same_told (ds : List D) : xf (withD kn G0 l_15) "_law_same_told" ds = chkE kn (callD (withD kn G0 l_14) d__law_same_told ds) := xf_of (cf_here)
theorem r16__law_row (ds : List D) : xf (withD kn G0 l_16) "_law_row" ds = chkE kn (callD (withD kn G0 l_3) d__law_row ds) := xf_of ((cf_skip (by decide) (cf_skip (by decide) (cf_skip (by decide) (cf_skip (by decide) (cf_skip (by decide) (cf_skip (by decide) (cf_skip (by decide) (cf_skip (by decide) (cf_skip (by decide) (cf_skip (by decide) (cf_skip (by decide) (cf_skip (by decide) cf_here)))))))))))))
theorem r16_shown_book (ds : List D) : xf (withD kn G0 l_16) "shown_book" ds = chkE kn (callD (withD kn G0 l_7) d_shown_book ds) := xf_of ((cf_skip (by decide) (cf_skip (by decide) (cf_skip (by decide) (cf_skip (by decide) (cf_skip (by decide) (cf_skip (by decide) (cf_skip (by decide) (cf_skip (by decide) cf_here)))))))))
theorem r16_read_book (ds : List D) : xf (withD kn G0 l_16) "read_book" ds = chkE kn (callD (withD kn G0 l_12) d_read_book ds) := xf_of ((cf_skip (by decide) (cf_skip (by decide) (cf_skip (by decide) cf_here))))
theorem r16__law_same (ds : List D) : xf (withD kn G0 l_16) "_law_same" ds = chkE kn (callD (withD kn G0 l_15) d__law_same ds) := xf_of (cf_here)
theorem r_value (ds : List D) : cfOf kn G0 l_17 "law" ds = chkE kn (callD (withD kn G0 l_16) d_law ds) := cf_here
/-! ### what is known of them -/
abbrev V : Lc.Span → Prop := Lc.Span.Ok
theorem hOpen3 : Lb.HasOpen (withD kn G0 l_3) := Lc.open_has r3_Open___init__ r1_Span___init__ rfl rfl rfl rfl
theorem hHalf3 : Lb.HasHalf (withD kn G0 l_3) := Lc.half_has r3_Half___init__ r2_Span___init__ rfl rfl rfl rfl rfl
theorem h_shown7 : Lc.HasShown V (withD kn G0 l_7) := Lc.shown_both (fun _ h => h) (fun _ _ => rfl) (fun _ => rfl) r7_Half_shown r7_Span_shown
theorem h_shown_heard7 : Lc.HasShownHeard (withD kn G0 l_7) := Lc.shown_heard_has r7_shown_heard
theorem hOpen9 : Lb.HasOpen (withD kn G0 l_9) := Lc.open_has r9_Open___init__ r1_Span___init__ rfl rfl rfl rfl
theorem hHalf9 : Lb.HasHalf (withD kn G0 l_9) := Lc.half_has r9_Half___init__ r2_Span___init__ rfl rfl rfl rfl rfl
theorem h_number_of10 : Lc.HasNumOf (withD kn G0 l_10) := Lc.number_of_has r10_number_of rfl
theorem h_span_of10 : Lc.HasSpanOf V (withD kn G0 l_10) := Lc.span_of0_has r10_span_of (fun _ h => h) hHalf9 hOpen9
theorem h_read_span11 : Lc.HasReadS V (withD kn G0 l_11) := Lc.read_span_has r11_read_span h_number_of10 h_span_of10
theorem h_number_of11 : Lc.HasNumOf (withD kn G0 l_11) := Lc.number_of_has r11_number_of rfl
theorem h_read_row12 : Lc.HasReadR V (withD kn G0 l_12) := Lc.read_row_has r12_read_row h_number_of11 h_read_span11
theorem h_shown13 : Lc.HasShown V (withD kn G0 l_13) := Lc.shown_both (fun _ h => h) (fun _ _ => rfl) (fun _ => rfl) r13_Half_shown r13_Span_shown
theorem h_alike15 : Lc.HasAlike V (withD kn G0 l_15) := Lc.alike_both (fun _ _ => rfl) (fun _ => rfl) r15_Span_alike h_shown13
theorem h_shown15 : Lc.HasShown V (withD kn G0 l_15) := Lc.shown_both (fun _ h => h) (fun _ _ => rfl) (fun _ => rfl) r15_Half_shown r15_Span_shown
theorem h_shown_book16 : Lc.HasShownBook V (withD kn G0 l_16) := Lc.shown_book_has r16_shown_book h_shown7 h_shown_heard7
theorem h_read_book16 : Lc.HasReadB V (withD kn G0 l_16) := Lc.read_book_has r16_read_book h_read_row12
end K66
namespace K66
open Ev Lb Lc PySem L2
local macro_rules | `(tactic| infer_instance) => `(tactic| first | (show _ = _; assumption) | exact row_0 _ | exact row_1 _ | exact hd_tag _ | exact hd_num _ | exact hd_eqDin _ | exact hd_eqHush _ | exact hd_eqWord _ _ | exact hd_neDin _ | exact hd_neHush _ | exact hd_neWord _ _ | exact hd_eq _ _ | exact hd_ne _ _ | apply row_bn | exact it_pair | exact fld_low _ | (show Wp _ _ _ _; first | apply w_seq | apply w_asg | apply w_asgT | apply w_skip | (apply w_appM; (focus (repeat (first | exact get0 | apply getS)))) | apply w_app | apply w_exp | apply w_ret | apply w_retN | apply w_rse | apply w_brk | apply w_cnt | apply w_aug | apply w_augS | apply w_tri | apply w_clr | apply w_clrT | apply w_setd | apply w_rem | apply w_rvsM | apply w_rvs | apply w_popA | apply w_ext) | apply q_nx | apply q_rt | apply q_er | apply q_bk | apply q_ct | (apply kq_nx; (focus rfl)) | (apply kq_er; (focus rfl)) | apply kq_rt | apply l_nx | apply l_ct | apply l_bk | apply l_rt | apply l_er | apply r_rt | apply r_nx | apply r_er | apply t_nx | apply t_rt | apply t_er | apply n_nx | apply n_rt | apply n_bk | apply n_ct | apply a_nx | apply a_rt | apply k_nx | apply k_rt | apply k_er | apply nx_nx | apply h_as rfl | apply h_one rfl | apply h_no rfl | (show xM _ _ _ = _; first | apply k_ex | apply k_mv | apply k_exf | apply k_tp | apply k_ls) | (show xv _ _ _ = _; first | apply v_var | exact ok_int | exact ok_bl | exact ok_str | exact ok_non | (apply ok_cst; rfl) | apply ok_bin | apply ok_cmp | apply ok_not | apply v_call | apply v_blt | apply v_idx | apply ok_fld | apply v_methR | apply v_newR | apply v_compA | apply v_comp | apply ok_tup | apply ok_lst | apply ok_chain | apply ok_neg | apply ok_and | apply ok_or | apply v_slc0 | apply v_slcL (nl := rfl) | apply v_slcH (nh := rfl) | apply v_slc (nl := rfl) (nh := rfl)) | (show xvs _ _ _ = _; first | exact oks_nil | apply oks_cons) | (show xb _ _ _ = _; first | exact o_add | exact o_sub | exact o_and | exact o_xor | apply p_mul | apply o_mod (by first | decide | assumption | exact pos_lpow (by decide) | exact Int.pow_pos (by decide) | omega) | apply p_fdiv (by first | decide | assumption | exact pos_lpow (by decide) | exact Int.pow_pos (by decide) | omega) | exact p_pow (by decide) (by decide) | apply o_shl1 | apply p_shlN | apply p_shlL | exact o_shr | exact p_shrL | apply c_map | apply c_lst | apply p_cat) | (show xp _ _ _ = _; first | exact o_eq | exact o_ne | exact o_lt | exact o_le | exact o_gt | exact o_ge | exact o_eqb | exact o_neb | exact o_isn | exact o_nisn | exact o_isb | exact o_nisb | exact o_eqs | exact o_nes | exact eq_nilO | exact ne_nilO | exact eq_nilP | exact ne_nilP | exact eq_nilI | exact ne_nilI | exact o_eqI | exact o_neI | exact in_ints | exact nin_ints) | (show xL _ _ _ = _; first | exact b_max | exact b_min | exact b_lenM | exact b_lenS | exact b_sorted | exact b_sortp | exact b_dict | exact b_dnew | apply b_dget | apply b_sortd | apply b_list | apply b_listT | apply b_listrevM | exact b_sum | exact b_all | exact b_intT | exact b_intF | exact b_intB | exact b_intI | exact b_abs | apply b_str | (rw [xL_eq]; assumption) | (rw [xL_eq]; rfl)) | (show xI _ _ = _; first | exact it_scr | apply it_seq | apply it_rng | exact it_rng2 (by omega) (by omega) | apply it_enum | apply it_zip | apply it_seqT | (rw [xI_eq]; assumption)) | (show xX _ _ = _; first | (apply i_mapL; rfl) | (apply i_lstL; rfl) | (apply i_tupL; rfl) | (apply i_scrL; rfl) | (rw [xX_eq]; assumption) | apply i_map | apply i_scr) | (show xS _ _ _ = _; first | exact s_scr | apply s_map) | (show Shds _ _; exact inferInstance) | (show ShEnv _ _; exact inferInstance) | (show NF _; exact inferInstance) | (show NFs _; exact inferInstance) | (show Shd _ _; exact inferInstance) | (show ShO _ _; exact inferInstance) | exact get0 | apply getS | exact set0 | apply setS | apply bn_nm | apply bn_tup | apply bn_lst | exact bs_nil | apply bs_cons | exact fz_nil | apply fz_cons | exact mk_nil | apply mk_in (by decide) | apply mk_out (by decide) | exact e0_nil | apply e0_none | apply e0_cons | (show Sm _ _; first | assumption | exact sm_int (by decide) | exact sm_int2 (by decide) | exact sm_nat (by omega) | exact sm_lpow (k := 220) (by decide) | exact sm_p2 (k := 1001) (by omega) | apply sm_mod (by first | decide | assumption | exact pos_lpow (by decide) | exact Int.pow_pos (by decide) | omega) | apply sm_add | apply sm_sub | apply sm_mul | apply sm_fdiv (by first | decide | assumption | exact pos_lpow (by decide) | exact Int.pow_pos (by decide) | omega) | apply sm_max | apply sm_min | apply sm_neg) | (show SLen _ _; first | assumption | apply sl_int | apply sl_app | exact sl_le (n := 64) (by decide)) | (show xMs _ _ _ = _; first | exact ks_nil | apply ks_cons) | (show NewR _ _ _ _; assumption) | (show MethR _ _ _ _ _; assumption) | rfl | apply bw | apply cb | apply cA | (show ∀ _ ∈ _, Cb _ _ _ _ _ _ _ _; intro _ _) | (show ∀ _ ∈ _, Ca _ _ _ _ _ _; intro _ _) | (show _ = true → xv _ _ _ = _; intro _) | (show _ ≤ (16777216 : Nat); omega) | (show _ < (16777216 : Nat); omega) | (show _ ≤ _; first | assumption | exact Nat.le_of_ble_eq_true rfl | decide | omega) | (show _ < _; first | assumption | decide | omega) | (show _ = true; first | assumption | decide) | (show _ = false; first | assumption | decide))
def row3 (r : Row) : D := .tup [r.1.enc, .str r.1.shown, r.2.enc]
instance (r : Row) : Shd (row3 r) (row3 r) := ⟨(shd_tup (ds := [r.1.enc, .str r.1.shown, r.2.enc]) (ds' := [r.1.enc, .str r.1.shown, r.2.enc])).eq⟩
instance (r : Row) : NF (row3 r) := ⟨(nf_tup [r.1.enc, .str r.1.shown, r.2.enc]).eq⟩
instance : NoPy row3 := ⟨fun r => by obtain ⟨s, h⟩ := r; cases s <;> rfl⟩
theorem r3_0 (r : Row) : xX (row3 r) (.int 0) = .ok r.1.enc := by rw [xX_eq]; show Res.ok (share r.1.enc) = _; rw [Shd.eq (d := r.1.enc) (d' := r.1.enc)]
theorem r3_1 (r : Row) : xX (row3 r) (.int 1) = .ok (.str r.1.shown) := by rw [xX_eq]; rfl
theorem r3_2 (r : Row) : xX (row3 r) (.int 2) = .ok r.2.enc := by rw [xX_eq]; show Res.ok (share r.2.enc) = _; rw [Shd.eq (d := r.2.enc) (d' := r.2.enc)]
theorem told4 {a b : Int} {k : Int} (h0 : 0 ≤ k) (h1 : k < 4) : ∃ h : Hd, (∀ m, h = .word m → m = a ∨ m = b) ∧ ∀ o, xX (.lst o [.tup [.str "hush"], .tup [.str "din"], .tup [.str "word", .int a], .tup [.str "word", .int b]]) (.int k) = .ok h.enc := by
  have : k = 0 ∨ k = 1 ∨ k = 2 ∨ k = 3 := by omega
  rcases this with h | h | h | h <;> subst h
  · exact ⟨.hush, fun m e => (by cases e), fun o => by rw [xX_eq]; rfl⟩
  · exact ⟨.din, fun m e => (by cases e), fun o => by rw [xX_eq]; rfl⟩
  · exact ⟨.word a, fun m e => (by injection e with e; exact .inl e.symm), fun o => by rw [xX_eq]; rfl⟩
  · exact ⟨.word b, fun m e => (by injection e with e; exact .inr e.symm), fun o => by rw [xX_eq]; rfl⟩
theorem row_ok (cell : Int) : ∃ r : Row, RdOk r ∧ r.1.Ok ∧ xf (withD kn G0 l_16) "_law_row" [.int cell] = .ok (row3 r) := by
  obtain ⟨A, eA, qA, sA, vA⟩ := lit_powX 10 40 150 (by decide) (by decide) (by decide) (by decide)
  obtain ⟨B, eB, qB, sB, vB⟩ := lit_powX 10 60 220 (by decide) (by decide) (by decide) (by decide)
  obtain ⟨w, w0, w1, hw, ew⟩ := mod_int (cell % A) 4 (by decide)
  obtain ⟨t, t0, t1, ht, et⟩ := mod_int (cell % A / 4) 4 (by decide)
  have n0 : 0 ≤ (cell % A + 3) * (cell % A + 11) % B := Int.emod_nonneg _ (by omega)
  have n1 : (cell % A + 3) * (cell % A + 11) % B < B := Int.emod_lt_of_pos _ qB
  obtain ⟨h, hh, eh⟩ := told4 (a := cell % A / 4 % 100) (b := (cell % A + 3) * (cell % A + 11) % B) t0 t1
  have hB : B = 10 ^ 60 := vB
  have h100 : (100 : Int) < 10 ^ 60 := by decide
  have hk : ∀ m, h = .word m → 0 ≤ m ∧ m < 10 ^ 60 := fun m e => by
    rcases hh m e with e | e
    · have a := Int.emod_nonneg (cell % A / 4) (show (100 : Int) ≠ 0 by decide)
      have b := Int.emod_lt_of_pos (cell % A / 4) (show (0 : Int) < 100 by decide)
      omega
    · omega
  generalize e_ : xf _ _ _ = o_; revert o_; refine to_ans ?_; apply call_x (r16__law_row) rfl; (focus repeat' (first | infer_instance | fail))
  repeat' (first | exact eh _ | infer_instance | fail)
  generalize (cell % A + 3) * (cell % A + 11) % B = number at *
  generalize cell % A = c at *
  have sn : Sm 220 number := sm_of n0 (by rw [hB] at n1; exact Int.lt_trans n1 (by decide))
  obtain ⟨p, p0, p1, hp, ep⟩ := mod_int (c / 16) 192 (by decide)
  obtain ⟨p, rfl⟩ : ∃ q : Nat, p = q := ⟨p.toNat, by omega⟩
  (first | apply w_seq | skip); apply w_if inferInstance; (focus repeat' (first | infer_instance | fail))
  · intro _
    repeat' (first | infer_instance | fail)
    by_cases z : p = 0
    · subst z
      have o0 := newOpen hOpen3 (.inl rfl : IsOp 0)
      have e0 : ("0+" : PySem.Str) = (Span.opn 0).shown := by decide +kernel
      (first | apply w_seq | skip); apply w_ifT inferInstance; (focus repeat' (first | infer_instance | fail))
      · rfl
      repeat' (first | exact o0 | infer_instance | fail)
      refine ⟨(.opn 0, h), ⟨⟨.inl rfl, by decide⟩, hk⟩, .inl rfl, ?_⟩
      rw [e0]
      rfl
    · have io : IsOp (2 ^ (p - 1)) := .inr ⟨p - 1, by omega, rfl⟩
      have o1 := newOpen hOpen3 io
      have sh : xb .shl (.int 1) (.int ((p : Int) - 1)) = .ok (.int (2 ^ (p - 1))) := by
        rw [show (p : Int) - 1 = ((p - 1 : Nat) : Int) by omega]
        exact o_shl1 (by omega)
      have lt : (2 : Int) ^ (p - 1) < 10 ^ 60 := Int.lt_of_lt_of_le (pow_lt (a := p - 1) (b := 199) (by omega)) (by decide)
      have sm : Sm 220 ((2 : Int) ^ (p - 1)) := sm_p2 (by omega)
      (first | apply w_seq | skip); apply w_ifF inferInstance; (focus repeat' (first | infer_instance | fail))
      · simp; omega
      repeat' (first | exact o1 | infer_instance | fail)
      exact ⟨(.opn (2 ^ (p - 1)), h), ⟨⟨io, lt⟩, hk⟩, io, rfl⟩
  · intro nw
    have nw : w ≠ 0 := by simpa using nw
    obtain ⟨b, hb, eb⟩ : ∃ b : Nat, b ≤ 200 ∧ xX (.lst true [.int (c / 16 % 4), .int (c / 16 % 30), .int (c / 16 % 201)]) (.int (w - 1)) = .ok (.int (b : Nat)) := by
      have a1 := Int.emod_nonneg (c / 16) (show (4 : Int) ≠ 0 by decide)
      have a2 := Int.emod_lt_of_pos (c / 16) (show (0 : Int) < 4 by decide)
      have a3 := Int.emod_nonneg (c / 16) (show (30 : Int) ≠ 0 by decide)
      have a4 := Int.emod_lt_of_pos (c / 16) (show (0 : Int) < 30 by decide)
      have a5 := Int.emod_nonneg (c / 16) (show (201 : Int) ≠ 0 by decide)
      have a6 := Int.emod_lt_of_pos (c / 16) (show (0 : Int) < 201 by decide)
      have : w = 1 ∨ w = 2 ∨ w = 3 := by omega
      rcases this with q | q | q <;> rw [q, xX_eq]
      · exact ⟨(c / 16 % 4).toNat, by omega, by rw [Int.toNat_of_nonneg a1]; rfl⟩
      · exact ⟨(c / 16 % 30).toNat, by omega, by rw [Int.toNat_of_nonneg a3]; rfl⟩
      · exact ⟨(c / 16 % 201).toNat, by omega, by rw [Int.toNat_of_nonneg a5]; rfl⟩
    have p2 : (0 : Int) < 2 ^ b := Int.pow_pos (by decide)
    have sh : xb .shl (.int 1) (.int (b : Int)) = .ok (.int (2 ^ b)) := o_shl1 (by omega)
    have s2 : Sm 220 ((2 : Int) ^ b) := sm_p2 (by omega)
    have le : number / 2 ^ b * 2 ^ b ≤ number := Int.ediv_mul_le _ (by omega)
    have ge : 0 ≤ number / 2 ^ b * 2 ^ b := Int.mul_nonneg (Int.ediv_nonneg n0 (by omega)) (by omega)
    have md : number / 2 ^ b * 2 ^ b % 2 ^ b = 0 := Int.mul_emod_left _ _
    have ml : xb .mul (.int (number / 2 ^ b)) (.int (2 ^ b)) = .ok (.int (number / 2 ^ b * 2 ^ b)) := p_mul (sm_fdiv p2 sn) s2 (by decide)
    have dv : xb .fdiv (.int number) (.int (2 ^ b)) = .ok (.int (number / 2 ^ b)) := p_fdiv p2 s2 (by decide)
    generalize number / 2 ^ b * 2 ^ b = low at *
    have sl : Sm 220 low := sm_of ge (by rw [hB] at n1; exact Int.lt_of_le_of_lt le (Int.lt_trans n1 (by decide)))
    have nh := newHalf (l := low) (n := b) hHalf3 (by omega) ge md
    repeat' (first | exact nh | infer_instance | fail)
    exact ⟨(.half low b, h), ⟨⟨ge, by omega, hb, md⟩, hk⟩, ⟨ge, md, by omega, sl.up (by decide)⟩, rfl⟩
theorem same_told (h : Hd) : xf (withD kn G0 l_15) "_law_same_told" [h.enc, h.enc] = .ok (.bl true) := by
  have ht := hd_tag h
  cases h with
  | hush =>
    generalize e_ : xf _ _ _ = o_; revert o_; refine to_ans ?_; apply call_x (r15__law_same_told) rfl; (focus repeat' (first | infer_instance | fail))
    (first | apply w_seq | skip); apply w_ifF inferInstance; (focus repeat' (first | infer_instance | fail))
    · rfl
    repeat' (first | infer_instance | fail)
    (first | apply w_seq | skip); apply w_ifT inferInstance; (focus repeat' (first | infer_instance | fail))
    · rfl
    repeat' (first | infer_instance | fail)
  | din =>
    generalize e_ : xf _ _ _ = o_; revert o_; refine to_ans ?_; apply call_x (r15__law_same_told) rfl; (focus repeat' (first | infer_instance | fail))
    (first | apply w_seq | skip); apply w_ifF inferInstance; (focus repeat' (first | infer_instance | fail))
    · rfl
    repeat' (first | infer_instance | fail)
    (first | apply w_seq | skip); apply w_ifT inferInstance; (focus repeat' (first | infer_instance | fail))
    · rfl
    repeat' (first | infer_instance | fail)
  | word n =>
    have hn := hd_num n
    generalize e_ : xf _ _ _ = o_; revert o_; refine to_ans ?_; apply call_x (r15__law_same_told) rfl; (focus repeat' (first | infer_instance | fail))
    (first | apply w_seq | skip); apply w_ifF inferInstance; (focus repeat' (first | infer_instance | fail))
    · rfl
    repeat' (first | infer_instance | fail)
    (first | apply w_seq | skip); apply w_ifF inferInstance; (focus repeat' (first | infer_instance | fail))
    · rfl
    repeat' (first | infer_instance | fail)
    simp
theorem same_ok (r : Row) (ok : r.1.Ok) : xf (withD kn G0 l_16) "_law_same" [rowE r, row3 r] = .ok (.bl true) := by
  have e1 := h_alike15 r.1 r.1 ok ok
  have e2 := h_shown15 r.1 ok
  have e3 := same_told r.2
  have a0 := row_0 r
  have a1 := row_1 r
  have b0 := r3_0 r
  have b1 := r3_1 r
  have b2 := r3_2 r
  obtain ⟨p, ep⟩ : ∃ p, xL (withD kn G0 l_15) .isinst [r.1.enc, .cls "Half"] = .ok (.bl p) := by
    cases r.1 with
    | half l n => exact ⟨true, by rw [xL_eq]; rfl⟩
    | opn l => exact ⟨false, by rw [xL_eq]; rfl⟩
  obtain ⟨q, eq⟩ : ∃ p, xL (withD kn G0 l_15) .isinst [r.1.enc, .cls "Open"] = .ok (.bl p) := by
    cases r.1 with
    | half l n => exact ⟨false, by rw [xL_eq]; rfl⟩
    | opn l => exact ⟨true, by rw [xL_eq]; rfl⟩
  generalize e_ : xf _ _ _ = o_; revert o_; refine to_ans ?_; apply call_x (r16__law_same) rfl; (focus repeat' (first | infer_instance | fail))
  (first | apply w_seq | skip); apply w_ifF inferInstance; (focus repeat' (first | infer_instance | fail))
  · rfl
  repeat' (first | infer_instance | fail)
  (first | apply w_seq | skip); apply w_ifF inferInstance; (focus repeat' (first | infer_instance | fail))
  · simp
  repeat' (first | infer_instance | fail)
  (first | apply w_seq | skip); apply w_ifF inferInstance; (focus repeat' (first | infer_instance | fail))
  · simp
  repeat' (first | infer_instance | fail)
theorem zip_self {α : Type} : ∀ xs : List α, xs.zip xs = xs.map fun x => (x, x)
  | [] => rfl
  | x :: r => by rw [List.zip_cons_cons, zip_self r]; rfl
theorem law_ok (ns : List Int) (h : ns.length ≤ 63) : callD (withD kn G0 l_16) d_law [.scr ns] = .ok (.bl true) := by
  obtain ⟨f, hf⟩ := Classical.axiomOfChoice row_ok
  have hcl : (cutD ns (some 1) (some 41)).length ≤ 63 := Nat.le_trans (cut_len _ _ _) h
  generalize hrs : (cutD ns (some 1) (some 41)).map f = rs
  have lrs : rs.length ≤ 63 := by rw [← hrs, List.length_map]; exact hcl
  have hr : ∀ r ∈ rs, RdOk r ∧ r.1.Ok := fun r m => by
    rw [← hrs] at m
    obtain ⟨c, _, e⟩ := List.mem_map.mp m
    rw [← e]
    exact ⟨(hf c).1, (hf c).2.1⟩
  have mp : ((cutD ns (some 1) (some 41)).map fun c => row3 (f c)) = rs.map row3 := by rw [← hrs, List.map_map]; rfl
  have item : ∀ c, xf (withD kn G0 l_16) "_law_row" [.int c] = .ok (row3 (f c)) := fun c => (hf c).2.2
  have l16 : 63 ≤ lineN := by decide
  have sb := h_shown_book16 rs (by omega) fun r m => ⟨(hr r m).2, (hr r m).1.txr⟩
  have rb := h_read_book16 (bookT rs) rs (book_len (by omega) fun r m => (hr r m).1.txr) (read_book fun r m => (hr r m).1) fun r m => (hr r m).2
  generalize e_ : callD _ _ _ = o_; revert o_; refine to_ans ?_; apply call_g rfl; (focus repeat' (first | infer_instance | fail))
  apply w_seq
  apply w_asg
  (focus repeat' (first | exact item _ | infer_instance | fail))
  (focus (rw [mp]; repeat' (first | infer_instance | fail)))
  repeat' (first | apply v_row | infer_instance | fail)
  (first | apply w_seq | skip); apply w_forF; (focus repeat' (first | infer_instance | fail)); (focus repeat' (first | infer_instance | fail)); (focus repeat' (first | infer_instance | fail)); (focus repeat' (first | infer_instance | fail))
  have gap : (" " : PySem.Str).length = 1 := by decide +kernel
  have catg : ∀ r ∈ rs, xb .add (.str r.1.shown) (.str " ") = .ok (.str (r.1.shown ++ (" " : PySem.Str))) ∧ xb .add (.str (r.1.shown ++ (" " : PySem.Str))) (.str r.2.text) = .ok (.str (rowT r)) := fun r m => by
    have l := (hr r m).1.txr.len
    rw [rowT, PySem.Str.length_append, PySem.Str.length_append, gap] at l
    exact ⟨o_catS (by rw [gap]; exact Nat.le_trans (by omega) (show 160 ≤ lineN by decide)), o_catS (by rw [PySem.Str.length_append, gap]; exact Nat.le_trans l (by decide))⟩
  refine fl_pre (fun done δ => ∃ (x6 x7 : Option D), δ = [some (.scr ns), some (.lst false (rs.map row3)), some (.lst true (rs.map rowE)), some (.lst true (rs.map rowE)), some (.str (bookT rs)), some (.lst true ((done.map rowT).map .str)), x6, x7, none, none, none, none]) ⟨none, none, rfl⟩ ?_ ?_
  · rintro done y rest δ hy ⟨x6, x7, rfl⟩
    have my : y ∈ rs := by rw [hy]; simp
    obtain ⟨c1, c2⟩ := catg y my
    have b1 := r3_1 y
    have b2 := r3_2 y
    have ld : (done.map rowT).length < lineN := by
      have := congrArg List.length hy
      simp at this
      rw [List.length_map]
      exact Nat.lt_of_lt_of_le (show done.length < 64 by omega) (by decide)
    have tx := (hr y my).1.txr.num
    obtain ⟨s, hd⟩ := y
    have ht := hd_tag hd
    cases hd with
    | hush =>
      repeat' (first | infer_instance | fail)
      (first | apply w_seq | skip); apply w_ifF inferInstance; (focus repeat' (first | infer_instance | fail))
      · exact (show (("hush" : PySem.Str) == ("word" : PySem.Str)) = false by decide +kernel)
      repeat' (first | exact c2 | infer_instance | fail)
      exact ⟨_, _, by simp; exact ⟨rfl, rfl⟩⟩
    | din =>
      repeat' (first | infer_instance | fail)
      (first | apply w_seq | skip); apply w_ifF inferInstance; (focus repeat' (first | infer_instance | fail))
      · exact (show (("din" : PySem.Str) == ("word" : PySem.Str)) = false by decide +kernel)
      repeat' (first | exact c2 | infer_instance | fail)
      exact ⟨_, _, by simp; exact ⟨rfl, rfl⟩⟩
    | word n =>
      have hn := hd_num n
      have sn := tx n rfl
      repeat' (first | infer_instance | fail)
      (first | apply w_seq | skip); apply w_ifT inferInstance; (focus repeat' (first | infer_instance | fail))
      · exact (show (("word" : PySem.Str) == ("word" : PySem.Str)) = true by decide +kernel)
      repeat' (first | exact c2 | infer_instance | fail)
      exact ⟨_, _, by simp; exact ⟨rfl, rfl⟩⟩
  rintro δ ⟨x6, x7, rfl⟩
  have jn : ∀ o, xL (withD kn G0 l_16) .join [.str "; ", .lst o ((rs.map rowT).map .str)] = .ok (.str (Txt.join "; " (rs.map rowT))) := fun o => b_join (by
    have key : ∀ l : List Row, (∀ r ∈ l, TxR r) → ((l.map rowT).map (·.length)).sum ≤ l.length * 160 := by
      intro l
      induction l with
      | nil => intro _; simp
      | cons x r ih =>
        intro h
        have a := (h x (List.mem_cons_self ..)).len
        have b := ih fun y m => h y (List.mem_cons_of_mem _ m)
        simp only [List.map_cons, List.sum_cons, List.length_cons]
        omega
    have k := key rs fun r m => (hr r m).1.txr
    rw [show ("; " : PySem.Str).length = 2 by decide +kernel, List.length_map]
    show _ ≤ 16777216
    omega)
  repeat' (first | exact jn _ | infer_instance | fail)
  refine w_mid (fun δ => ∃ (x6 x7 : Option D), δ = [some (.scr ns), some (.lst false (rs.map row3)), some (.lst true (rs.map rowE)), some (.lst true (rs.map rowE)), some (.str (bookT rs)), some (.lst true ((rs.map rowT).map .str)), x6, x7, some (.str (bookT rs)), none, none, none]) ?_ ?_
  · by_cases e : rs = []
    · have eb : bookT rs = "silence" := by rw [bookT, if_pos e]
      rw [eb]
      subst e
      (first | apply w_seq | skip); apply w_ifT inferInstance; (focus repeat' (first | infer_instance | fail))
      · rfl
      repeat' (first | infer_instance | fail)
      exact ⟨_, _, rfl⟩
    · have eb : bookT rs = Txt.join "; " (rs.map rowT) := by rw [bookT, if_neg e]
      rw [← eb]
      (first | apply w_seq | skip); apply w_ifF inferInstance; (focus repeat' (first | infer_instance | fail))
      · cases rs with
        | nil => exact (e rfl).elim
        | cons x r => rfl
      repeat' (first | infer_instance | fail)
      exact ⟨_, _, rfl⟩
  rintro δ ⟨x6, x7, rfl⟩
  repeat' (first | infer_instance | fail)
  (first | apply w_seq | skip); apply w_ifF inferInstance; (focus repeat' (first | infer_instance | fail))
  · simp
  repeat' (first | infer_instance | fail)
  (first | apply w_seq | skip); apply w_ifF inferInstance; (focus repeat' (first | infer_instance | fail))
  · simp
  repeat' (first | infer_instance | fail)
  (first | apply w_seq | skip); apply w_forF; (focus repeat' (first | infer_instance | fail)); (focus repeat' (first | infer_instance | fail)); (focus repeat' (first | infer_instance | fail)); (focus repeat' (first | infer_instance | fail))
  rw [show ((rs.zip rs).map fun p => D.tup [rowE p.1, row3 p.2]) = rs.map fun r => D.tup [rowE r, row3 r] by rw [zip_self, List.map_map]; rfl]
  refine fl_pre (fun _ δ => ∃ (x6 x10 : Option D), δ = [some (.scr ns), some (.lst false (rs.map row3)), some (.lst true (rs.map rowE)), some (.lst true (rs.map rowE)), some (.str (bookT rs)), some (.lst true ((rs.map rowT).map .str)), x6, x7, some (.str (bookT rs)), some (.lst false (rs.map rowE)), x10, none]) ⟨_, _, rfl⟩ ?_ ?_
  · rintro done y rest δ hy ⟨x6, x10, rfl⟩
    have my : y ∈ rs := by rw [hy]; simp
    have sm := same_ok y (hr y my).2
    repeat' (first | infer_instance | fail)
    (first | apply w_seq | skip); apply w_ifF inferInstance; (focus repeat' (first | infer_instance | fail))
    · rfl
    repeat' (first | infer_instance | fail)
    exact ⟨_, _, rfl⟩
  · rintro δ ⟨x6, x10, rfl⟩
    repeat' (first | infer_instance | fail)
theorem value (ns : List Int) (h : ns.length ≤ 63) (hb : ∀ z ∈ ns, PySem.Builtin.Int.intBits z ≤ 1048576) : Ev.cfOf kn G0 l_17 "law" [.scr ns] = .ok (.bl true) := by
  rw [r_value, law_ok ns h]
  rfl
end K66
namespace K66
open PySem L2 Ev
def top (i : Nat) : Stmt := PySem.Challenge.pw_shoutline_k66_books_written.main.body.getD i (.Pass ⟨0, 0, 0, 0⟩)
abbrev s_Span___init__ : Stmt := inClass (top 6) 0
abbrev s_Open___init__ : Stmt := inClass (top 8) 0
abbrev s_Half___init__ : Stmt := inClass (top 7) 0
abbrev s__law_row : Stmt := top 22
abbrev s_Span_shown : Stmt := inClass (top 6) 3
abbrev s_Half_shown : Stmt := inClass (top 7) 3
abbrev s_shown_heard : Stmt := top 13
abbrev s_shown_book : Stmt := top 14
abbrev s_number_of : Stmt := top 15
abbrev s_span_of : Stmt := top 16
abbrev s_read_span : Stmt := top 17
abbrev s_read_row : Stmt := top 18
abbrev s_read_book : Stmt := top 19
abbrev s_Span_alike : Stmt := inClass (top 6) 4
abbrev s__law_same_told : Stmt := top 23
abbrev s__law_same : Stmt := top 24
abbrev s_law : Stmt := top 25
/-- what the walk asks of the text -/
structure Wd (K : PySem.W.Frag) (mg : Str → Option Value) (ca : String → Option Addr) (tb : TB) : Prop where
  S : Stat K mg ca kn G0 tb
  L : IsL K ca G0
  T : TyOk ca
  b_bool : mg "bool" = none
  b_int : mg "int" = none
  b_isinstance : mg "isinstance" = none
  b_len : mg "len" = none
  b_list : mg "list" = none
  b_str : mg "str" = none
  b_tuple : mg "tuple" = none
  b_zip : mg "zip" = none
  k_Half : GlK mg ca "Half" "Half"
  k_Open : GlK mg ca "Open" "Open"
  v_FIGURES : ∃ t, mg "FIGURES" = some (.str "0123456789" t)
  v_MOST_BITS : ∃ t, mg "MOST_BITS" = some (.int 200 t)
  v_MOST_FIGURES : ∃ t, mg "MOST_FIGURES" = some (.int 60 t)
  c_Half : GlC K mg ca G0 tb "Half" "Half"
  c_Open : GlC K mg ca G0 tb "Open" "Open"
  s_Span : GlS K mg tb "Span.__init__" "Span"
  x_NoSpan : ExB' K mg ca "NoSpan" "NoSpan"
  x_NoText : ExB' K mg ca "NoText" "NoText"
  h_NoSpan : CatB K mg ca G0 "NoSpan" "NoSpan"
  f__law_row : GlF mg tb "_law_row" "_law_row"
  f__law_same : GlF mg tb "_law_same" "_law_same"
  f__law_same_told : GlF mg tb "_law_same_told" "_law_same_told"
  f_number_of : GlF mg tb "number_of" "number_of"
  f_read_book : GlF mg tb "read_book" "read_book"
  f_read_row : GlF mg tb "read_row" "read_row"
  f_read_span : GlF mg tb "read_span" "read_span"
  f_shown_book : GlF mg tb "shown_book" "shown_book"
  f_shown_heard : GlF mg tb "shown_heard" "shown_heard"
  f_span_of : GlF mg tb "span_of" "span_of"
section
variable {P : Program} {w : World} {K : PySem.W.Frag} {mg : Str → Option Value} {base : Heap} {ca : String → Option Addr} {tb : TB}
theorem sc_Span___init__ : FnScope ["self", "low"] ["self", "low"] (defScope s_Span___init__) := ⟨rfl, rfl, rfl, by decide +kernel, rfl, by decide +kernel, by decide +kernel⟩
theorem ok_Span___init__ {f : Addr} {fd : FuncData} {k : Nat} (F : Fun K "__init__" "Span.__init__" s_Span___init__ f fd) (T : Wd K mg ca tb) (A : AllF P w K mg base ca kn G0 tb l_0 k) :
    FnOk P w K mg base (L2.CX P w) (k + 2) f fd ["self", "low"] (spB K ca true (callD (withD kn G0 l_0) d_Span___init__) (["self", "low"] : List Str).length) := by
  have Sc := sc_Span___init__
  have er : ErOk ca (withD kn G0 l_0) := AllF.er T.S
  have L : IsL K ca (withD kn G0 l_0) := ⟨T.L.kit, T.L.ins, T.L.exc, T.L.bt⟩
  have fdb : FdB K ca (withD kn G0 l_0) := ⟨T.S.fdb.ok⟩
  refine ini_ok (k := k + 1) (N := ["self", "low"]) (G := withD kn G0 l_0) F Sc fun cdv A0 outer s0 H0 E hr tk => ?_
  have hr0 := hr.mono (Nat.le_succ k)
  have hp := L2.passes_of (X := L2.cxOf (L2.CX P w) P w K mg base ["self", "low"] "Span.__init__" (defScope s_Span___init__) f cdv A0 outer s0 H0 E) rfl
  exact (sn_setf (f := "low") fdb (se_var 1)
  sn_nil)
theorem sc_Open___init__ : FnScope ["self", "low"] ["self", "low"] (defScope s_Open___init__) := ⟨rfl, rfl, rfl, by decide +kernel, rfl, by decide +kernel, by decide +kernel⟩
theorem ok_Open___init__ {f : Addr} {fd : FuncData} {k : Nat} (F : Fun K "__init__" "Open.__init__" s_Open___init__ f fd) (T : Wd K mg ca tb) (A : AllF P w K mg base ca kn G0 tb l_1 k) :
    FnOk P w K mg base (L2.CX P w) (k + 2) f fd ["self", "low"] (spB K ca true (callD (withD kn G0 l_1) d_Open___init__) (["self", "low"] : List Str).length) := by
  have Sc := sc_Open___init__
  have er : ErOk ca (withD kn G0 l_1) := AllF.er T.S
  have L : IsL K ca (withD kn G0 l_1) := ⟨T.L.kit, T.L.ins, T.L.exc, T.L.bt⟩
  have fdb : FdB K ca (withD kn G0 l_1) := ⟨T.S.fdb.ok⟩
  refine ini_ok (k := k + 1) (N := ["self", "low"]) (G := withD kn G0 l_1) F Sc fun cdv A0 outer s0 H0 E hr tk => ?_
  have hr0 := hr.mono (Nat.le_succ k)
  have hp := L2.passes_of (X := L2.cxOf (L2.CX P w) P w K mg base ["self", "low"] "Open.__init__" (defScope s_Open___init__) f cdv A0 outer s0 H0 E) rfl
  exact (sn_chk rfl T.x_NoSpan tk (st_w (sw_or (st_lt (se_var 1) se_int) (sw_or1 (st_ne (se_band (se_var 1) (se_sub (se_var 1) se_int)) se_int (hu_r hr)))))
  (sn_sup (A.sup T.S T.s_Span) hr0 er tk (sa_cons (se_var 1) sa_nil)
  sn_nil))
theorem sc_Half___init__ : FnScope ["self", "low", "bits"] ["self", "low", "bits"] (defScope s_Half___init__) := ⟨rfl, rfl, rfl, by decide +kernel, rfl, by decide +kernel, by decide +kernel⟩
theorem ok_Half___init__ {f : Addr} {fd : FuncData} {k : Nat} (F : Fun K "__init__" "Half.__init__" s_Half___init__ f fd) (T : Wd K mg ca tb) (A : AllF P w K mg base ca kn G0 tb l_2 k) :
    FnOk P w K mg base (L2.CX P w) (k + 2) f fd ["self", "low", "bits"] (spB K ca true (callD (withD kn G0 l_2) d_Half___init__) (["self", "low", "bits"] : List Str).length) := by
  have Sc := sc_Half___init__
  have er : ErOk ca (withD kn G0 l_2) := AllF.er T.S
  have L : IsL K ca (withD kn G0 l_2) := ⟨T.L.kit, T.L.ins, T.L.exc, T.L.bt⟩
  have fdb : FdB K ca (withD kn G0 l_2) := ⟨T.S.fdb.ok⟩
  refine ini_ok (k := k + 1) (N := ["self", "low", "bits"]) (G := withD kn G0 l_2) F Sc fun cdv A0 outer s0 H0 E hr tk => ?_
  have hr0 := hr.mono (Nat.le_succ k)
  have hp := L2.passes_of (X := L2.cxOf (L2.CX P w) P w K mg base ["self", "low", "bits"] "Half.__init__" (defScope s_Half___init__) f cdv A0 outer s0 H0 E) rfl
  exact (sn_chk rfl T.x_NoSpan tk (st_w (sw_or (st_lt (se_var 1) se_int) (sw_or (st_lt (se_var 2) se_int) (sw_or1 (st_ne (se_mod (se_var 1) (se_shl se_int (se_var 2))) se_int (hu_r hr))))))
  (sn_sup (A.sup T.S T.s_Span) hr0 er tk (sa_cons (se_var 1) sa_nil)
  (sn_setf (f := "bits") fdb (se_var 2)
  sn_nil)))
theorem sc__law_row : FnScope ["cell", "number", "way", "told", "power", "bits", "low"] ["cell"] (defScope s__law_row) := ⟨rfl, rfl, rfl, by decide +kernel, rfl, by decide +kernel, by decide +kernel⟩
theorem ok__law_row {f : Addr} {fd : FuncData} {k : Nat} (F : Fun K "_law_row" "_law_row" s__law_row f fd) (T : Wd K mg ca tb) (A : AllF P w K mg base ca kn G0 tb l_3 k) :
    FnOk P w K mg base (L2.CX P w) (k + 2) f fd ["cell"] (spB K ca false (callD (withD kn G0 l_3) d__law_row) (["cell"] : List Str).length) := by
  have Sc := sc__law_row
  have er : ErOk ca (withD kn G0 l_3) := AllF.er T.S
  have L : IsL K ca (withD kn G0 l_3) := ⟨T.L.kit, T.L.ins, T.L.exc, T.L.bt⟩
  refine fn_ok (k := k + 1) (N := ["cell", "number", "way", "told", "power", "bits", "low"]) (G := withD kn G0 l_3) F Sc fun cdv A0 outer s0 H0 E hr tk => ?_
  have hr0 := hr.mono (Nat.le_succ k)
  have hp := L2.passes_of (X := L2.cxOf (L2.CX P w) P w K mg base ["cell", "number", "way", "told", "power", "bits", "low"] "_law_row" (defScope s__law_row) f cdv A0 outer s0 H0 E) rfl
  exact (sss_cons (ss_asg Sc.nd (sm_ex (se_mod (se_var 0) (se_pow se_int se_int))))
  (sss_cons (ss_asg Sc.nd (sm_ex (se_mod (se_mul (se_add (se_var 0) se_int) (se_add (se_var 0) se_int)) (se_pow se_int se_int))))
  (sss_cons (ss_asg Sc.nd (sm_ex (se_mod (se_var 0) se_int)))
  (sss_cons (ss_asg Sc.nd (sm_ex (se_idx (se_lst (sa_cons (se_tup (sa_cons se_str sa_nil)) (sa_cons (se_tup (sa_cons se_str sa_nil)) (sa_cons (se_tup (sa_cons se_str (sa_cons (se_mod (se_fdiv (se_var 0) se_int) se_int) sa_nil))) (sa_cons (se_tup (sa_cons se_str (sa_cons (se_var 1) sa_nil))) sa_nil))))) (se_mod (se_fdiv (se_var 0) se_int) se_int))))
  (sss_cons (ss_if (st_eq (se_var 2) se_int (hu_r hr))
  (sss_cons (ss_asg Sc.nd (sm_ex (se_mod (se_fdiv (se_var 0) se_int) se_int)))
  (sss_cons (ss_if (st_eq (se_var 4) se_int (hu_r hr))
  (sss_one (ss_ret (sm_ex (se_tup (sa_cons (se_new (A.mkr T.S T.c_Open) (new_ok rfl (by decide +kernel)) hr er tk (sa_cons se_int sa_nil)) (sa_cons se_str (sa_cons (se_var 3) sa_nil)))))))
  sss_nil)
  (sss_one (ss_ret (sm_ex (se_tup (sa_cons (se_new (A.mkr T.S T.c_Open) (new_ok rfl (by decide +kernel)) hr er tk (sa_cons (se_shl se_int (se_sub (se_var 4) se_int)) sa_nil)) (sa_cons (se_add (bl_str T.b_str (sa_cons (se_shl se_int (se_sub (se_var 4) se_int)) sa_nil)) se_str) (sa_cons (se_var 3) sa_nil)))))))))
  sss_nil)
  (sss_cons (ss_asg Sc.nd (sm_ex (se_idx (se_lst (sa_cons (se_mod (se_fdiv (se_var 0) se_int) se_int) (sa_cons (se_mod (se_fdiv (se_var 0) se_int) se_int) (sa_cons (se_mod (se_fdiv (se_var 0) se_int) se_int) sa_nil)))) (se_sub (se_var 2) se_int))))
  (sss_cons (ss_asg Sc.nd (sm_ex (se_mul (se_fdiv (se_var 1) (se_shl se_int (se_var 5))) (se_shl se_int (se_var 5)))))
  (sss_one (ss_ret (sm_ex (se_tup (sa_cons (se_new (A.mkr T.S T.c_Half) (new_ok rfl (by decide +kernel)) hr er tk (sa_cons (se_var 6) (sa_cons (se_var 5) sa_nil))) (sa_cons (se_add (se_add (bl_str T.b_str (sa_cons (se_var 6) sa_nil)) se_str) (bl_str T.b_str (sa_cons (se_var 5) sa_nil))) (sa_cons (se_var 3) sa_nil))))))))))))))
theorem sc_Span_shown : FnScope ["self"] ["self"] (defScope s_Span_shown) := ⟨rfl, rfl, rfl, by decide +kernel, rfl, by decide +kernel, by decide +kernel⟩
theorem ok_Span_shown {f : Addr} {fd : FuncData} {k : Nat} (F : Fun K "shown" "Span.shown" s_Span_shown f fd) (T : Wd K mg ca tb) (A : AllF P w K mg base ca kn G0 tb l_4 k) :
    FnOk P w K mg base (L2.CX P w) (k + 2) f fd ["self"] (spB K ca false (callD (withD kn G0 l_4) d_Span_shown) (["self"] : List Str).length) := by
  have Sc := sc_Span_shown
  have er : ErOk ca (withD kn G0 l_4) := AllF.er T.S
  have L : IsL K ca (withD kn G0 l_4) := ⟨T.L.kit, T.L.ins, T.L.exc, T.L.bt⟩
  refine fn_ok (k := k + 1) (N := ["self"]) (G := withD kn G0 l_4) F Sc fun cdv A0 outer s0 H0 E hr tk => ?_
  have hr0 := hr.mono (Nat.le_succ k)
  have hp := L2.passes_of (X := L2.cxOf (L2.CX P w) P w K mg base ["self"] "Span.shown" (defScope s_Span_shown) f cdv A0 outer s0 H0 E) rfl
  exact (sss_one (ss_ret (sm_ex (se_add (bl_str T.b_str (sa_cons (se_fld (f := "low") rfl (se_var 0)) sa_nil)) se_str))))
theorem sc_Half_shown : FnScope ["self"] ["self"] (defScope s_Half_shown) := ⟨rfl, rfl, rfl, by decide +kernel, rfl, by decide +kernel, by decide +kernel⟩
theorem ok_Half_shown {f : Addr} {fd : FuncData} {k : Nat} (F : Fun K "shown" "Half.shown" s_Half_shown f fd) (T : Wd K mg ca tb) (A : AllF P w K mg base ca kn G0 tb l_5 k) :
    FnOk P w K mg base (L2.CX P w) (k + 2) f fd ["self"] (spB K ca false (callD (withD kn G0 l_5) d_Half_shown) (["self"] : List Str).length) := by
  have Sc := sc_Half_shown
  have er : ErOk ca (withD kn G0 l_5) := AllF.er T.S
  have L : IsL K ca (withD kn G0 l_5) := ⟨T.L.kit, T.L.ins, T.L.exc, T.L.bt⟩
  refine fn_ok (k := k + 1) (N := ["self"]) (G := withD kn G0 l_5) F Sc fun cdv A0 outer s0 H0 E hr tk => ?_
  have hr0 := hr.mono (Nat.le_succ k)
  have hp := L2.passes_of (X := L2.cxOf (L2.CX P w) P w K mg base ["self"] "Half.shown" (defScope s_Half_shown) f cdv A0 outer s0 H0 E) rfl
  exact (sss_one (ss_ret (sm_ex (se_add (se_add (bl_str T.b_str (sa_cons (se_fld (f := "low") rfl (se_var 0)) sa_nil)) se_str) (bl_str T.b_str (sa_cons (se_fld (f := "bits") rfl (se_var 0)) sa_nil))))))
theorem sc_shown_heard : FnScope ["heard_so"] ["heard_so"] (defScope s_shown_heard) := ⟨rfl, rfl, rfl, by decide +kernel, rfl, by decide +kernel, by decide +kernel⟩
theorem ok_shown_heard {f : Addr} {fd : FuncData} {k : Nat} (F : Fun K "shown_heard" "shown_heard" s_shown_heard f fd) (T : Wd K mg ca tb) (A : AllF P w K mg base ca kn G0 tb l_6 k) :
    FnOk P w K mg base (L2.CX P w) (k + 2) f fd ["heard_so"] (spB K ca false (callD (withD kn G0 l_6) d_shown_heard) (["heard_so"] : List Str).length) := by
  have Sc := sc_shown_heard
  have er : ErOk ca (withD kn G0 l_6) := AllF.er T.S
  have L : IsL K ca (withD kn G0 l_6) := ⟨T.L.kit, T.L.ins, T.L.exc, T.L.bt⟩
  refine fn_ok (k := k + 1) (N := ["heard_so"]) (G := withD kn G0 l_6) F Sc fun cdv A0 outer s0 H0 E hr tk => ?_
  have hr0 := hr.mono (Nat.le_succ k)
  have hp := L2.passes_of (X := L2.cxOf (L2.CX P w) P w K mg base ["heard_so"] "shown_heard" (defScope s_shown_heard) f cdv A0 outer s0 H0 E) rfl
  exact (sss_cons (ss_if (st_eq (se_idx (se_var 0) se_int) se_str (hu_r hr))
  (sss_one (ss_ret (sm_ex (bl_str T.b_str (sa_cons (se_idx (se_var 0) se_int) sa_nil)))))
  sss_nil)
  (sss_one (ss_ret (sm_ex (se_idx (se_var 0) se_int)))))
theorem sc_shown_book : FnScope ["book", "heard_so", "span"] ["book"] (defScope s_shown_book) := ⟨rfl, rfl, rfl, by decide +kernel, rfl, by decide +kernel, by decide +kernel⟩
theorem ok_shown_book {f : Addr} {fd : FuncData} {k : Nat} (F : Fun K "shown_book" "shown_book" s_shown_book f fd) (T : Wd K mg ca tb) (A : AllF P w K mg base ca kn G0 tb l_7 k) :
    FnOk P w K mg base (L2.CX P w) (k + 2) f fd ["book"] (spB K ca false (callD (withD kn G0 l_7) d_shown_book) (["book"] : List Str).length) := by
  have Sc := sc_shown_book
  have er : ErOk ca (withD kn G0 l_7) := AllF.er T.S
  have L : IsL K ca (withD kn G0 l_7) := ⟨T.L.kit, T.L.ins, T.L.exc, T.L.bt⟩
  refine fn_ok (k := k + 1) (N := ["book", "heard_so", "span"]) (G := withD kn G0 l_7) F Sc fun cdv A0 outer s0 H0 E hr tk => ?_
  have hr0 := hr.mono (Nat.le_succ k)
  have hp := L2.passes_of (X := L2.cxOf (L2.CX P w) P w K mg base ["book", "heard_so", "span"] "shown_book" (defScope s_shown_book) f cdv A0 outer s0 H0 E) rfl
  exact (sss_cons (ss_if (st_eq (se_var 0) (se_lst sa_nil) (hu_r hr))
  (sss_one (ss_ret (sm_ex se_str)))
  sss_nil)
  (sss_one (ss_ret (sm_ex (se_join (se_comp (own := [("span", 2), ("heard_so", 1)]) rfl Sc.nd (si_seq (se_var 0)) (by show blkC ["book", "heard_so", "span"] (defScope s_shown_book) _ _ = true; decide +kernel) (fun s H C cl fp => (sg_tp rfl (sgs_cons 2 (sg_nm 2 Sc.nd) (sgs_cons 1 (sg_nm 1 Sc.nd) sgs_nil)))) (fun s H C cl fp => pts_nil') (fun s H C cl fp => (se_add (se_add (se_meth0 (m := "shown") (A.mt T.S) hr0 er takesF (se_var 2)) se_str) (se_call (A.fn T.S T.f_shown_heard) hr0 er takesF (sa_cons (se_var 1) sa_nil))))))))))
theorem sc_number_of : FnScope ["word", "sign"] ["word"] (defScope s_number_of) := ⟨rfl, rfl, rfl, by decide +kernel, rfl, by decide +kernel, by decide +kernel⟩
theorem ok_number_of {f : Addr} {fd : FuncData} {k : Nat} (F : Fun K "number_of" "number_of" s_number_of f fd) (T : Wd K mg ca tb) (A : AllF P w K mg base ca kn G0 tb l_8 k) :
    FnOk P w K mg base (L2.CX P w) (k + 2) f fd ["word"] (spB K ca false (callD (withD kn G0 l_8) d_number_of) (["word"] : List Str).length) := by
  have Sc := sc_number_of
  have er : ErOk ca (withD kn G0 l_8) := AllF.er T.S
  have L : IsL K ca (withD kn G0 l_8) := ⟨T.L.kit, T.L.ins, T.L.exc, T.L.bt⟩
  refine fn_ok (k := k + 1) (N := ["word", "sign"]) (G := withD kn G0 l_8) F Sc fun cdv A0 outer s0 H0 E hr tk => ?_
  have hr0 := hr.mono (Nat.le_succ k)
  have hp := L2.passes_of (X := L2.cxOf (L2.CX P w) P w K mg base ["word", "sign"] "number_of" (defScope s_number_of) f cdv A0 outer s0 H0 E) rfl
  exact (sss_cons (ss_if (st_w (sw_or (st_eq (se_var 0) se_str (hu_r hr)) (sw_or (st_gt (bl_len T.b_len (sa_cons (se_var 0) sa_nil)) (se_cI T.v_MOST_FIGURES)) (sw_or1 (st_w (sw_and (st_eq (se_idx (se_var 0) se_int) se_str (hu_r hr)) (sw_and1 (st_gt (bl_len T.b_len (sa_cons (se_var 0) sa_nil)) se_int))))))))
  (sss_one (ss_raise rfl T.x_NoText tk))
  sss_nil)
  (sss_cons (ss_for (some [0]) hp rfl (si_chr (se_var 0)) (sg_nm 1 Sc.nd)
  (sss_one (ss_if (st_nin (se_var 1) (se_cS T.v_FIGURES) (hu_s hr))
  (sss_one (ss_raise rfl T.x_NoText tk))
  sss_nil)))
  (sss_one (ss_ret (sm_ex (bl_int T.b_int (sa_cons (se_var 0) sa_nil)))))))
theorem sc_span_of : FnScope ["low", "bits", "span", "error"] ["low", "bits"] (defScope s_span_of) := ⟨rfl, rfl, rfl, by decide +kernel, rfl, by decide +kernel, by decide +kernel⟩
theorem ok_span_of {f : Addr} {fd : FuncData} {k : Nat} (F : Fun K "span_of" "span_of" s_span_of f fd) (T : Wd K mg ca tb) (A : AllF P w K mg base ca kn G0 tb l_9 k) :
    FnOk P w K mg base (L2.CX P w) (k + 2) f fd ["low", "bits"] (spB K ca false (callD (withD kn G0 l_9) d_span_of) (["low", "bits"] : List Str).length) := by
  have Sc := sc_span_of
  have er : ErOk ca (withD kn G0 l_9) := AllF.er T.S
  have L : IsL K ca (withD kn G0 l_9) := ⟨T.L.kit, T.L.ins, T.L.exc, T.L.bt⟩
  refine fn_ok (k := k + 1) (N := ["low", "bits", "span", "error"]) (G := withD kn G0 l_9) F Sc fun cdv A0 outer s0 H0 E hr tk => ?_
  have hr0 := hr.mono (Nat.le_succ k)
  have hp := L2.passes_of (X := L2.cxOf (L2.CX P w) P w K mg base ["low", "bits", "span", "error"] "span_of" (defScope s_span_of) f cdv A0 outer s0 H0 E) rfl
  exact (sss_cons (ss_try rfl rfl rfl tk (fun W1 pn xe tk hp => (sss_one (ss_if (st_is (se_var 1) se_non)
  (sss_one (ss_asg Sc.nd (sm_ex (se_new (A.mkr T.S T.c_Open) (new_ok rfl (by decide +kernel)) hr er tk (sa_cons (se_var 0) sa_nil)))))
  (sss_one (ss_asg Sc.nd (sm_ex (se_new (A.mkr T.S T.c_Half) (new_ok rfl (by decide +kernel)) hr er tk (sa_cons (se_var 0) (sa_cons (se_var 1) sa_nil)))))))))
  (HdOk.as_ Sc.nd (i := 3) rfl rfl (nms T.h_NoSpan) (exms T.h_NoSpan) (fun a pn => (sss_one ss_far))
  HdOk.nil))
  (sss_one (ss_ret (sm_ex (se_var 2)))))
theorem sc_read_span : FnScope ["word", "low", "plus", "bits"] ["word"] (defScope s_read_span) := ⟨rfl, rfl, rfl, by decide +kernel, rfl, by decide +kernel, by decide +kernel⟩
theorem ok_read_span {f : Addr} {fd : FuncData} {k : Nat} (F : Fun K "read_span" "read_span" s_read_span f fd) (T : Wd K mg ca tb) (A : AllF P w K mg base ca kn G0 tb l_10 k) :
    FnOk P w K mg base (L2.CX P w) (k + 2) f fd ["word"] (spB K ca false (callD (withD kn G0 l_10) d_read_span) (["word"] : List Str).length) := by
  have Sc := sc_read_span
  have er : ErOk ca (withD kn G0 l_10) := AllF.er T.S
  have L : IsL K ca (withD kn G0 l_10) := ⟨T.L.kit, T.L.ins, T.L.exc, T.L.bt⟩
  refine fn_ok (k := k + 1) (N := ["word", "low", "plus", "bits"]) (G := withD kn G0 l_10) F Sc fun cdv A0 outer s0 H0 E hr tk => ?_
  have hr0 := hr.mono (Nat.le_succ k)
  have hp := L2.passes_of (X := L2.cxOf (L2.CX P w) P w K mg base ["word", "low", "plus", "bits"] "read_span" (defScope s_read_span) f cdv A0 outer s0 H0 E) rfl
  exact (sss_cons (ss_asgT (sm_ex (se_part (se_var 0))) (sg_tp rfl (sgs_cons 1 (sg_nm 1 Sc.nd) (sgs_cons 2 (sg_nm 2 Sc.nd) (sgs_cons 3 (sg_nm 3 Sc.nd) sgs_nil)))))
  (sss_cons (ss_if (st_eq (se_var 2) se_str (hu_r hr))
  (sss_one (ss_raise rfl T.x_NoText tk))
  sss_nil)
  (sss_cons (ss_asg Sc.nd (sm_ex (se_call (A.fn T.S T.f_number_of) hr0 er tk (sa_cons (se_var 1) sa_nil))))
  (sss_cons (ss_if (st_eq (se_var 3) se_str (hu_r hr))
  (sss_one (ss_ret (sm_ex (se_call (A.fn T.S T.f_span_of) hr0 er tk (sa_cons (se_var 1) (sa_cons se_non sa_nil))))))
  sss_nil)
  (sss_cons (ss_asg Sc.nd (sm_ex (se_call (A.fn T.S T.f_number_of) hr0 er tk (sa_cons (se_var 3) sa_nil))))
  (sss_cons (ss_if (st_gt (se_var 3) (se_cI T.v_MOST_BITS))
  (sss_one (ss_raise rfl T.x_NoText tk))
  sss_nil)
  (sss_one (ss_ret (sm_ex (se_call (A.fn T.S T.f_span_of) hr0 er tk (sa_cons (se_var 1) (sa_cons (se_var 3) sa_nil))))))))))))
theorem sc_read_row : FnScope ["row", "word", "gap", "rest", "span"] ["row"] (defScope s_read_row) := ⟨rfl, rfl, rfl, by decide +kernel, rfl, by decide +kernel, by decide +kernel⟩
theorem ok_read_row {f : Addr} {fd : FuncData} {k : Nat} (F : Fun K "read_row" "read_row" s_read_row f fd) (T : Wd K mg ca tb) (A : AllF P w K mg base ca kn G0 tb l_11 k) :
    FnOk P w K mg base (L2.CX P w) (k + 2) f fd ["row"] (spB K ca false (callD (withD kn G0 l_11) d_read_row) (["row"] : List Str).length) := by
  have Sc := sc_read_row
  have er : ErOk ca (withD kn G0 l_11) := AllF.er T.S
  have L : IsL K ca (withD kn G0 l_11) := ⟨T.L.kit, T.L.ins, T.L.exc, T.L.bt⟩
  refine fn_ok (k := k + 1) (N := ["row", "word", "gap", "rest", "span"]) (G := withD kn G0 l_11) F Sc fun cdv A0 outer s0 H0 E hr tk => ?_
  have hr0 := hr.mono (Nat.le_succ k)
  have hp := L2.passes_of (X := L2.cxOf (L2.CX P w) P w K mg base ["row", "word", "gap", "rest", "span"] "read_row" (defScope s_read_row) f cdv A0 outer s0 H0 E) rfl
  exact (sss_cons (ss_asgT (sm_ex (se_part (se_var 0))) (sg_tp rfl (sgs_cons 1 (sg_nm 1 Sc.nd) (sgs_cons 2 (sg_nm 2 Sc.nd) (sgs_cons 3 (sg_nm 3 Sc.nd) sgs_nil)))))
  (sss_cons (ss_asg Sc.nd (sm_ex (se_call (A.fn T.S T.f_read_span) hr0 er tk (sa_cons (se_var 1) sa_nil))))
  (sss_cons (ss_if (st_w (sw_or (st_eq (se_var 3) se_str (hu_r hr)) (sw_or1 (st_eq (se_var 3) se_str (hu_r hr)))))
  (sss_one (ss_ret (sm_ex (se_tup (sa_cons (se_var 4) (sa_cons (se_tup (sa_cons (se_var 3) sa_nil)) sa_nil))))))
  sss_nil)
  (sss_one (ss_ret (sm_ex (se_tup (sa_cons (se_var 4) (sa_cons (se_tup (sa_cons se_str (sa_cons (se_call (A.fn T.S T.f_number_of) hr0 er tk (sa_cons (se_var 3) sa_nil)) sa_nil))) sa_nil)))))))))
theorem sc_read_book : FnScope ["text", "row"] ["text"] (defScope s_read_book) := ⟨rfl, rfl, rfl, by decide +kernel, rfl, by decide +kernel, by decide +kernel⟩
theorem ok_read_book {f : Addr} {fd : FuncData} {k : Nat} (F : Fun K "read_book" "read_book" s_read_book f fd) (T : Wd K mg ca tb) (A : AllF P w K mg base ca kn G0 tb l_12 k) :
    FnOk P w K mg base (L2.CX P w) (k + 2) f fd ["text"] (spB K ca false (callD (withD kn G0 l_12) d_read_book) (["text"] : List Str).length) := by
  have Sc := sc_read_book
  have er : ErOk ca (withD kn G0 l_12) := AllF.er T.S
  have L : IsL K ca (withD kn G0 l_12) := ⟨T.L.kit, T.L.ins, T.L.exc, T.L.bt⟩
  refine fn_ok (k := k + 1) (N := ["text", "row"]) (G := withD kn G0 l_12) F Sc fun cdv A0 outer s0 H0 E hr tk => ?_
  have hr0 := hr.mono (Nat.le_succ k)
  have hp := L2.passes_of (X := L2.cxOf (L2.CX P w) P w K mg base ["text", "row"] "read_book" (defScope s_read_book) f cdv A0 outer s0 H0 E) rfl
  exact (sss_cons (ss_if (st_eq (se_var 0) se_str (hu_r hr))
  (sss_one (ss_ret (sm_ex (se_lst sa_nil))))
  sss_nil)
  (sss_one (ss_ret (sm_ex (se_comp (own := [("row", 1)]) rfl Sc.nd (si_seq (se_split (se_var 0))) (by show blkC ["text", "row"] (defScope s_read_book) _ _ = true; decide +kernel) (fun s H C cl fp => (sg_nm 1 Sc.nd)) (fun s H C cl fp => pts_nil') (fun s H C cl fp => (se_call (A.fn T.S T.f_read_row) hr0 er takesF (sa_cons (se_var 1) sa_nil))))))))
theorem sc_Span_alike : FnScope ["self", "other"] ["self", "other"] (defScope s_Span_alike) := ⟨rfl, rfl, rfl, by decide +kernel, rfl, by decide +kernel, by decide +kernel⟩
theorem ok_Span_alike {f : Addr} {fd : FuncData} {k : Nat} (F : Fun K "alike" "Span.alike" s_Span_alike f fd) (T : Wd K mg ca tb) (A : AllF P w K mg base ca kn G0 tb l_13 k) :
    FnOk P w K mg base (L2.CX P w) (k + 2) f fd ["self", "other"] (spB K ca false (callD (withD kn G0 l_13) d_Span_alike) (["self", "other"] : List Str).length) := by
  have Sc := sc_Span_alike
  have er : ErOk ca (withD kn G0 l_13) := AllF.er T.S
  have L : IsL K ca (withD kn G0 l_13) := ⟨T.L.kit, T.L.ins, T.L.exc, T.L.bt⟩
  refine fn_ok (k := k + 1) (N := ["self", "other"]) (G := withD kn G0 l_13) F Sc fun cdv A0 outer s0 H0 E hr tk => ?_
  have hr0 := hr.mono (Nat.le_succ k)
  have hp := L2.passes_of (X := L2.cxOf (L2.CX P w) P w K mg base ["self", "other"] "Span.alike" (defScope s_Span_alike) f cdv A0 outer s0 H0 E) rfl
  exact (sss_one (ss_ret (sm_ex (se_eq (se_meth0 (m := "shown") (A.mt T.S) hr0 er tk (se_var 0)) (se_meth0 (m := "shown") (A.mt T.S) hr0 er tk (se_var 1)) (hu_r hr)))))
theorem sc__law_same_told : FnScope ["one", "other"] ["one", "other"] (defScope s__law_same_told) := ⟨rfl, rfl, rfl, by decide +kernel, rfl, by decide +kernel, by decide +kernel⟩
theorem ok__law_same_told {f : Addr} {fd : FuncData} {k : Nat} (F : Fun K "_law_same_told" "_law_same_told" s__law_same_told f fd) (T : Wd K mg ca tb) (A : AllF P w K mg base ca kn G0 tb l_14 k) :
    FnOk P w K mg base (L2.CX P w) (k + 2) f fd ["one", "other"] (spB K ca false (callD (withD kn G0 l_14) d__law_same_told) (["one", "other"] : List Str).length) := by
  have Sc := sc__law_same_told
  have er : ErOk ca (withD kn G0 l_14) := AllF.er T.S
  have L : IsL K ca (withD kn G0 l_14) := ⟨T.L.kit, T.L.ins, T.L.exc, T.L.bt⟩
  refine fn_ok (k := k + 1) (N := ["one", "other"]) (G := withD kn G0 l_14) F Sc fun cdv A0 outer s0 H0 E hr tk => ?_
  have hr0 := hr.mono (Nat.le_succ k)
  have hp := L2.passes_of (X := L2.cxOf (L2.CX P w) P w K mg base ["one", "other"] "_law_same_told" (defScope s__law_same_told) f cdv A0 outer s0 H0 E) rfl
  exact (sss_cons (ss_if (st_w (sw_or (st_not (st_val (bl_is L T.T T.b_isinstance (sa_cons (se_var 0) (sa_cons (ty_tuple T.b_tuple) sa_nil))))) (sw_or (st_ne (bl_len T.b_len (sa_cons (se_var 0) sa_nil)) (bl_len T.b_len (sa_cons (se_var 1) sa_nil)) (hu_r hr)) (sw_or (st_not (st_val (bl_is L T.T T.b_isinstance (sa_cons (se_idx (se_var 0) se_int) (sa_cons (ty_str T.b_str) sa_nil))))) (sw_or1 (st_ne (se_idx (se_var 0) se_int) (se_idx (se_var 1) se_int) (hu_r hr)))))))
  (sss_one (ss_ret (sm_ex se_bl)))
  sss_nil)
  (sss_cons (ss_if (st_eq (bl_len T.b_len (sa_cons (se_var 1) sa_nil)) se_int (hu_r hr))
  (sss_one (ss_ret (sm_ex se_bl)))
  sss_nil)
  (sss_one (ss_ret (sm_ex (se_and (bl_is L T.T T.b_isinstance (sa_cons (se_idx (se_var 0) se_int) (sa_cons (ty_int T.b_int) sa_nil))) (se_and (se_not (bl_is L T.T T.b_isinstance (sa_cons (se_idx (se_var 0) se_int) (sa_cons (ty_bool T.b_bool) sa_nil)))) (se_one (se_eq (se_idx (se_var 0) se_int) (se_idx (se_var 1) se_int) (hu_r hr))))))))))
theorem sc__law_same : FnScope ["found", "due", "span"] ["found", "due"] (defScope s__law_same) := ⟨rfl, rfl, rfl, by decide +kernel, rfl, by decide +kernel, by decide +kernel⟩
theorem ok__law_same {f : Addr} {fd : FuncData} {k : Nat} (F : Fun K "_law_same" "_law_same" s__law_same f fd) (T : Wd K mg ca tb) (A : AllF P w K mg base ca kn G0 tb l_15 k) :
    FnOk P w K mg base (L2.CX P w) (k + 2) f fd ["found", "due"] (spB K ca false (callD (withD kn G0 l_15) d__law_same) (["found", "due"] : List Str).length) := by
  have Sc := sc__law_same
  have er : ErOk ca (withD kn G0 l_15) := AllF.er T.S
  have L : IsL K ca (withD kn G0 l_15) := ⟨T.L.kit, T.L.ins, T.L.exc, T.L.bt⟩
  refine fn_ok (k := k + 1) (N := ["found", "due", "span"]) (G := withD kn G0 l_15) F Sc fun cdv A0 outer s0 H0 E hr tk => ?_
  have hr0 := hr.mono (Nat.le_succ k)
  have hp := L2.passes_of (X := L2.cxOf (L2.CX P w) P w K mg base ["found", "due", "span"] "_law_same" (defScope s__law_same) f cdv A0 outer s0 H0 E) rfl
  exact (sss_cons (ss_if (st_w (sw_or (st_not (st_val (bl_is L T.T T.b_isinstance (sa_cons (se_var 0) (sa_cons (ty_tuple T.b_tuple) sa_nil))))) (sw_or1 (st_ne (bl_len T.b_len (sa_cons (se_var 0) sa_nil)) se_int (hu_r hr)))))
  (sss_one (ss_ret (sm_ex se_bl)))
  sss_nil)
  (sss_cons (ss_asg Sc.nd (sm_ex (se_idx (se_var 0) se_int)))
  (sss_cons (ss_if (st_w (sw_or (st_ne (bl_is L T.T T.b_isinstance (sa_cons (se_idx (se_var 1) se_int) (sa_cons (se_cls T.k_Half) sa_nil))) (bl_is L T.T T.b_isinstance (sa_cons (se_var 2) (sa_cons (se_cls T.k_Half) sa_nil))) (hu_r hr)) (sw_or1 (st_ne (bl_is L T.T T.b_isinstance (sa_cons (se_idx (se_var 1) se_int) (sa_cons (se_cls T.k_Open) sa_nil))) (bl_is L T.T T.b_isinstance (sa_cons (se_var 2) (sa_cons (se_cls T.k_Open) sa_nil))) (hu_r hr)))))
  (sss_one (ss_ret (sm_ex se_bl)))
  sss_nil)
  (sss_cons (ss_if (st_w (sw_or (st_not (st_val (se_meth (m := "alike") (A.mt T.S) hr0 er tk (se_var 2) (sa_cons (se_idx (se_var 1) se_int) sa_nil)))) (sw_or (st_not (st_val (se_meth (m := "alike") (A.mt T.S) hr0 er tk (se_idx (se_var 1) se_int) (sa_cons (se_var 2) sa_nil)))) (sw_or1 (st_ne (se_meth0 (m := "shown") (A.mt T.S) hr0 er tk (se_var 2)) (se_idx (se_var 1) se_int) (hu_r hr))))))
  (sss_one (ss_ret (sm_ex se_bl)))
  sss_nil)
  (sss_one (ss_ret (sm_ex (se_call (A.fn T.S T.f__law_same_told) hr0 er tk (sa_cons (se_idx (se_var 0) se_int) (sa_cons (se_idx (se_var 1) se_int) sa_nil))))))))))
theorem sc_law : FnScope ["script", "rows", "book", "handed", "text", "parts", "row", "word", "due", "told", "found", "cell"] ["script"] (defScope s_law) := ⟨rfl, rfl, rfl, by decide +kernel, rfl, by decide +kernel, by decide +kernel⟩
theorem ok_law {f : Addr} {fd : FuncData} {k : Nat} (F : Fun K "law" "law" s_law f fd) (T : Wd K mg ca tb) (A : AllF P w K mg base ca kn G0 tb l_16 k) :
    FnOk P w K mg base (L2.CX P w) (k + 2) f fd ["script"] (spB K ca false (callD (withD kn G0 l_16) d_law) (["script"] : List Str).length) := by
  have Sc := sc_law
  have er : ErOk ca (withD kn G0 l_16) := AllF.er T.S
  have L : IsL K ca (withD kn G0 l_16) := ⟨T.L.kit, T.L.ins, T.L.exc, T.L.bt⟩
  refine fn_ok (k := k + 1) (N := ["script", "rows", "book", "handed", "text", "parts", "row", "word", "due", "told", "found", "cell"]) (G := withD kn G0 l_16) F Sc fun cdv A0 outer s0 H0 E hr tk => ?_
  have hr0 := hr.mono (Nat.le_succ k)
  have hp := L2.passes_of (X := L2.cxOf (L2.CX P w) P w K mg base ["script", "rows", "book", "handed", "text", "parts", "row", "word", "due", "told", "found", "cell"] "law" (defScope s_law) f cdv A0 outer s0 H0 E) rfl
  exact (sss_cons (ss_asgLc (own := [("cell", 11)]) rfl Sc.nd (.inl rfl) (si_seq (se_slc (se_var 0) (so_some se_int) (so_some se_int))) (by show blkC ["script", "rows", "book", "handed", "text", "parts", "row", "word", "due", "told", "found", "cell"] (defScope s_law) _ _ = true; decide +kernel) (fun s H C cl fp => (sg_nm 11 Sc.nd)) (fun s H C cl fp => pts_nil') (fun s H C cl fp => (se_call (A.fn T.S T.f__law_row) hr0 er takesF (sa_cons (se_var 11) sa_nil))))
  (sss_cons (ss_asgLc (own := [("row", 6)]) rfl Sc.nd (.inl rfl) (si_seq (se_var 1)) (by show blkC ["script", "rows", "book", "handed", "text", "parts", "row", "word", "due", "told", "found", "cell"] (defScope s_law) _ _ = true; decide +kernel) (fun s H C cl fp => (sg_nm 6 Sc.nd)) (fun s H C cl fp => pts_nil') (fun s H C cl fp => (se_tup (sa_cons (se_idx (se_var 6) se_int) (sa_cons (se_idx (se_var 6) se_int) sa_nil)))))
  (sss_cons (ss_asg Sc.nd (sm_ex (bl_list T.b_list (sa_cons (se_var 2) sa_nil))))
  (sss_cons (ss_asg Sc.nd (sm_ex (se_call (A.fn T.S T.f_shown_book) hr0 er tk (sa_cons (se_var 3) sa_nil))))
  (sss_cons (ss_asg Sc.nd (sm_ex (se_lst sa_nil)))
  (sss_cons (ss_for (some [1]) hp rfl (si_seq (se_var 1)) (sg_nm 6 Sc.nd)
  (sss_cons (ss_asg Sc.nd (sm_ex (se_idx (se_idx (se_var 6) se_int) se_int)))
  (sss_cons (ss_if (st_eq (se_var 7) se_str (hu_r hr))
  (sss_one (ss_asg Sc.nd (sm_ex (bl_str T.b_str (sa_cons (se_idx (se_idx (se_var 6) se_int) se_int) sa_nil)))))
  sss_nil)
  (sss_one (ss_app (nm_ok 5) (sm_ex (se_add (se_add (se_idx (se_var 6) se_int) se_str) (se_var 7))))))))
  (sss_cons (ss_asg Sc.nd (sm_ex (se_join (se_var 5))))
  (sss_cons (ss_if (st_eq (se_var 1) (se_lst sa_nil) (hu_r hr))
  (sss_one (ss_asg Sc.nd (sm_ex se_str)))
  sss_nil)
  (sss_cons (ss_if (st_w (sw_or (st_not (st_val (bl_is L T.T T.b_isinstance (sa_cons (se_var 4) (sa_cons (ty_str T.b_str) sa_nil))))) (sw_or (st_ne (se_var 4) (se_var 8) (hu_r hr)) (sw_or1 (st_ne (bl_len T.b_len (sa_cons (se_var 3) sa_nil)) (bl_len T.b_len (sa_cons (se_var 2) sa_nil)) (hu_r hr))))))
  (sss_one (ss_ret (sm_ex se_bl)))
  sss_nil)
  (sss_cons (ss_asg Sc.nd (sm_ex (se_call (A.fn T.S T.f_read_book) hr0 er tk (sa_cons (se_var 4) sa_nil))))
  (sss_cons (ss_if (st_w (sw_or (st_not (st_val (bl_is L T.T T.b_isinstance (sa_cons (se_var 9) (sa_cons (ty_list T.b_list) sa_nil))))) (sw_or1 (st_ne (bl_len T.b_len (sa_cons (se_var 9) sa_nil)) (bl_len T.b_len (sa_cons (se_var 1) sa_nil)) (hu_r hr)))))
  (sss_one (ss_ret (sm_ex se_bl)))
  sss_nil)
  (sss_cons (ss_for (some [1, 9]) hp rfl (si_zip T.b_zip (sa_cons (se_var 9) (sa_cons (se_var 1) sa_nil))) (sg_tp rfl (sgs_cons 10 (sg_nm 10 Sc.nd) (sgs_cons 6 (sg_nm 6 Sc.nd) sgs_nil)))
  (sss_one (ss_if (st_not (st_val (se_call (A.fn T.S T.f__law_same) hr0 er tk (sa_cons (se_var 10) (sa_cons (se_var 6) sa_nil)))))
  (sss_one (ss_ret (sm_ex se_bl)))
  sss_nil)))
  (sss_one (ss_ret (sm_ex se_bl)))))))))))))))
end
theorem all_mk {P : Program} {w : World} {K : PySem.W.Frag} {h : Heap} {mg : Str → Option Value} {fa : Addr} (X : K.In h) (G : h.Ns mainGlobals mg) (hfa : mg "law" = some (.ref fa))
    {C_NoSpan C_NoText C_Span C_Half C_Open : Addr}
    {f1 : Addr} {oc1 kV1 dc1 pm1 cd1 ct1 : Value} {od1 an1 : Option Addr} {sl1 : Array (Option Value)}
    {f2 : Addr} {oc2 kV2 dc2 pm2 cd2 ct2 : Value} {od2 an2 : Option Addr} {sl2 : Array (Option Value)}
    {f3 : Addr} {oc3 kV3 dc3 pm3 cd3 ct3 : Value} {od3 an3 : Option Addr} {sl3 : Array (Option Value)}
    {f4 : Addr} {oc4 kV4 dc4 pm4 cd4 ct4 : Value} {od4 an4 : Option Addr} {sl4 : Array (Option Value)}
    {f5 : Addr} {oc5 kV5 dc5 pm5 cd5 ct5 : Value} {od5 an5 : Option Addr} {sl5 : Array (Option Value)}
    {f6 : Addr} {oc6 kV6 dc6 pm6 cd6 ct6 : Value} {od6 an6 : Option Addr} {sl6 : Array (Option Value)}
    {f7 : Addr} {oc7 kV7 dc7 pm7 cd7 ct7 : Value} {od7 an7 : Option Addr} {sl7 : Array (Option Value)}
    {f8 : Addr} {oc8 kV8 dc8 pm8 cd8 ct8 : Value} {od8 an8 : Option Addr} {sl8 : Array (Option Value)}
    {f9 : Addr} {oc9 kV9 dc9 pm9 cd9 ct9 : Value} {od9 an9 : Option Addr} {sl9 : Array (Option Value)}
    {f10 : Addr} {oc10 kV10 dc10 pm10 cd10 ct10 : Value} {od10 an10 : Option Addr} {sl10 : Array (Option Value)}
    {f11 : Addr} {oc11 kV11 dc11 pm11 cd11 ct11 : Value} {od11 an11 : Option Addr} {sl11 : Array (Option Value)}
    {f12 : Addr} {oc12 kV12 dc12 pm12 cd12 ct12 : Value} {od12 an12 : Option Addr} {sl12 : Array (Option Value)}
    {f13 : Addr} {oc13 kV13 dc13 pm13 cd13 ct13 : Value} {od13 an13 : Option Addr} {sl13 : Array (Option Value)}
    {f14 : Addr} {oc14 kV14 dc14 pm14 cd14 ct14 : Value} {od14 an14 : Option Addr} {sl14 : Array (Option Value)}
    {f15 : Addr} {oc15 kV15 dc15 pm15 cd15 ct15 : Value} {od15 an15 : Option Addr} {sl15 : Array (Option Value)}
    {f16 : Addr} {oc16 kV16 dc16 pm16 cd16 ct16 : Value} {od16 an16 : Option Addr} {sl16 : Array (Option Value)}
    {f17 : Addr} {oc17 kV17 dc17 pm17 cd17 ct17 : Value} {od17 an17 : Option Addr} {sl17 : Array (Option Value)}
    {tk_FIGURES : Tok}
    {tk_MOST_BITS : Tok}
    {tk_MOST_FIGURES : Tok}
    (g_NoSpan : PySem.W.nsIn K mainGlobals "NoSpan" = some (some (.ref C_NoSpan)))
    (g_NoText : PySem.W.nsIn K mainGlobals "NoText" = some (some (.ref C_NoText)))
    (g_Span : PySem.W.nsIn K mainGlobals "Span" = some (some (.ref C_Span)))
    (g_Half : PySem.W.nsIn K mainGlobals "Half" = some (some (.ref C_Half)))
    (g_Open : PySem.W.nsIn K mainGlobals "Open" = some (some (.ref C_Open)))
    (w1 : PySem.W.findIn K (.ref C_Span) "__init__" = some (some (.ref f1)))
    (l1 : K.lookup f1 = some ⟨oc1, od1, .func (PySem.W.fnOf "__init__" "Span.__init__" (defArgs s_Span___init__) (defBody s_Span___init__) (defScope s_Span___init__) .none kV1 dc1 pm1 an1 cd1 ct1), sl1⟩)
    (c1 : PySem.W.codeIn K cd1 "Span.__init__" = true)
    (k1 : PySem.W.keepIn K (.ref f1) = true)
    (w2 : PySem.W.findIn K (.ref C_Open) "__init__" = some (some (.ref f2)))
    (l2 : K.lookup f2 = some ⟨oc2, od2, .func (PySem.W.fnOf "__init__" "Open.__init__" (defArgs s_Open___init__) (defBody s_Open___init__) (defScope s_Open___init__) .none kV2 dc2 pm2 an2 cd2 ct2), sl2⟩)
    (c2 : PySem.W.codeIn K cd2 "Open.__init__" = true)
    (k2 : PySem.W.keepIn K (.ref f2) = true)
    (w3 : PySem.W.findIn K (.ref C_Half) "__init__" = some (some (.ref f3)))
    (l3 : K.lookup f3 = some ⟨oc3, od3, .func (PySem.W.fnOf "__init__" "Half.__init__" (defArgs s_Half___init__) (defBody s_Half___init__) (defScope s_Half___init__) .none kV3 dc3 pm3 an3 cd3 ct3), sl3⟩)
    (c3 : PySem.W.codeIn K cd3 "Half.__init__" = true)
    (k3 : PySem.W.keepIn K (.ref f3) = true)
    (a4 : PySem.W.nsIn K mainGlobals "_law_row" = some (some (.ref f4)))
    (l4 : K.lookup f4 = some ⟨oc4, od4, .func (PySem.W.fnOf "_law_row" "_law_row" (defArgs s__law_row) (defBody s__law_row) (defScope s__law_row) .none kV4 dc4 pm4 an4 cd4 ct4), sl4⟩)
    (c4 : PySem.W.codeIn K cd4 "_law_row" = true)
    (k4 : PySem.W.keepIn K (.ref f4) = true)
    (w5 : PySem.W.findIn K (.ref C_Span) "shown" = some (some (.ref f5)))
    (l5 : K.lookup f5 = some ⟨oc5, od5, .func (PySem.W.fnOf "shown" "Span.shown" (defArgs s_Span_shown) (defBody s_Span_shown) (defScope s_Span_shown) .none kV5 dc5 pm5 an5 cd5 ct5), sl5⟩)
    (c5 : PySem.W.codeIn K cd5 "Span.shown" = true)
    (k5 : PySem.W.keepIn K (.ref f5) = true)
    (w6 : PySem.W.findIn K (.ref C_Half) "shown" = some (some (.ref f6)))
    (l6 : K.lookup f6 = some ⟨oc6, od6, .func (PySem.W.fnOf "shown" "Half.shown" (defArgs s_Half_shown) (defBody s_Half_shown) (defScope s_Half_shown) .none kV6 dc6 pm6 an6 cd6 ct6), sl6⟩)
    (c6 : PySem.W.codeIn K cd6 "Half.shown" = true)
    (k6 : PySem.W.keepIn K (.ref f6) = true)
    (a7 : PySem.W.nsIn K mainGlobals "shown_heard" = some (some (.ref f7)))
    (l7 : K.lookup f7 = some ⟨oc7, od7, .func (PySem.W.fnOf "shown_heard" "shown_heard" (defArgs s_shown_heard) (defBody s_shown_heard) (defScope s_shown_heard) .none kV7 dc7 pm7 an7 cd7 ct7), sl7⟩)
    (c7 : PySem.W.codeIn K cd7 "shown_heard" = true)
    (k7 : PySem.W.keepIn K (.ref f7) = true)
    (a8 : PySem.W.nsIn K mainGlobals "shown_book" = some (some (.ref f8)))
    (l8 : K.lookup f8 = some ⟨oc8, od8, .func (PySem.W.fnOf "shown_book" "shown_book" (defArgs s_shown_book) (defBody s_shown_book) (defScope s_shown_book) .none kV8 dc8 pm8 an8 cd8 ct8), sl8⟩)
    (c8 : PySem.W.codeIn K cd8 "shown_book" = true)
    (k8 : PySem.W.keepIn K (.ref f8) = true)
    (a9 : PySem.W.nsIn K mainGlobals "number_of" = some (some (.ref f9)))
    (l9 : K.lookup f9 = some ⟨oc9, od9, .func (PySem.W.fnOf "number_of" "number_of" (defArgs s_number_of) (defBody s_number_of) (defScope s_number_of) .none kV9 dc9 pm9 an9 cd9 ct9), sl9⟩)
    (c9 : PySem.W.codeIn K cd9 "number_of" = true)
    (k9 : PySem.W.keepIn K (.ref f9) = true)
    (a10 : PySem.W.nsIn K mainGlobals "span_of" = some (some (.ref f10)))
    (l10 : K.lookup f10 = some ⟨oc10, od10, .func (PySem.W.fnOf "span_of" "span_of" (defArgs s_span_of) (defBody s_span_of) (defScope s_span_of) .none kV10 dc10 pm10 an10 cd10 ct10), sl10⟩)
    (c10 : PySem.W.codeIn K cd10 "span_of" = true)
    (k10 : PySem.W.keepIn K (.ref f10) = true)
    (a11 : PySem.W.nsIn K mainGlobals "read_span" = some (some (.ref f11)))
    (l11 : K.lookup f11 = some ⟨oc11, od11, .func (PySem.W.fnOf "read_span" "read_span" (defArgs s_read_span) (defBody s_read_span) (defScope s_read_span) .none kV11 dc11 pm11 an11 cd11 ct11), sl11⟩)
    (c11 : PySem.W.codeIn K cd11 "read_span" = true)
    (k11 : PySem.W.keepIn K (.ref f11) = true)
    (a12 : PySem.W.nsIn K mainGlobals "read_row" = some (some (.ref f12)))
    (l12 : K.lookup f12 = some ⟨oc12, od12, .func (PySem.W.fnOf "read_row" "read_row" (defArgs s_read_row) (defBody s_read_row) (defScope s_read_row) .none kV12 dc12 pm12 an12 cd12 ct12), sl12⟩)
    (c12 : PySem.W.codeIn K cd12 "read_row" = true)
    (k12 : PySem.W.keepIn K (.ref f12) = true)
    (a13 : PySem.W.nsIn K mainGlobals "read_book" = some (some (.ref f13)))
    (l13 : K.lookup f13 = some ⟨oc13, od13, .func (PySem.W.fnOf "read_book" "read_book" (defArgs s_read_book) (defBody s_read_book) (defScope s_read_book) .none kV13 dc13 pm13 an13 cd13 ct13), sl13⟩)
    (c13 : PySem.W.codeIn K cd13 "read_book" = true)
    (k13 : PySem.W.keepIn K (.ref f13) = true)
    (w14 : PySem.W.findIn K (.ref C_Span) "alike" = some (some (.ref f14)))
    (l14 : K.lookup f14 = some ⟨oc14, od14, .func (PySem.W.fnOf "alike" "Span.alike" (defArgs s_Span_alike) (defBody s_Span_alike) (defScope s_Span_alike) .none kV14 dc14 pm14 an14 cd14 ct14), sl14⟩)
    (c14 : PySem.W.codeIn K cd14 "Span.alike" = true)
    (k14 : PySem.W.keepIn K (.ref f14) = true)
    (a15 : PySem.W.nsIn K mainGlobals "_law_same_told" = some (some (.ref f15)))
    (l15 : K.lookup f15 = some ⟨oc15, od15, .func (PySem.W.fnOf "_law_same_told" "_law_same_told" (defArgs s__law_same_told) (defBody s__law_same_told) (defScope s__law_same_told) .none kV15 dc15 pm15 an15 cd15 ct15), sl15⟩)
    (c15 : PySem.W.codeIn K cd15 "_law_same_told" = true)
    (k15 : PySem.W.keepIn K (.ref f15) = true)
    (a16 : PySem.W.nsIn K mainGlobals "_law_same" = some (some (.ref f16)))
    (l16 : K.lookup f16 = some ⟨oc16, od16, .func (PySem.W.fnOf "_law_same" "_law_same" (defArgs s__law_same) (defBody s__law_same) (defScope s__law_same) .none kV16 dc16 pm16 an16 cd16 ct16), sl16⟩)
    (c16 : PySem.W.codeIn K cd16 "_law_same" = true)
    (k16 : PySem.W.keepIn K (.ref f16) = true)
    (a17 : PySem.W.nsIn K mainGlobals "law" = some (some (.ref f17)))
    (l17 : K.lookup f17 = some ⟨oc17, od17, .func (PySem.W.fnOf "law" "law" (defArgs s_law) (defBody s_law) (defScope s_law) .none kV17 dc17 pm17 an17 cd17 ct17), sl17⟩)
    (c17 : PySem.W.codeIn K cd17 "law" = true)
    (k17 : PySem.W.keepIn K (.ref f17) = true)
    (pg_Half : PySem.W.plainGet K C_Half Str.empty = true)
    (hd_Half : PySem.W.hasDictIn K C_Half = true)
    (po_Half : PySem.W.plainOver K C_Half = true)
    (sa_Half : PySem.W.findIn K (.ref C_Half) "__setattr__" = some (some (.builtin "object.__setattr__")))
    (mk_Half : PySem.W.makesIn K C_Half = true)
    (kc_Half : PySem.W.keepIn K (.ref C_Half) = true)
    (in_Half : PySem.W.findIn K (.ref C_Half) "__init__" = some (some (.ref f3)))
    (if_Half : PySem.W.isFn K (.ref f3) = true)
    (no_Half_low : PySem.W.findIn K (.ref C_Half) "low" = some none)
    (no_Half_bits : PySem.W.findIn K (.ref C_Half) "bits" = some none)
    (me_Half_shown : PySem.W.findIn K (.ref C_Half) "shown" = some (some (.ref f6)))
    (me_Half_alike : PySem.W.findIn K (.ref C_Half) "alike" = some (some (.ref f14)))
    (pg_Open : PySem.W.plainGet K C_Open Str.empty = true)
    (hd_Open : PySem.W.hasDictIn K C_Open = true)
    (po_Open : PySem.W.plainOver K C_Open = true)
    (sa_Open : PySem.W.findIn K (.ref C_Open) "__setattr__" = some (some (.builtin "object.__setattr__")))
    (mk_Open : PySem.W.makesIn K C_Open = true)
    (kc_Open : PySem.W.keepIn K (.ref C_Open) = true)
    (in_Open : PySem.W.findIn K (.ref C_Open) "__init__" = some (some (.ref f2)))
    (if_Open : PySem.W.isFn K (.ref f2) = true)
    (no_Open_low : PySem.W.findIn K (.ref C_Open) "low" = some none)
    (me_Open_shown : PySem.W.findIn K (.ref C_Open) "shown" = some (some (.ref f5)))
    (me_Open_alike : PySem.W.findIn K (.ref C_Open) "alike" = some (some (.ref f14)))
    (ia_Half : PySem.W.findIn K (.ref C_Half) "__class__" = some (some (.builtin "object.__class__")))
    (im_Half : PySem.W.mroIn K C_Half (.type "object") = some true)
    (ia_Open : PySem.W.findIn K (.ref C_Open) "__class__" = some (some (.builtin "object.__class__")))
    (im_Open : PySem.W.mroIn K C_Open (.type "object") = some true)
    (ia_Span : PySem.W.findIn K (.ref C_Span) "__class__" = some (some (.builtin "object.__class__")))
    (im_Span : PySem.W.mroIn K C_Span (.type "object") = some true)
    (fn5 : PySem.W.isFn K (.ref f5) = true)
    (fn6 : PySem.W.isFn K (.ref f6) = true)
    (fn14 : PySem.W.isFn K (.ref f14) = true)
    (iN : PySem.W.specialIn K (.builtin "object.__class__") "__get__" = some (some (.builtin "getset_descriptor.__get__")))
    (iT : PySem.W.takesIn K (.builtin "object.__class__") = some true)
    (sp_Span : PySem.W.specialIn K (.ref C_Span) "__getattribute__" = some (some (.builtin "type.__getattribute__")))
    (rd_Span : PySem.W.readsIn K C_Span (.type "type") = true)
    (fc_Span : PySem.W.findCls K (.ref C_Span) (.type "type") "__init__" = some (.val (.ref f1)))
    (xe_NoSpan : PySem.W.excIn K C_NoSpan [.type "ValueError", .type "Exception", .type "BaseException", .type "object"] "ValueError.__new__" = true)
    (xk_NoSpan : PySem.W.keepIn K (.ref C_NoSpan) = true)
    (xs_NoSpan : PySem.W.subIn K (.ref C_NoSpan) (.type "BaseException") = some true)
    (xt_NoSpan : PySem.W.typeIn K (.ref C_NoSpan) = some (.type "type"))
    (eg_NoSpan : PySem.W.findIn K (.ref C_NoSpan) "__getattribute__" = some (some (.builtin "BaseException.__getattribute__")))
    (ek_NoSpan : PySem.W.findIn K (.ref C_NoSpan) "__getattr__" = some none)
    (ed_NoSpan : PySem.W.hasDictIn K C_NoSpan = true)
    (ea_NoSpan : PySem.W.findIn K (.ref C_NoSpan) "__class__" = some (some (.builtin "object.__class__")))
    (em_NoSpan : PySem.W.mroIn K C_NoSpan (.type "object") = some true)
    (xe_NoText : PySem.W.excIn K C_NoText [.type "ValueError", .type "Exception", .type "BaseException", .type "object"] "ValueError.__new__" = true)
    (xk_NoText : PySem.W.keepIn K (.ref C_NoText) = true)
    (xs_NoText : PySem.W.subIn K (.ref C_NoText) (.type "BaseException") = some true)
    (xt_NoText : PySem.W.typeIn K (.ref C_NoText) = some (.type "type"))
    (eg_NoText : PySem.W.findIn K (.ref C_NoText) "__getattribute__" = some (some (.builtin "BaseException.__getattribute__")))
    (ek_NoText : PySem.W.findIn K (.ref C_NoText) "__getattr__" = some none)
    (ed_NoText : PySem.W.hasDictIn K C_NoText = true)
    (ea_NoText : PySem.W.findIn K (.ref C_NoText) "__class__" = some (some (.builtin "object.__class__")))
    (em_NoText : PySem.W.mroIn K C_NoText (.type "object") = some true)
    (ic_Half : PySem.W.isClsIn K C_Half = true)
    (tc_Half : PySem.W.typeIn K (.ref C_Half) = some (.type "type"))
    (ss_Half : PySem.W.subIn K (.ref C_Half) (.ref C_Half) = some true)
    (ic_NoSpan : PySem.W.isClsIn K C_NoSpan = true)
    (tc_NoSpan : PySem.W.typeIn K (.ref C_NoSpan) = some (.type "type"))
    (ss_NoSpan : PySem.W.subIn K (.ref C_NoSpan) (.ref C_NoSpan) = some true)
    (ic_Open : PySem.W.isClsIn K C_Open = true)
    (tc_Open : PySem.W.typeIn K (.ref C_Open) = some (.type "type"))
    (ss_Open : PySem.W.subIn K (.ref C_Open) (.ref C_Open) = some true)
    (su_NoneType_Half : PySem.W.subIn K (.type "NoneType") (.ref C_Half) = some false)
    (su_NoneType_NoSpan : PySem.W.subIn K (.type "NoneType") (.ref C_NoSpan) = some false)
    (su_NoneType_Open : PySem.W.subIn K (.type "NoneType") (.ref C_Open) = some false)
    (su_bool_Half : PySem.W.subIn K (.type "bool") (.ref C_Half) = some false)
    (su_bool_NoSpan : PySem.W.subIn K (.type "bool") (.ref C_NoSpan) = some false)
    (su_bool_Open : PySem.W.subIn K (.type "bool") (.ref C_Open) = some false)
    (su_int_Half : PySem.W.subIn K (.type "int") (.ref C_Half) = some false)
    (su_int_NoSpan : PySem.W.subIn K (.type "int") (.ref C_NoSpan) = some false)
    (su_int_Open : PySem.W.subIn K (.type "int") (.ref C_Open) = some false)
    (su_str_Half : PySem.W.subIn K (.type "str") (.ref C_Half) = some false)
    (su_str_NoSpan : PySem.W.subIn K (.type "str") (.ref C_NoSpan) = some false)
    (su_str_Open : PySem.W.subIn K (.type "str") (.ref C_Open) = some false)
    (su_tuple_Half : PySem.W.subIn K (.type "tuple") (.ref C_Half) = some false)
    (su_tuple_NoSpan : PySem.W.subIn K (.type "tuple") (.ref C_NoSpan) = some false)
    (su_tuple_Open : PySem.W.subIn K (.type "tuple") (.ref C_Open) = some false)
    (su_list_Half : PySem.W.subIn K (.type "list") (.ref C_Half) = some false)
    (su_list_NoSpan : PySem.W.subIn K (.type "list") (.ref C_NoSpan) = some false)
    (su_list_Open : PySem.W.subIn K (.type "list") (.ref C_Open) = some false)
    (su_Half_NoSpan : PySem.W.subIn K (.ref C_Half) (.ref C_NoSpan) = some false)
    (su_Half_Open : PySem.W.subIn K (.ref C_Half) (.ref C_Open) = some false)
    (su_Half_bool : PySem.W.subIn K (.ref C_Half) (.type "bool") = some false)
    (su_Half_int : PySem.W.subIn K (.ref C_Half) (.type "int") = some false)
    (su_Half_list : PySem.W.subIn K (.ref C_Half) (.type "list") = some false)
    (su_Half_str : PySem.W.subIn K (.ref C_Half) (.type "str") = some false)
    (su_Half_tuple : PySem.W.subIn K (.ref C_Half) (.type "tuple") = some false)
    (su_Open_Half : PySem.W.subIn K (.ref C_Open) (.ref C_Half) = some false)
    (su_Open_NoSpan : PySem.W.subIn K (.ref C_Open) (.ref C_NoSpan) = some false)
    (su_Open_bool : PySem.W.subIn K (.ref C_Open) (.type "bool") = some false)
    (su_Open_int : PySem.W.subIn K (.ref C_Open) (.type "int") = some false)
    (su_Open_list : PySem.W.subIn K (.ref C_Open) (.type "list") = some false)
    (su_Open_str : PySem.W.subIn K (.ref C_Open) (.type "str") = some false)
    (su_Open_tuple : PySem.W.subIn K (.ref C_Open) (.type "tuple") = some false)
    (su_NoSpan_Half : PySem.W.subIn K (.ref C_NoSpan) (.ref C_Half) = some false)
    (su_NoSpan_Open : PySem.W.subIn K (.ref C_NoSpan) (.ref C_Open) = some false)
    (su_NoSpan_bool : PySem.W.subIn K (.ref C_NoSpan) (.type "bool") = some false)
    (su_NoSpan_int : PySem.W.subIn K (.ref C_NoSpan) (.type "int") = some false)
    (su_NoSpan_list : PySem.W.subIn K (.ref C_NoSpan) (.type "list") = some false)
    (su_NoSpan_str : PySem.W.subIn K (.ref C_NoSpan) (.type "str") = some false)
    (su_NoSpan_tuple : PySem.W.subIn K (.ref C_NoSpan) (.type "tuple") = some false)
    (su_NoText_Half : PySem.W.subIn K (.ref C_NoText) (.ref C_Half) = some false)
    (su_NoText_NoSpan : PySem.W.subIn K (.ref C_NoText) (.ref C_NoSpan) = some false)
    (su_NoText_Open : PySem.W.subIn K (.ref C_NoText) (.ref C_Open) = some false)
    (su_NoText_bool : PySem.W.subIn K (.ref C_NoText) (.type "bool") = some false)
    (su_NoText_int : PySem.W.subIn K (.ref C_NoText) (.type "int") = some false)
    (su_NoText_list : PySem.W.subIn K (.ref C_NoText) (.type "list") = some false)
    (su_NoText_str : PySem.W.subIn K (.ref C_NoText) (.type "str") = some false)
    (su_NoText_tuple : PySem.W.subIn K (.ref C_NoText) (.type "tuple") = some false)
    (vc_FIGURES : PySem.W.nsIn K mainGlobals "FIGURES" = some (some (.str "0123456789" tk_FIGURES)))
    (vc_MOST_BITS : PySem.W.nsIn K mainGlobals "MOST_BITS" = some (some (.int 200 tk_MOST_BITS)))
    (vc_MOST_FIGURES : PySem.W.nsIn K mainGlobals "MOST_FIGURES" = some (some (.int 60 tk_MOST_FIGURES)))
    (nb_bool : PySem.W.nsIn K mainGlobals "bool" = some none)
    (nb_int : PySem.W.nsIn K mainGlobals "int" = some none)
    (nb_isinstance : PySem.W.nsIn K mainGlobals "isinstance" = some none)
    (nb_len : PySem.W.nsIn K mainGlobals "len" = some none)
    (nb_list : PySem.W.nsIn K mainGlobals "list" = some none)
    (nb_str : PySem.W.nsIn K mainGlobals "str" = some none)
    (nb_tuple : PySem.W.nsIn K mainGlobals "tuple" = some none)
    (nb_zip : PySem.W.nsIn K mainGlobals "zip" = some none)
    : ∃ (fd : FuncData) (ca : String → Option Addr), (∀ (s : Shared) (v : Value), BindsTo s fd ⟨[v], []⟩ [("script", v)]) ∧ ∀ base : Heap, K.In base → base.Ns mainGlobals mg → FnOk P w K mg base (L2.CX P w) 34 fa fd ["script"] (spF K ca (cfOf kn G0 l_17 "law") 1) := by
  have e := hfa.symm.trans (PySem.W.mg_of X G a17)
  have ef : fa = f17 := by cases e; rfl
  have F1 := fun_mk (st := s_Span___init__) l1 c1 k1
  have b1 := F1.binds (ps := ["self", "low"]) fun _ _ _ _ _ _ us hl => match us, hl with | [_, _], _ => rfl
  have F2 := fun_mk (st := s_Open___init__) l2 c2 k2
  have b2 := F2.binds (ps := ["self", "low"]) fun _ _ _ _ _ _ us hl => match us, hl with | [_, _], _ => rfl
  have F3 := fun_mk (st := s_Half___init__) l3 c3 k3
  have b3 := F3.binds (ps := ["self", "low", "bits"]) fun _ _ _ _ _ _ us hl => match us, hl with | [_, _, _], _ => rfl
  have F4 := fun_mk (st := s__law_row) l4 c4 k4
  have b4 := F4.binds (ps := ["cell"]) fun _ _ _ _ _ _ us hl => match us, hl with | [_], _ => rfl
  have F5 := fun_mk (st := s_Span_shown) l5 c5 k5
  have b5 := F5.binds (ps := ["self"]) fun _ _ _ _ _ _ us hl => match us, hl with | [_], _ => rfl
  have F6 := fun_mk (st := s_Half_shown) l6 c6 k6
  have b6 := F6.binds (ps := ["self"]) fun _ _ _ _ _ _ us hl => match us, hl with | [_], _ => rfl
  have F7 := fun_mk (st := s_shown_heard) l7 c7 k7
  have b7 := F7.binds (ps := ["heard_so"]) fun _ _ _ _ _ _ us hl => match us, hl with | [_], _ => rfl
  have F8 := fun_mk (st := s_shown_book) l8 c8 k8
  have b8 := F8.binds (ps := ["book"]) fun _ _ _ _ _ _ us hl => match us, hl with | [_], _ => rfl
  have F9 := fun_mk (st := s_number_of) l9 c9 k9
  have b9 := F9.binds (ps := ["word"]) fun _ _ _ _ _ _ us hl => match us, hl with | [_], _ => rfl
  have F10 := fun_mk (st := s_span_of) l10 c10 k10
  have b10 := F10.binds (ps := ["low", "bits"]) fun _ _ _ _ _ _ us hl => match us, hl with | [_, _], _ => rfl
  have F11 := fun_mk (st := s_read_span) l11 c11 k11
  have b11 := F11.binds (ps := ["word"]) fun _ _ _ _ _ _ us hl => match us, hl with | [_], _ => rfl
  have F12 := fun_mk (st := s_read_row) l12 c12 k12
  have b12 := F12.binds (ps := ["row"]) fun _ _ _ _ _ _ us hl => match us, hl with | [_], _ => rfl
  have F13 := fun_mk (st := s_read_book) l13 c13 k13
  have b13 := F13.binds (ps := ["text"]) fun _ _ _ _ _ _ us hl => match us, hl with | [_], _ => rfl
  have F14 := fun_mk (st := s_Span_alike) l14 c14 k14
  have b14 := F14.binds (ps := ["self", "other"]) fun _ _ _ _ _ _ us hl => match us, hl with | [_, _], _ => rfl
  have F15 := fun_mk (st := s__law_same_told) l15 c15 k15
  have b15 := F15.binds (ps := ["one", "other"]) fun _ _ _ _ _ _ us hl => match us, hl with | [_, _], _ => rfl
  have F16 := fun_mk (st := s__law_same) l16 c16 k16
  have b16 := F16.binds (ps := ["found", "due"]) fun _ _ _ _ _ _ us hl => match us, hl with | [_, _], _ => rfl
  have F17 := fun_mk (st := s_law) l17 c17 k17
  have b17 := F17.binds (ps := ["script"]) fun _ _ _ _ _ _ us hl => match us, hl with | [_], _ => rfl
  let caL : List (String × Addr) := [("NoSpan", C_NoSpan), ("NoText", C_NoText), ("Span", C_Span), ("Half", C_Half), ("Open", C_Open)]
  let ca : String → Option Addr := fun c => caL.lookup c
  let tbL : List (String × (Addr × FuncData × List Str × Bool)) := [("Span.__init__", (f1, PySem.W.fnOf "__init__" "Span.__init__" (defArgs s_Span___init__) (defBody s_Span___init__) (defScope s_Span___init__) .none kV1 dc1 pm1 an1 cd1 ct1, (["self", "low"] : List Str), true)),
    ("Open.__init__", (f2, PySem.W.fnOf "__init__" "Open.__init__" (defArgs s_Open___init__) (defBody s_Open___init__) (defScope s_Open___init__) .none kV2 dc2 pm2 an2 cd2 ct2, (["self", "low"] : List Str), true)),
    ("Half.__init__", (f3, PySem.W.fnOf "__init__" "Half.__init__" (defArgs s_Half___init__) (defBody s_Half___init__) (defScope s_Half___init__) .none kV3 dc3 pm3 an3 cd3 ct3, (["self", "low", "bits"] : List Str), true)),
    ("_law_row", (f4, PySem.W.fnOf "_law_row" "_law_row" (defArgs s__law_row) (defBody s__law_row) (defScope s__law_row) .none kV4 dc4 pm4 an4 cd4 ct4, (["cell"] : List Str), false)),
    ("Span.shown", (f5, PySem.W.fnOf "shown" "Span.shown" (defArgs s_Span_shown) (defBody s_Span_shown) (defScope s_Span_shown) .none kV5 dc5 pm5 an5 cd5 ct5, (["self"] : List Str), false)),
    ("Half.shown", (f6, PySem.W.fnOf "shown" "Half.shown" (defArgs s_Half_shown) (defBody s_Half_shown) (defScope s_Half_shown) .none kV6 dc6 pm6 an6 cd6 ct6, (["self"] : List Str), false)),
    ("shown_heard", (f7, PySem.W.fnOf "shown_heard" "shown_heard" (defArgs s_shown_heard) (defBody s_shown_heard) (defScope s_shown_heard) .none kV7 dc7 pm7 an7 cd7 ct7, (["heard_so"] : List Str), false)),
    ("shown_book", (f8, PySem.W.fnOf "shown_book" "shown_book" (defArgs s_shown_book) (defBody s_shown_book) (defScope s_shown_book) .none kV8 dc8 pm8 an8 cd8 ct8, (["book"] : List Str), false)),
    ("number_of", (f9, PySem.W.fnOf "number_of" "number_of" (defArgs s_number_of) (defBody s_number_of) (defScope s_number_of) .none kV9 dc9 pm9 an9 cd9 ct9, (["word"] : List Str), false)),
    ("span_of", (f10, PySem.W.fnOf "span_of" "span_of" (defArgs s_span_of) (defBody s_span_of) (defScope s_span_of) .none kV10 dc10 pm10 an10 cd10 ct10, (["low", "bits"] : List Str), false)),
    ("read_span", (f11, PySem.W.fnOf "read_span" "read_span" (defArgs s_read_span) (defBody s_read_span) (defScope s_read_span) .none kV11 dc11 pm11 an11 cd11 ct11, (["word"] : List Str), false)),
    ("read_row", (f12, PySem.W.fnOf "read_row" "read_row" (defArgs s_read_row) (defBody s_read_row) (defScope s_read_row) .none kV12 dc12 pm12 an12 cd12 ct12, (["row"] : List Str), false)),
    ("read_book", (f13, PySem.W.fnOf "read_book" "read_book" (defArgs s_read_book) (defBody s_read_book) (defScope s_read_book) .none kV13 dc13 pm13 an13 cd13 ct13, (["text"] : List Str), false)),
    ("Span.alike", (f14, PySem.W.fnOf "alike" "Span.alike" (defArgs s_Span_alike) (defBody s_Span_alike) (defScope s_Span_alike) .none kV14 dc14 pm14 an14 cd14 ct14, (["self", "other"] : List Str), false)),
    ("_law_same_told", (f15, PySem.W.fnOf "_law_same_told" "_law_same_told" (defArgs s__law_same_told) (defBody s__law_same_told) (defScope s__law_same_told) .none kV15 dc15 pm15 an15 cd15 ct15, (["one", "other"] : List Str), false)),
    ("_law_same", (f16, PySem.W.fnOf "_law_same" "_law_same" (defArgs s__law_same) (defBody s__law_same) (defScope s__law_same) .none kV16 dc16 pm16 an16 cd16 ct16, (["found", "due"] : List Str), false)),
    ("law", (f17, PySem.W.fnOf "law" "law" (defArgs s_law) (defBody s_law) (defScope s_law) .none kV17 dc17 pm17 an17 cd17 ct17, (["script"] : List Str), false))]
  let tb : TB := fun k => tbL.lookup k
  have S : Stat K mg ca kn G0 tb := by
    refine ⟨fun fk f fd ps b h => ?_, fun c i m fk h1 h2 => ?_, ⟨fun c C i f hc hi hf => ?_⟩, fun c h => ?_⟩
    · exact lookup_all (l := tbL) (Q := fun _ (x : Addr × FuncData × List Str × Bool) => PySem.W.keepIn K (.ref x.1) = true ∧ Binds K x.2.1 x.2.2.1 []) (List.forall_mem_cons.mpr ⟨(⟨k1, b1⟩), List.forall_mem_cons.mpr ⟨(⟨k2, b2⟩), List.forall_mem_cons.mpr ⟨(⟨k3, b3⟩), List.forall_mem_cons.mpr ⟨(⟨k4, b4⟩), List.forall_mem_cons.mpr ⟨(⟨k5, b5⟩), List.forall_mem_cons.mpr ⟨(⟨k6, b6⟩), List.forall_mem_cons.mpr ⟨(⟨k7, b7⟩), List.forall_mem_cons.mpr ⟨(⟨k8, b8⟩), List.forall_mem_cons.mpr ⟨(⟨k9, b9⟩), List.forall_mem_cons.mpr ⟨(⟨k10, b10⟩), List.forall_mem_cons.mpr ⟨(⟨k11, b11⟩), List.forall_mem_cons.mpr ⟨(⟨k12, b12⟩), List.forall_mem_cons.mpr ⟨(⟨k13, b13⟩), List.forall_mem_cons.mpr ⟨(⟨k14, b14⟩), List.forall_mem_cons.mpr ⟨(⟨k15, b15⟩), List.forall_mem_cons.mpr ⟨(⟨k16, b16⟩), List.forall_mem_cons.mpr ⟨(⟨k17, b17⟩), fun _ m => (List.not_mem_nil m).elim⟩⟩⟩⟩⟩⟩⟩⟩⟩⟩⟩⟩⟩⟩⟩⟩⟩) fk _ h
    · exact lookup_all (l := clsL) (Q := fun c (i : ClsI) => ∀ m fk, i.meths.lookup m = some fk → ∃ C f fd ps, ca c = some C ∧ Meth K C (Str.ofString m) f ∧ tb fk = some (f, fd, ps, false)) (List.forall_mem_cons.mpr ⟨(fun m fk h => lookup_all (l := [("shown","Half.shown"), ("alike","Span.alike")]) (Q := fun m fk => ∃ C f fd ps, ca "Half" = some C ∧ Meth K C (Str.ofString m) f ∧ tb fk = some (f, fd, ps, false)) (List.forall_mem_cons.mpr ⟨(⟨C_Half, f6, _, _, rfl, ⟨me_Half_shown, fn6, k6⟩, rfl⟩), List.forall_mem_cons.mpr ⟨(⟨C_Half, f14, _, _, rfl, ⟨me_Half_alike, fn14, k14⟩, rfl⟩), fun _ m => (List.not_mem_nil m).elim⟩⟩) m fk h), List.forall_mem_cons.mpr ⟨(fun m fk h => lookup_all (l := [("shown","Span.shown"), ("alike","Span.alike")]) (Q := fun m fk => ∃ C f fd ps, ca "Open" = some C ∧ Meth K C (Str.ofString m) f ∧ tb fk = some (f, fd, ps, false)) (List.forall_mem_cons.mpr ⟨(⟨C_Open, f5, _, _, rfl, ⟨me_Open_shown, fn5, k5⟩, rfl⟩), List.forall_mem_cons.mpr ⟨(⟨C_Open, f14, _, _, rfl, ⟨me_Open_alike, fn14, k14⟩, rfl⟩), fun _ m => (List.not_mem_nil m).elim⟩⟩) m fk h), List.forall_mem_cons.mpr ⟨(fun m fk h => by cases h), fun _ m => (List.not_mem_nil m).elim⟩⟩⟩) c i h1 m fk h2
    · exact lookup_all (l := clsL) (Q := fun c (i : ClsI) => ∀ C f, ca c = some C → f ∈ i.fields → NoAttr K C (Str.ofString f)) (List.forall_mem_cons.mpr ⟨(fun C f hc hf => by cases (show some C_Half = some C from hc); exact (show ∀ f ∈ (["low", "bits"] : List String), NoAttr K C_Half (Str.ofString f) from List.forall_mem_cons.mpr ⟨(no_Half_low), List.forall_mem_cons.mpr ⟨(no_Half_bits), fun _ m => (List.not_mem_nil m).elim⟩⟩) f hf), List.forall_mem_cons.mpr ⟨(fun C f hc hf => by cases (show some C_Open = some C from hc); exact (show ∀ f ∈ (["low"] : List String), NoAttr K C_Open (Str.ofString f) from List.forall_mem_cons.mpr ⟨(no_Open_low), fun _ m => (List.not_mem_nil m).elim⟩) f hf), List.forall_mem_cons.mpr ⟨(fun C f hc hf => (List.not_mem_nil hf).elim), fun _ m => (List.not_mem_nil m).elim⟩⟩⟩) c i hi C f hc hf
    · have h2 : c ∈ (["NoSpan", "NoText"] : List String) := List.contains_iff_mem.mp h
      exact (show ∀ c ∈ (["NoSpan", "NoText"] : List String), ∃ C, ca c = some C from List.forall_mem_cons.mpr ⟨(⟨C_NoSpan, rfl⟩), List.forall_mem_cons.mpr ⟨(⟨C_NoText, rfl⟩), fun _ m => (List.not_mem_nil m).elim⟩⟩) c h2
  have L : IsL K ca G0 := by
    refine ⟨fun t n b h => ?_, fun c C i hi hc => ?_, fun c C hi hc => ?_, fun n hn => ?_⟩
    · obtain ⟨r, h1, h2⟩ := Option.bind_eq_some_iff.mp h
      exact lookup_all (l := isL) (Q := fun t (r : List (String × Bool)) => ∀ n b, r.lookup n = some b → PySem.W.kitOne K (tv ca t) (tv ca n) = some b) (List.forall_mem_cons.mpr ⟨(fun n b h => lookup_all (l := [("Half",false), ("NoSpan",false), ("Open",false), ("bool",false), ("int",false), ("list",false), ("str",false), ("tuple",false)]) (Q := fun n b => PySem.W.kitOne K (tv ca "NoneType") (tv ca n) = some b) (List.forall_mem_cons.mpr ⟨(kit_cls ic_Half tc_Half ss_Half su_NoneType_Half), List.forall_mem_cons.mpr ⟨(kit_cls ic_NoSpan tc_NoSpan ss_NoSpan su_NoneType_NoSpan), List.forall_mem_cons.mpr ⟨(kit_cls ic_Open tc_Open ss_Open su_NoneType_Open), List.forall_mem_cons.mpr ⟨(kit_ty rfl), List.forall_mem_cons.mpr ⟨(kit_ty rfl), List.forall_mem_cons.mpr ⟨(kit_ty rfl), List.forall_mem_cons.mpr ⟨(kit_ty rfl), List.forall_mem_cons.mpr ⟨(kit_ty rfl), fun _ m => (List.not_mem_nil m).elim⟩⟩⟩⟩⟩⟩⟩⟩) n b h), List.forall_mem_cons.mpr ⟨(fun n b h => lookup_all (l := [("Half",false), ("NoSpan",false), ("Open",false), ("bool",true), ("int",true), ("list",false), ("str",false), ("tuple",false)]) (Q := fun n b => PySem.W.kitOne K (tv ca "bool") (tv ca n) = some b) (List.forall_mem_cons.mpr ⟨(kit_cls ic_Half tc_Half ss_Half su_bool_Half), List.forall_mem_cons.mpr ⟨(kit_cls ic_NoSpan tc_NoSpan ss_NoSpan su_bool_NoSpan), List.forall_mem_cons.mpr ⟨(kit_cls ic_Open tc_Open ss_Open su_bool_Open), List.forall_mem_cons.mpr ⟨(kit_ty rfl), List.forall_mem_cons.mpr ⟨(kit_ty rfl), List.forall_mem_cons.mpr ⟨(kit_ty rfl), List.forall_mem_cons.mpr ⟨(kit_ty rfl), List.forall_mem_cons.mpr ⟨(kit_ty rfl), fun _ m => (List.not_mem_nil m).elim⟩⟩⟩⟩⟩⟩⟩⟩) n b h), List.forall_mem_cons.mpr ⟨(fun n b h => lookup_all (l := [("Half",false), ("NoSpan",false), ("Open",false), ("bool",false), ("int",true), ("list",false), ("str",false), ("tuple",false)]) (Q := fun n b => PySem.W.kitOne K (tv ca "int") (tv ca n) = some b) (List.forall_mem_cons.mpr ⟨(kit_cls ic_Half tc_Half ss_Half su_int_Half), List.forall_mem_cons.mpr ⟨(kit_cls ic_NoSpan tc_NoSpan ss_NoSpan su_int_NoSpan), List.forall_mem_cons.mpr ⟨(kit_cls ic_Open tc_Open ss_Open su_int_Open), List.forall_mem_cons.mpr ⟨(kit_ty rfl), List.forall_mem_cons.mpr ⟨(kit_ty rfl), List.forall_mem_cons.mpr ⟨(kit_ty rfl), List.forall_mem_cons.mpr ⟨(kit_ty rfl), List.forall_mem_cons.mpr ⟨(kit_ty rfl), fun _ m => (List.not_mem_nil m).elim⟩⟩⟩⟩⟩⟩⟩⟩) n b h), List.forall_mem_cons.mpr ⟨(fun n b h => lookup_all (l := [("Half",false), ("NoSpan",false), ("Open",false), ("bool",false), ("int",false), ("list",false), ("str",true), ("tuple",false)]) (Q := fun n b => PySem.W.kitOne K (tv ca "str") (tv ca n) = some b) (List.forall_mem_cons.mpr ⟨(kit_cls ic_Half tc_Half ss_Half su_str_Half), List.forall_mem_cons.mpr ⟨(kit_cls ic_NoSpan tc_NoSpan ss_NoSpan su_str_NoSpan), List.forall_mem_cons.mpr ⟨(kit_cls ic_Open tc_Open ss_Open su_str_Open), List.forall_mem_cons.mpr ⟨(kit_ty rfl), List.forall_mem_cons.mpr ⟨(kit_ty rfl), List.forall_mem_cons.mpr ⟨(kit_ty rfl), List.forall_mem_cons.mpr ⟨(kit_ty rfl), List.forall_mem_cons.mpr ⟨(kit_ty rfl), fun _ m => (List.not_mem_nil m).elim⟩⟩⟩⟩⟩⟩⟩⟩) n b h), List.forall_mem_cons.mpr ⟨(fun n b h => lookup_all (l := [("Half",false), ("NoSpan",false), ("Open",false), ("bool",false), ("int",false), ("list",false), ("str",false), ("tuple",true)]) (Q := fun n b => PySem.W.kitOne K (tv ca "tuple") (tv ca n) = some b) (List.forall_mem_cons.mpr ⟨(kit_cls ic_Half tc_Half ss_Half su_tuple_Half), List.forall_mem_cons.mpr ⟨(kit_cls ic_NoSpan tc_NoSpan ss_NoSpan su_tuple_NoSpan), List.forall_mem_cons.mpr ⟨(kit_cls ic_Open tc_Open ss_Open su_tuple_Open), List.forall_mem_cons.mpr ⟨(kit_ty rfl), List.forall_mem_cons.mpr ⟨(kit_ty rfl), List.forall_mem_cons.mpr ⟨(kit_ty rfl), List.forall_mem_cons.mpr ⟨(kit_ty rfl), List.forall_mem_cons.mpr ⟨(kit_ty rfl), fun _ m => (List.not_mem_nil m).elim⟩⟩⟩⟩⟩⟩⟩⟩) n b h), List.forall_mem_cons.mpr ⟨(fun n b h => lookup_all (l := [("Half",false), ("NoSpan",false), ("Open",false), ("bool",false), ("int",false), ("list",true), ("str",false), ("tuple",false)]) (Q := fun n b => PySem.W.kitOne K (tv ca "list") (tv ca n) = some b) (List.forall_mem_cons.mpr ⟨(kit_cls ic_Half tc_Half ss_Half su_list_Half), List.forall_mem_cons.mpr ⟨(kit_cls ic_NoSpan tc_NoSpan ss_NoSpan su_list_NoSpan), List.forall_mem_cons.mpr ⟨(kit_cls ic_Open tc_Open ss_Open su_list_Open), List.forall_mem_cons.mpr ⟨(kit_ty rfl), List.forall_mem_cons.mpr ⟨(kit_ty rfl), List.forall_mem_cons.mpr ⟨(kit_ty rfl), List.forall_mem_cons.mpr ⟨(kit_ty rfl), List.forall_mem_cons.mpr ⟨(kit_ty rfl), fun _ m => (List.not_mem_nil m).elim⟩⟩⟩⟩⟩⟩⟩⟩) n b h), List.forall_mem_cons.mpr ⟨(fun n b h => lookup_all (l := [("Half",true), ("NoSpan",false), ("Open",false), ("bool",false), ("int",false), ("list",false), ("str",false), ("tuple",false)]) (Q := fun n b => PySem.W.kitOne K (tv ca "Half") (tv ca n) = some b) (List.forall_mem_cons.mpr ⟨(kit_cls ic_Half tc_Half ss_Half ss_Half), List.forall_mem_cons.mpr ⟨(kit_cls ic_NoSpan tc_NoSpan ss_NoSpan su_Half_NoSpan), List.forall_mem_cons.mpr ⟨(kit_cls ic_Open tc_Open ss_Open su_Half_Open), List.forall_mem_cons.mpr ⟨(kit_tyR (by decide +kernel) su_Half_bool), List.forall_mem_cons.mpr ⟨(kit_tyR (by decide +kernel) su_Half_int), List.forall_mem_cons.mpr ⟨(kit_tyR (by decide +kernel) su_Half_list), List.forall_mem_cons.mpr ⟨(kit_tyR (by decide +kernel) su_Half_str), List.forall_mem_cons.mpr ⟨(kit_tyR (by decide +kernel) su_Half_tuple), fun _ m => (List.not_mem_nil m).elim⟩⟩⟩⟩⟩⟩⟩⟩) n b h), List.forall_mem_cons.mpr ⟨(fun n b h => lookup_all (l := [("Half",false), ("NoSpan",false), ("Open",true), ("bool",false), ("int",false), ("list",false), ("str",false), ("tuple",false)]) (Q := fun n b => PySem.W.kitOne K (tv ca "Open") (tv ca n) = some b) (List.forall_mem_cons.mpr ⟨(kit_cls ic_Half tc_Half ss_Half su_Open_Half), List.forall_mem_cons.mpr ⟨(kit_cls ic_NoSpan tc_NoSpan ss_NoSpan su_Open_NoSpan), List.forall_mem_cons.mpr ⟨(kit_cls ic_Open tc_Open ss_Open ss_Open), List.forall_mem_cons.mpr ⟨(kit_tyR (by decide +kernel) su_Open_bool), List.forall_mem_cons.mpr ⟨(kit_tyR (by decide +kernel) su_Open_int), List.forall_mem_cons.mpr ⟨(kit_tyR (by decide +kernel) su_Open_list), List.forall_mem_cons.mpr ⟨(kit_tyR (by decide +kernel) su_Open_str), List.forall_mem_cons.mpr ⟨(kit_tyR (by decide +kernel) su_Open_tuple), fun _ m => (List.not_mem_nil m).elim⟩⟩⟩⟩⟩⟩⟩⟩) n b h), List.forall_mem_cons.mpr ⟨(fun n b h => lookup_all (l := [("Half",false), ("NoSpan",true), ("Open",false), ("bool",false), ("int",false), ("list",false), ("str",false), ("tuple",false)]) (Q := fun n b => PySem.W.kitOne K (tv ca "NoSpan") (tv ca n) = some b) (List.forall_mem_cons.mpr ⟨(kit_cls ic_Half tc_Half ss_Half su_NoSpan_Half), List.forall_mem_cons.mpr ⟨(kit_cls ic_NoSpan tc_NoSpan ss_NoSpan ss_NoSpan), List.forall_mem_cons.mpr ⟨(kit_cls ic_Open tc_Open ss_Open su_NoSpan_Open), List.forall_mem_cons.mpr ⟨(kit_tyR (by decide +kernel) su_NoSpan_bool), List.forall_mem_cons.mpr ⟨(kit_tyR (by decide +kernel) su_NoSpan_int), List.forall_mem_cons.mpr ⟨(kit_tyR (by decide +kernel) su_NoSpan_list), List.forall_mem_cons.mpr ⟨(kit_tyR (by decide +kernel) su_NoSpan_str), List.forall_mem_cons.mpr ⟨(kit_tyR (by decide +kernel) su_NoSpan_tuple), fun _ m => (List.not_mem_nil m).elim⟩⟩⟩⟩⟩⟩⟩⟩) n b h), List.forall_mem_cons.mpr ⟨(fun n b h => lookup_all (l := [("Half",false), ("NoSpan",false), ("Open",false), ("bool",false), ("int",false), ("list",false), ("str",false), ("tuple",false)]) (Q := fun n b => PySem.W.kitOne K (tv ca "NoText") (tv ca n) = some b) (List.forall_mem_cons.mpr ⟨(kit_cls ic_Half tc_Half ss_Half su_NoText_Half), List.forall_mem_cons.mpr ⟨(kit_cls ic_NoSpan tc_NoSpan ss_NoSpan su_NoText_NoSpan), List.forall_mem_cons.mpr ⟨(kit_cls ic_Open tc_Open ss_Open su_NoText_Open), List.forall_mem_cons.mpr ⟨(kit_tyR (by decide +kernel) su_NoText_bool), List.forall_mem_cons.mpr ⟨(kit_tyR (by decide +kernel) su_NoText_int), List.forall_mem_cons.mpr ⟨(kit_tyR (by decide +kernel) su_NoText_list), List.forall_mem_cons.mpr ⟨(kit_tyR (by decide +kernel) su_NoText_str), List.forall_mem_cons.mpr ⟨(kit_tyR (by decide +kernel) su_NoText_tuple), fun _ m => (List.not_mem_nil m).elim⟩⟩⟩⟩⟩⟩⟩⟩) n b h), fun _ m => (List.not_mem_nil m).elim⟩⟩⟩⟩⟩⟩⟩⟩⟩⟩) t r h1 n b h2
    · exact lookup_all (l := clsL) (Q := fun c (_ : ClsI) => ∀ C, ca c = some C → InsC K C) (List.forall_mem_cons.mpr ⟨(fun C hc => by cases (show some C_Half = some C from hc); exact ⟨ia_Half, iN, iT, im_Half⟩), List.forall_mem_cons.mpr ⟨(fun C hc => by cases (show some C_Open = some C from hc); exact ⟨ia_Open, iN, iT, im_Open⟩), List.forall_mem_cons.mpr ⟨(fun C hc => by cases (show some C_Span = some C from hc); exact ⟨ia_Span, iN, iT, im_Span⟩), fun _ m => (List.not_mem_nil m).elim⟩⟩⟩) c i hi C hc
    · exact lookup_all (l := caL) (Q := fun c (C : Addr) => G0.ci c = none → ExcC K C) (List.forall_mem_cons.mpr ⟨(fun _ => ⟨eg_NoSpan, ek_NoSpan, xs_NoSpan, ed_NoSpan, ea_NoSpan, iN, iT, em_NoSpan⟩), List.forall_mem_cons.mpr ⟨(fun _ => ⟨eg_NoText, ek_NoText, xs_NoText, ed_NoText, ea_NoText, iN, iT, em_NoText⟩), List.forall_mem_cons.mpr ⟨(fun z => by cases z), List.forall_mem_cons.mpr ⟨(fun z => by cases z), List.forall_mem_cons.mpr ⟨(fun z => by cases z), fun _ m => (List.not_mem_nil m).elim⟩⟩⟩⟩⟩) c C hc hi
    · exact (show ∀ n ∈ (["NoneType", "bool", "int", "str", "tuple", "list"] : List String), ca n = none from List.forall_mem_cons.mpr ⟨(rfl), List.forall_mem_cons.mpr ⟨(rfl), List.forall_mem_cons.mpr ⟨(rfl), List.forall_mem_cons.mpr ⟨(rfl), List.forall_mem_cons.mpr ⟨(rfl), List.forall_mem_cons.mpr ⟨(rfl), fun _ m => (List.not_mem_nil m).elim⟩⟩⟩⟩⟩⟩) n hn
  have TT : TyOk ca := ⟨fun n hn => (show ∀ n ∈ (["NoneType", "bool", "int", "str", "tuple", "list", "ValueError", "dict"] : List String), ca n = none from List.forall_mem_cons.mpr ⟨(rfl), List.forall_mem_cons.mpr ⟨(rfl), List.forall_mem_cons.mpr ⟨(rfl), List.forall_mem_cons.mpr ⟨(rfl), List.forall_mem_cons.mpr ⟨(rfl), List.forall_mem_cons.mpr ⟨(rfl), List.forall_mem_cons.mpr ⟨(rfl), List.forall_mem_cons.mpr ⟨(rfl), fun _ m => (List.not_mem_nil m).elim⟩⟩⟩⟩⟩⟩⟩⟩) n hn⟩
  have T : Wd K mg ca tb := {
    S := S,
    L := L,
    T := TT,
    b_bool := PySem.W.mg_none_of X G nb_bool,
    b_int := PySem.W.mg_none_of X G nb_int,
    b_isinstance := PySem.W.mg_none_of X G nb_isinstance,
    b_len := PySem.W.mg_none_of X G nb_len,
    b_list := PySem.W.mg_none_of X G nb_list,
    b_str := PySem.W.mg_none_of X G nb_str,
    b_tuple := PySem.W.mg_none_of X G nb_tuple,
    b_zip := PySem.W.mg_none_of X G nb_zip,
    k_Half := ⟨C_Half, rfl, PySem.W.mg_of X G g_Half⟩,
    k_Open := ⟨C_Open, rfl, PySem.W.mg_of X G g_Open⟩,
    v_FIGURES := ⟨tk_FIGURES, PySem.W.mg_of X G vc_FIGURES⟩,
    v_MOST_BITS := ⟨tk_MOST_BITS, PySem.W.mg_of X G vc_MOST_BITS⟩,
    v_MOST_FIGURES := ⟨tk_MOST_FIGURES, PySem.W.mg_of X G vc_MOST_FIGURES⟩,
    c_Half := ⟨_, C_Half, _, _, _, rfl, rfl, ⟨mk_Half, in_Half, if_Half, kc_Half⟩, ⟨pg_Half, hd_Half, po_Half, sa_Half⟩, PySem.W.mg_of X G g_Half, rfl⟩,
    c_Open := ⟨_, C_Open, _, _, _, rfl, rfl, ⟨mk_Open, in_Open, if_Open, kc_Open⟩, ⟨pg_Open, hd_Open, po_Open, sa_Open⟩, PySem.W.mg_of X G g_Open, rfl⟩,
    s_Span := ⟨C_Span, _, _, _, PySem.W.mg_of X G g_Span, sp_Span, rd_Span, fc_Span, rfl⟩,
    x_NoSpan := ⟨C_NoSpan, _, _, _, _, rfl, PySem.F.excBase_ValueError, xe_NoSpan, PySem.W.mg_of X G g_NoSpan, xk_NoSpan, xs_NoSpan, xt_NoSpan⟩,
    x_NoText := ⟨C_NoText, _, _, _, _, rfl, PySem.F.excBase_ValueError, xe_NoText, PySem.W.mg_of X G g_NoText, xk_NoText, xs_NoText, xt_NoText⟩,
    h_NoSpan := ⟨.ref C_NoSpan, PySem.W.mg_of X G g_NoSpan, ⟨fun t b C ht hC => (lookup_all (l := caL) (Q := fun t (C : Addr) => ∀ b, G0.isT t "NoSpan" = some b → PySem.W.exmOne K (.ref C) (.ref C_NoSpan) = some b) (List.forall_mem_cons.mpr ⟨(fun b hb => by cases (show some true = some b from hb); exact exm_cls xs_NoSpan ic_NoSpan tc_NoSpan ss_NoSpan), List.forall_mem_cons.mpr ⟨(fun b hb => by cases (show some false = some b from hb); exact exm_cls xs_NoSpan ic_NoSpan tc_NoSpan su_NoText_NoSpan), List.forall_mem_cons.mpr ⟨(fun b hb => by cases hb), List.forall_mem_cons.mpr ⟨(fun b hb => by cases (show some false = some b from hb); exact exm_cls xs_NoSpan ic_NoSpan tc_NoSpan su_Half_NoSpan), List.forall_mem_cons.mpr ⟨(fun b hb => by cases (show some false = some b from hb); exact exm_cls xs_NoSpan ic_NoSpan tc_NoSpan su_Open_NoSpan), fun _ m => (List.not_mem_nil m).elim⟩⟩⟩⟩⟩) t C hC b ht)⟩⟩,
    f__law_row := ⟨f4, _, _, rfl, PySem.W.mg_of X G a4⟩,
    f__law_same := ⟨f16, _, _, rfl, PySem.W.mg_of X G a16⟩,
    f__law_same_told := ⟨f15, _, _, rfl, PySem.W.mg_of X G a15⟩,
    f_number_of := ⟨f9, _, _, rfl, PySem.W.mg_of X G a9⟩,
    f_read_book := ⟨f13, _, _, rfl, PySem.W.mg_of X G a13⟩,
    f_read_row := ⟨f12, _, _, rfl, PySem.W.mg_of X G a12⟩,
    f_read_span := ⟨f11, _, _, rfl, PySem.W.mg_of X G a11⟩,
    f_shown_book := ⟨f8, _, _, rfl, PySem.W.mg_of X G a8⟩,
    f_shown_heard := ⟨f7, _, _, rfl, PySem.W.mg_of X G a7⟩,
    f_span_of := ⟨f10, _, _, rfl, PySem.W.mg_of X G a10⟩ }
  refine ⟨_, ca, fun s v => (show BindsTo s (PySem.W.fnOf "law" "law" (defArgs s_law) (defBody s_law) (defScope s_law) .none kV17 dc17 pm17 an17 cd17 ct17) ⟨[v], []⟩ [("script", v)] from .of_eq rfl), fun base _ _ => ?_⟩
  have A0 : AllF P w K mg base ca kn G0 tb l_0 0 := AllF.nil
  have A1 : AllF P w K mg base ca kn G0 tb l_1 2 := (A0.mono (Nat.le_succ 0)).cons (fk := "Span.__init__") (f := f1) (b := true) (d := d_Span___init__) rfl rfl (ok_Span___init__ F1 T A0)
  have A2 : AllF P w K mg base ca kn G0 tb l_2 4 := (A1.mono (Nat.le_succ 2)).cons (fk := "Open.__init__") (f := f2) (b := true) (d := d_Open___init__) rfl rfl (ok_Open___init__ F2 T A1)
  have A3 : AllF P w K mg base ca kn G0 tb l_3 6 := (A2.mono (Nat.le_succ 4)).cons (fk := "Half.__init__") (f := f3) (b := true) (d := d_Half___init__) rfl rfl (ok_Half___init__ F3 T A2)
  have A4 : AllF P w K mg base ca kn G0 tb l_4 8 := (A3.mono (Nat.le_succ 6)).cons (fk := "_law_row") (f := f4) (b := false) (d := d__law_row) rfl rfl (ok__law_row F4 T A3)
  have A5 : AllF P w K mg base ca kn G0 tb l_5 10 := (A4.mono (Nat.le_succ 8)).cons (fk := "Span.shown") (f := f5) (b := false) (d := d_Span_shown) rfl rfl (ok_Span_shown F5 T A4)
  have A6 : AllF P w K mg base ca kn G0 tb l_6 12 := (A5.mono (Nat.le_succ 10)).cons (fk := "Half.shown") (f := f6) (b := false) (d := d_Half_shown) rfl rfl (ok_Half_shown F6 T A5)
  have A7 : AllF P w K mg base ca kn G0 tb l_7 14 := (A6.mono (Nat.le_succ 12)).cons (fk := "shown_heard") (f := f7) (b := false) (d := d_shown_heard) rfl rfl (ok_shown_heard F7 T A6)
  have A8 : AllF P w K mg base ca kn G0 tb l_8 16 := (A7.mono (Nat.le_succ 14)).cons (fk := "shown_book") (f := f8) (b := false) (d := d_shown_book) rfl rfl (ok_shown_book F8 T A7)
  have A9 : AllF P w K mg base ca kn G0 tb l_9 18 := (A8.mono (Nat.le_succ 16)).cons (fk := "number_of") (f := f9) (b := false) (d := d_number_of) rfl rfl (ok_number_of F9 T A8)
  have A10 : AllF P w K mg base ca kn G0 tb l_10 20 := (A9.mono (Nat.le_succ 18)).cons (fk := "span_of") (f := f10) (b := false) (d := d_span_of) rfl rfl (ok_span_of F10 T A9)
  have A11 : AllF P w K mg base ca kn G0 tb l_11 22 := (A10.mono (Nat.le_succ 20)).cons (fk := "read_span") (f := f11) (b := false) (d := d_read_span) rfl rfl (ok_read_span F11 T A10)
  have A12 : AllF P w K mg base ca kn G0 tb l_12 24 := (A11.mono (Nat.le_succ 22)).cons (fk := "read_row") (f := f12) (b := false) (d := d_read_row) rfl rfl (ok_read_row F12 T A11)
  have A13 : AllF P w K mg base ca kn G0 tb l_13 26 := (A12.mono (Nat.le_succ 24)).cons (fk := "read_book") (f := f13) (b := false) (d := d_read_book) rfl rfl (ok_read_book F13 T A12)
  have A14 : AllF P w K mg base ca kn G0 tb l_14 28 := (A13.mono (Nat.le_succ 26)).cons (fk := "Span.alike") (f := f14) (b := false) (d := d_Span_alike) rfl rfl (ok_Span_alike F14 T A13)
  have A15 : AllF P w K mg base ca kn G0 tb l_15 30 := (A14.mono (Nat.le_succ 28)).cons (fk := "_law_same_told") (f := f15) (b := false) (d := d__law_same_told) rfl rfl (ok__law_same_told F15 T A14)
  have A16 : AllF P w K mg base ca kn G0 tb l_16 32 := (A15.mono (Nat.le_succ 30)).cons (fk := "_law_same") (f := f16) (b := false) (d := d__law_same) rfl rfl (ok__law_same F16 T A15)
  have A17 : AllF P w K mg base ca kn G0 tb l_17 34 := (A16.mono (Nat.le_succ 32)).cons (fk := "law") (f := f17) (b := false) (d := d_law) rfl rfl (ok_law F17 T A16)
  rw [ef]
  exact A17.ok "law" f17 _ ["script"] false rfl
end K66
open PySem PySem.W PyProof.Rows
set_option maxRecDepth 100000 in
set_option maxHeartbeats 0 in
theorem PySem.Challenge.cw_shoutline_k66_books_written_holds : PySem.Challenge.rw_shoutline_k66_books_written.Holds := by
  w_on; o_law; k_head; (case hw => w_witness2)
  k_fill
  refine Ev.walk_law (l := PySem.Challenge.rw_shoutline_k66_books_written) (n := 63) (k := 34) (x := "script") (cf := Ev.cfOf K66.kn K66.G0 K66.l_17 "law") rfl (by decide) rfl ⟨rfl, by decide, by decide⟩ (fun w h Y => PySem.W.kIn_of Y) ?F K66.value
  case F =>
    intro w mg fa h KX G hmg
    refine' K66.all_mk KX G hmg ?g_NoSpan ?g_NoText ?g_Span ?g_Half ?g_Open ?w1 ?l1 ?c1 ?k1 ?w2 ?l2 ?c2 ?k2 ?w3 ?l3 ?c3 ?k3 ?a4 ?l4 ?c4 ?k4 ?w5 ?l5 ?c5 ?k5 ?w6 ?l6 ?c6 ?k6 ?a7 ?l7 ?c7 ?k7 ?a8 ?l8 ?c8 ?k8 ?a9 ?l9 ?c9 ?k9 ?a10 ?l10 ?c10 ?k10 ?a11 ?l11 ?c11 ?k11 ?a12 ?l12 ?c12 ?k12 ?a13 ?l13 ?c13 ?k13 ?w14 ?l14 ?c14 ?k14 ?a15 ?l15 ?c15 ?k15 ?a16 ?l16 ?c16 ?k16 ?a17 ?l17 ?c17 ?k17 ?pg_Half ?hd_Half ?po_Half ?sa_Half ?mk_Half ?kc_Half ?in_Half ?if_Half ?no_Half_low ?no_Half_bits ?me_Half_shown ?me_Half_alike ?pg_Open ?hd_Open ?po_Open ?sa_Open ?mk_Open ?kc_Open ?in_Open ?if_Open ?no_Open_low ?me_Open_shown ?me_Open_alike ?ia_Half ?im_Half ?ia_Open ?im_Open ?ia_Span ?im_Span ?fn5 ?fn6 ?fn14 ?iN ?iT ?sp_Span ?rd_Span ?fc_Span ?xe_NoSpan ?xk_NoSpan ?xs_NoSpan ?xt_NoSpan ?eg_NoSpan ?ek_NoSpan ?ed_NoSpan ?ea_NoSpan ?em_NoSpan ?xe_NoText ?xk_NoText ?xs_NoText ?xt_NoText ?eg_NoText ?ek_NoText ?ed_NoText ?ea_NoText ?em_NoText ?ic_Half ?tc_Half ?ss_Half ?ic_NoSpan ?tc_NoSpan ?ss_NoSpan ?ic_Open ?tc_Open ?ss_Open ?su_NoneType_Half ?su_NoneType_NoSpan ?su_NoneType_Open ?su_bool_Half ?su_bool_NoSpan ?su_bool_Open ?su_int_Half ?su_int_NoSpan ?su_int_Open ?su_str_Half ?su_str_NoSpan ?su_str_Open ?su_tuple_Half ?su_tuple_NoSpan ?su_tuple_Open ?su_list_Half ?su_list_NoSpan ?su_list_Open ?su_Half_NoSpan ?su_Half_Open ?su_Half_bool ?su_Half_int ?su_Half_list ?su_Half_str ?su_Half_tuple ?su_Open_Half ?su_Open_NoSpan ?su_Open_bool ?su_Open_int ?su_Open_list ?su_Open_str ?su_Open_tuple ?su_NoSpan_Half ?su_NoSpan_Open ?su_NoSpan_bool ?su_NoSpan_int ?su_NoSpan_list ?su_NoSpan_str ?su_NoSpan_tuple ?su_NoText_Half ?su_NoText_NoSpan ?su_NoText_Open ?su_NoText_bool ?su_NoText_int ?su_NoText_list ?su_NoText_str ?su_NoText_tuple ?vc_FIGURES ?vc_MOST_BITS ?vc_MOST_FIGURES ?nb_bool ?nb_int ?nb_isinstance ?nb_len ?nb_list ?nb_str ?nb_tuple ?nb_zip
    (case g_NoSpan => k_is)
    (case g_NoText => k_is)
    (case g_Span => k_is)
    (case g_Half => k_is)
    (case g_Open => k_is)
    (case w1 => k_is)
    (case l1 => k_is)
    (case c1 => k_is)
    (case k1 => k_is)
    (case w2 => k_is)
    (case l2 => k_is)
    (case c2 => k_is)
    (case k2 => k_is)
    (case w3 => k_is)
    (case l3 => k_is)
    (case c3 => k_is)
    (case k3 => k_is)
    (case a4 => k_is)
    (case l4 => k_is)
    (case c4 => k_is)
    (case k4 => k_is)
    (case w5 => k_is)
    (case l5 => k_is)
    (case c5 => k_is)
    (case k5 => k_is)
    (case w6 => k_is)
    (case l6 => k_is)
    (case c6 => k_is)
    (case k6 => k_is)
    (case a7 => k_is)
    (case l7 => k_is)
    (case c7 => k_is)
    (case k7 => k_is)
    (case a8 => k_is)
    (case l8 => k_is)
    (case c8 => k_is)
    (case k8 => k_is)
    (case a9 => k_is)
    (case l9 => k_is)
    (case c9 => k_is)
    (case k9 => k_is)
    (case a10 => k_is)
    (case l10 => k_is)
    (case c10 => k_is)
    (case k10 => k_is)
    (case a11 => k_is)
    (case l11 => k_is)
    (case c11 => k_is)
    (case k11 => k_is)
    (case a12 => k_is)
    (case l12 => k_is)
    (case c12 => k_is)
    (case k12 => k_is)
    (case a13 => k_is)
    (case l13 => k_is)
    (case c13 => k_is)
    (case k13 => k_is)
    (case w14 => k_is)
    (case l14 => k_is)
    (case c14 => k_is)
    (case k14 => k_is)
    (case a15 => k_is)
    (case l15 => k_is)
    (case c15 => k_is)
    (case k15 => k_is)
    (case a16 => k_is)
    (case l16 => k_is)
    (case c16 => k_is)
    (case k16 => k_is)
    (case a17 => k_is)
    (case l17 => k_is)
    (case c17 => k_is)
    (case k17 => k_is)
    (case pg_Half => k_is)
    (case hd_Half => k_is)
    (case po_Half => k_is)
    (case sa_Half => k_is)
    (case mk_Half => k_is)
    (case kc_Half => k_is)
    (case in_Half => k_is)
    (case if_Half => k_is)
    (case no_Half_low => k_is)
    (case no_Half_bits => k_is)
    (case me_Half_shown => k_is)
    (case me_Half_alike => k_is)
    (case pg_Open => k_is)
    (case hd_Open => k_is)
    (case po_Open => k_is)
    (case sa_Open => k_is)
    (case mk_Open => k_is)
    (case kc_Open => k_is)
    (case in_Open => k_is)
    (case if_Open => k_is)
    (case no_Open_low => k_is)
    (case me_Open_shown => k_is)
    (case me_Open_alike => k_is)
    (case ia_Half => k_is)
    (case im_Half => k_is)
    (case ia_Open => k_is)
    (case im_Open => k_is)
    (case ia_Span => k_is)
    (case im_Span => k_is)
    (case fn5 => k_is)
    (case fn6 => k_is)
    (case fn14 => k_is)
    (case iN => k_is)
    (case iT => k_is)
    (case sp_Span => k_is)
    (case rd_Span => k_is)
    (case fc_Span => k_is)
    (case xe_NoSpan => k_exc)
    (case xk_NoSpan => k_is)
    (case xs_NoSpan => k_is)
    (case xt_NoSpan => k_is)
    (case eg_NoSpan => k_is)
    (case ek_NoSpan => k_is)
    (case ed_NoSpan => k_is)
    (case ea_NoSpan => k_is)
    (case em_NoSpan => k_is)
    (case xe_NoText => k_exc)
    (case xk_NoText => k_is)
    (case xs_NoText => k_is)
    (case xt_NoText => k_is)
    (case eg_NoText => k_is)
    (case ek_NoText => k_is)
    (case ed_NoText => k_is)
    (case ea_NoText => k_is)
    (case em_NoText => k_is)
    (case ic_Half => k_is)
    (case tc_Half => k_is)
    (case ss_Half => first | rfl | k_is)
    (case ic_NoSpan => k_is)
    (case tc_NoSpan => k_is)
    (case ss_NoSpan => first | rfl | k_is)
    (case ic_Open => k_is)
    (case tc_Open => k_is)
    (case ss_Open => first | rfl | k_is)
    (case su_NoneType_Half => k_is)
    (case su_NoneType_NoSpan => k_is)
    (case su_NoneType_Open => k_is)
    (case su_bool_Half => k_is)
    (case su_bool_NoSpan => k_is)
    (case su_bool_Open => k_is)
    (case su_int_Half => k_is)
    (case su_int_NoSpan => k_is)
    (case su_int_Open => k_is)
    (case su_str_Half => k_is)
    (case su_str_NoSpan => k_is)
    (case su_str_Open => k_is)
    (case su_tuple_Half => k_is)
    (case su_tuple_NoSpan => k_is)
    (case su_tuple_Open => k_is)
    (case su_list_Half => k_is)
    (case su_list_NoSpan => k_is)
    (case su_list_Open => k_is)
    (case su_Half_NoSpan => k_is)
    (case su_Half_Open => k_is)
    (case su_Half_bool => k_is)
    (case su_Half_int => k_is)
    (case su_Half_list => k_is)
    (case su_Half_str => k_is)
    (case su_Half_tuple => k_is)
    (case su_Open_Half => k_is)
    (case su_Open_NoSpan => k_is)
    (case su_Open_bool => k_is)
    (case su_Open_int => k_is)
    (case su_Open_list => k_is)
    (case su_Open_str => k_is)
    (case su_Open_tuple => k_is)
    (case su_NoSpan_Half => k_is)
    (case su_NoSpan_Open => k_is)
    (case su_NoSpan_bool => k_is)
    (case su_NoSpan_int => k_is)
    (case su_NoSpan_list => k_is)
    (case su_NoSpan_str => k_is)
    (case su_NoSpan_tuple => k_is)
    (case su_NoText_Half => k_is)
    (case su_NoText_NoSpan => k_is)
    (case su_NoText_Open => k_is)
    (case su_NoText_bool => k_is)
    (case su_NoText_int => k_is)
    (case su_NoText_list => k_is)
    (case su_NoText_str => k_is)
    (case su_NoText_tuple => k_is)
    (case vc_FIGURES => k_is)
    (case vc_MOST_BITS => k_is)
    (case vc_MOST_FIGURES => k_is)
    (case nb_bool => k_is)
    (case nb_int => k_is)
    (case nb_isinstance => k_is)
    (case nb_len => k_is)
    (case nb_list => k_is)
    (case nb_str => k_is)
    (case nb_tuple => k_is)
    (case nb_zip => k_is)
#print axioms PySem.Challenge.cw_shoutline_k66_books_written_holds

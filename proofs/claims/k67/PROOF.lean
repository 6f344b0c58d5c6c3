import PyProof.Rows.All
import Wide.All
import OpenK.AllK
import Wide.FinOn
import HandS.ForMost
import HandS.Deep
import HandS.Wide
import HandS.IsInst
import HandS.TupAny
import HandS.TupMul
import HandS.TupLe
import HandS.Style
import KE.KTupSum
import HandS.Walk
import HandS.Defaults
import HandS.Conv
import HandS.Call
import KE.GoesMore
import KE.GoesEnum
import HandS.TupSets
import PySem.Challenge.RW_planwide_k67_whole_working_days_as_inver
set_option Elab.async false
set_option linter.all false
set_option maxRecDepth 100000
namespace PL
open PySem PySem.Spec PyProof.Rows L2
abbrev D := PyData
abbrev Frag := PySem.W.Frag

/-! ### data, read off a heap -/
def keyD : Key → D
  | .inl i => .int i
  | .inr s => .str s
mutual
inductive Rep (K : Frag) (S : Hp) : D → V → Prop
  | non : Rep K S .none .non
  | bl (b : Bool) : Rep K S (.bool b) (.bl b)
  | int (i : Int) : Rep K S (.int i) (.int i)
  | str (x : Str) : Rep K S (.str x) (.str x)
  | lst {a : Addr} {xs : List V} {ds : List D} : SqL K S a xs → Reps K S ds xs → Rep K S (.list ds) (.ref a)
  | tup {a : Addr} {xs : List V} {ds : List D} : SqT K S a xs → Reps K S ds xs → Rep K S (.tuple ds) (.ref a)
  | dct {a : Addr} {ks : List Key} {xs : List V} {ds : List D} : S a = some (.dK (ks.zip xs)) → ks.length = xs.length → Reps K S ds xs → Rep K S (.dict ((ks.map keyD).zip ds)) (.ref a)
inductive Reps (K : Frag) (S : Hp) : List D → List V → Prop
  | nil : Reps K S [] []
  | cons {v : V} {vs : List V} {d : D} {ds : List D} : Rep K S d v → Reps K S ds vs → Reps K S (d :: ds) (v :: vs)
end
variable {K : Frag} {S S' H H' : Hp}
theorem rd_mono {a : Addr} {u : HO} (e : Same S S') (h : Rd S a u) : Rd S' a u := by
  rcases h with h | ⟨o, h⟩
  · exact .inl (e _ _ h)
  · exact .inr ⟨o, e _ _ h⟩
theorem sqL_mono {a : Addr} {xs : List V} (e : Same S S') (h : SqL K S a xs) : SqL K S' a xs := by
  rcases h with h | h
  · exact .inl (rd_mono e h)
  · exact .inr h
theorem sqT_mono {a : Addr} {xs : List V} (e : Same S S') (h : SqT K S a xs) : SqT K S' a xs := by
  rcases h with (h | ⟨o, h⟩) | h
  · exact .inl (.inl (e _ _ h))
  · exact .inl (.inr ⟨o, e _ _ h⟩)
  · exact .inr h
mutual
theorem Rep.mono (e : Same S S') : ∀ {d : D} {v : V}, Rep K S d v → Rep K S' d v
  | _, _, .non => .non
  | _, _, .bl b => .bl b
  | _, _, .int i => .int i
  | _, _, .str x => .str x
  | _, _, .lst h r => .lst (sqL_mono e h) (Reps.mono e r)
  | _, _, .tup h r => .tup (sqT_mono e h) (Reps.mono e r)
  | _, _, .dct h l r => .dct (e _ _ h) l (Reps.mono e r)
theorem Reps.mono (e : Same S S') : ∀ {ds : List D} {vs : List V}, Reps K S ds vs → Reps K S' ds vs
  | _, _, .nil => .nil
  | _, _, .cons h r => .cons (Rep.mono e h) (Reps.mono e r)
end
theorem Rep.non_inv {v : V} (h : Rep K S .none v) : v = .non := by cases h; rfl
theorem Rep.bl_inv {b : Bool} {v : V} (h : Rep K S (.bool b) v) : v = .bl b := by cases h; rfl
theorem Rep.int_inv {i : Int} {v : V} (h : Rep K S (.int i) v) : v = .int i := by cases h; rfl
theorem Rep.str_inv {x : Str} {v : V} (h : Rep K S (.str x) v) : v = .str x := by cases h; rfl
theorem Rep.lst_inv {ds : List D} {v : V} (h : Rep K S (.list ds) v) : ∃ a xs, v = .ref a ∧ SqL K S a xs ∧ Reps K S ds xs := by
  cases h with
  | lst h r => exact ⟨_, _, rfl, h, r⟩
theorem Rep.tup_inv {ds : List D} {v : V} (h : Rep K S (.tuple ds) v) : ∃ a xs, v = .ref a ∧ SqT K S a xs ∧ Reps K S ds xs := by
  cases h with
  | tup h r => exact ⟨_, _, rfl, h, r⟩
theorem Reps.nil_inv {vs : List V} (h : Reps K S [] vs) : vs = [] := by cases h; rfl
theorem Reps.cons_inv {d : D} {ds : List D} {vs : List V} (h : Reps K S (d :: ds) vs) : ∃ v r, vs = v :: r ∧ Rep K S d v ∧ Reps K S ds r := by
  cases h with
  | cons h r => exact ⟨_, _, rfl, h, r⟩
theorem Reps.length : ∀ {ds : List D} {vs : List V}, Reps K S ds vs → ds.length = vs.length
  | _, _, .nil => rfl
  | _, _, .cons _ r => by simp [Reps.length r]
theorem Reps.get : ∀ {ds : List D} {vs : List V} {i : Nat} {d : D}, Reps K S ds vs → ds[i]? = some d → ∃ v, vs[i]? = some v ∧ Rep K S d v
  | _, _, _, _, .nil, e => by simp at e
  | _, _, 0, _, .cons h _, e => by simp at e; subst e; exact ⟨_, rfl, h⟩
  | _, _, i + 1, _, .cons _ r, e => by
    obtain ⟨v, h1, h2⟩ := Reps.get (i := i) r (by simpa using e)
    exact ⟨v, by simpa using h1, h2⟩
theorem Reps.append : ∀ {ds es : List D} {vs ws : List V}, Reps K S ds vs → Reps K S es ws → Reps K S (ds ++ es) (vs ++ ws)
  | _, _, _, _, .nil, s => s
  | _, _, _, _, .cons h r, s => .cons h (Reps.append r s)
theorem Reps.take : ∀ {ds : List D} {vs : List V} (n : Nat), Reps K S ds vs → Reps K S (ds.take n) (vs.take n)
  | _, _, 0, _ => .nil
  | _, _, _ + 1, .nil => .nil
  | _, _, n + 1, .cons h r => .cons h (Reps.take n r)
theorem Reps.drop : ∀ {ds : List D} {vs : List V} (n : Nat), Reps K S ds vs → Reps K S (ds.drop n) (vs.drop n)
  | _, _, 0, r => r
  | _, _, _ + 1, .nil => .nil
  | _, _, n + 1, .cons _ r => Reps.drop n r
theorem Reps.reverse : ∀ {ds : List D} {vs : List V}, Reps K S ds vs → Reps K S ds.reverse vs.reverse
  | _, _, .nil => .nil
  | _, _, .cons h r => by simp only [List.reverse_cons]; exact (Reps.reverse r).append (.cons h .nil)
theorem Reps.rep {ds : List D} {vs : List V} (h : Reps K S ds vs) : ∀ k : Nat, Reps K S (List.replicate k ds).flatten (List.replicate k vs).flatten
  | 0 => .nil
  | k + 1 => by simp only [List.replicate_succ, List.flatten_cons]; exact h.append (Reps.rep h k)
theorem Reps.set {d : D} {v : V} (h : Rep K S d v) : ∀ {ds : List D} {vs : List V} (i : Nat), Reps K S ds vs → Reps K S (ds.set i d) (vs.set i v)
  | _, _, _, .nil => .nil
  | _, _, 0, .cons _ r => .cons h r
  | _, _, i + 1, .cons q r => .cons q (Reps.set h i r)
theorem Reps.ints : ∀ {ns : List Int} {vs : List V}, Reps K S (ns.map .int) vs → vs = ns.map V.int
  | [], _, h => by rw [h.nil_inv]; rfl
  | n :: ns, _, h => by
    obtain ⟨v, r, rfl, h1, h2⟩ := Reps.cons_inv (by simpa using h)
    rw [h1.int_inv, Reps.ints h2]; rfl
theorem Reps.bools : ∀ {ns : List Bool} {vs : List V}, Reps K S (ns.map .bool) vs → vs = ns.map V.bl
  | [], _, h => by rw [h.nil_inv]; rfl
  | n :: ns, _, h => by
    obtain ⟨v, r, rfl, h1, h2⟩ := Reps.cons_inv (by simpa using h)
    rw [h1.bl_inv, Reps.bools h2]; rfl
/-! to the library's own relation -/
mutual
theorem Rep.dp : ∀ {d : D} {v : V}, Rep K S d v → d.canLay0 = true → Dp K S v d
  | _, _, .non, _ => .non
  | _, _, .bl b, _ => .bl b
  | _, _, .int i, _ => .int i
  | _, _, .str x, _ => .str x
  | _, _, .lst h r, c => .lst h (Reps.dp r (by simpa [PyData.canLay0] using c))
  | _, _, .tup h r, c => .tup h (Reps.dp r (by simpa [PyData.canLay0] using c))
  | _, _, .dct _ _ _, c => by simp [PyData.canLay0] at c
theorem Reps.dp : ∀ {ds : List D} {vs : List V}, Reps K S ds vs → PyData.canLayAll0 ds = true → DpAll K S vs ds
  | _, _, .nil, _ => .nil
  | _, _, .cons h r, c => by
    rw [PyData.canLayAll0, Bool.and_eq_true] at c
    exact .cons (Rep.dp h c.1) (Reps.dp r c.2)
end

/-! ### owned lists -/
inductive O where
  | sh (d : D)
  | ol (os : List O)
mutual
def O.toD : O → D
  | .sh d => d
  | .ol os => .list (O.toDs os)
def O.toDs : List O → List D
  | [] => []
  | o :: os => o.toD :: O.toDs os
end
mutual
inductive RepO (K : Frag) (S H : Hp) : O → V → List Addr → Prop
  | sh {d : D} {v : V} : Rep K S d v → RepO K S H (.sh d) v []
  | ol {os : List O} {a : Addr} {vs : List V} {fp : List Addr} : H a = some (.lst vs) → S a = none → RepOs K S H os vs fp → RepO K S H (.ol os) (.ref a) (a :: fp)
inductive RepOs (K : Frag) (S H : Hp) : List O → List V → List Addr → Prop
  | nil : RepOs K S H [] [] []
  | cons {o : O} {os : List O} {v : V} {vs : List V} {f g : List Addr} : RepO K S H o v f → RepOs K S H os vs g → RepOs K S H (o :: os) (v :: vs) (f ++ g)
end
mutual
/-- carried to another heap that keeps the footprint -/
theorem RepO.keep (e : Same S S') : ∀ {o : O} {v : V} {f : List Addr}, RepO K S H o v f → (∀ a ∈ f, H' a = H a ∧ S' a = none) → RepO K S' H' o v f
  | _, _, _, .sh h, _ => .sh (h.mono e)
  | _, _, _, .ol h1 _ r, k => .ol ((k _ (by simp)).1.trans h1) (k _ (by simp)).2 (RepOs.keep e r fun a ha => k a (by simp [ha]))
theorem RepOs.keep (e : Same S S') : ∀ {os : List O} {vs : List V} {f : List Addr}, RepOs K S H os vs f → (∀ a ∈ f, H' a = H a ∧ S' a = none) → RepOs K S' H' os vs f
  | _, _, _, .nil, _ => .nil
  | _, _, _, .cons h r, k => .cons (RepO.keep e h fun a ha => k a (by simp [ha])) (RepOs.keep e r fun a ha => k a (by simp [ha]))
end
mutual
theorem RepO.there : ∀ {o : O} {v : V} {f : List Addr}, RepO K S H o v f → ∀ a ∈ f, (∃ u, H a = some u) ∧ S a = none
  | _, _, _, .sh _, _, h => by simp at h
  | _, _, _, .ol h1 h2 r, a, h => by
    rcases List.mem_cons.mp h with rfl | h
    · exact ⟨⟨_, h1⟩, h2⟩
    · exact RepOs.there r a h
theorem RepOs.there : ∀ {os : List O} {vs : List V} {f : List Addr}, RepOs K S H os vs f → ∀ a ∈ f, (∃ u, H a = some u) ∧ S a = none
  | _, _, _, .nil, _, h => by simp at h
  | _, _, _, .cons h1 r, a, h => by
    rcases List.mem_append.mp h with h | h
    · exact RepO.there h1 a h
    · exact RepOs.there r a h
end
mutual
/-- the whole tree as data, read off any heap that has both -/
theorem RepO.view (e : Same S S') : ∀ {o : O} {v : V} {f : List Addr}, RepO K S H o v f → (∀ a ∈ f, S' a = H a) → Rep K S' o.toD v
  | _, _, _, .sh h, _ => h.mono e
  | _, _, _, .ol h1 _ r, k => by
    rw [O.toD]
    exact .lst (.inl (.inl ((k _ (by simp)).trans h1))) (RepOs.view e r fun a ha => k a (by simp [ha]))
theorem RepOs.view (e : Same S S') : ∀ {os : List O} {vs : List V} {f : List Addr}, RepOs K S H os vs f → (∀ a ∈ f, S' a = H a) → Reps K S' (O.toDs os) vs
  | _, _, _, .nil, _ => .nil
  | _, _, _, .cons h r, k => by
    rw [O.toDs]
    exact .cons (RepO.view e h fun a ha => k a (by simp [ha])) (RepOs.view e r fun a ha => k a (by simp [ha]))
end
theorem RepOs.length : ∀ {os : List O} {vs : List V} {f : List Addr}, RepOs K S H os vs f → os.length = vs.length
  | _, _, _, .nil => rfl
  | _, _, _, .cons _ r => by simp [RepOs.length r]
theorem RepOs.append : ∀ {os ps : List O} {vs ws : List V} {f g : List Addr}, RepOs K S H os vs f → RepOs K S H ps ws g → RepOs K S H (os ++ ps) (vs ++ ws) (f ++ g)
  | _, _, _, _, _, _, .nil, s => s
  | _, _, _, _, _, _, .cons h r, s => by
    rw [List.append_assoc]
    exact .cons h (RepOs.append r s)
theorem RepOs.of_sh : ∀ {ds : List D} {vs : List V}, Reps K S ds vs → RepOs K S H (ds.map .sh) vs []
  | _, _, .nil => .nil
  | _, _, .cons h r => .cons (f := []) (.sh h) (RepOs.of_sh r)
/-- all elements are shared data -/
def O.shs : List O → Option (List D)
  | [] => some []
  | .sh d :: os => (O.shs os).map (d :: ·)
  | .ol _ :: _ => none
theorem O.shs_map : ∀ ds : List D, O.shs (ds.map .sh) = some ds
  | [] => rfl
  | d :: ds => by simp [O.shs, O.shs_map ds]
theorem O.shs_some : ∀ {os : List O} {ds : List D}, O.shs os = some ds → os = ds.map .sh
  | [], ds, h => by simp [O.shs] at h; subst h; rfl
  | .sh d :: os, ds, h => by
    simp only [O.shs, Option.map_eq_some_iff] at h
    obtain ⟨r, h1, rfl⟩ := h
    rw [O.shs_some h1]; rfl
  | .ol _ :: _, ds, h => by simp [O.shs] at h
theorem RepOs.sh_inv : ∀ {ds : List D} {vs : List V} {f : List Addr}, RepOs K S H (ds.map .sh) vs f → f = [] ∧ Reps K S ds vs
  | [], _, _, h => by cases h; exact ⟨rfl, .nil⟩
  | d :: ds, _, _, h => by
    cases h with
    | cons h1 r =>
      cases h1 with
      | sh h1 =>
        obtain ⟨rfl, h2⟩ := RepOs.sh_inv r
        exact ⟨rfl, .cons h1 h2⟩
end PL

namespace PL
open PySem PySem.Spec PyProof.Rows L2
variable {K : Frag} {S S' S1 S2 H H' H1 H2 : Hp}

/-- a slot: a plain local; one that is locked while it is walked; a parameter whose object goes back to the caller (io: it may be changed) -/
inductive Bd where
  | ow (o : O)
  | lk (o : O)
  | pa (io : Bool) (o : O)
def Bd.o : Bd → O
  | .ow o => o
  | .lk o => o
  | .pa _ o => o
/-- its value is the one that anc tells -/
def Bd.anch : Bd → Bool
  | .ow _ => false
  | _ => true
/-- the same slot with another content -/
def Bd.put : Bd → O → Bd
  | .ow _, o => .ow o
  | .lk _, o => .lk o
  | .pa io _, o => .pa io o
theorem Bd.put_o (b : Bd) (o : O) : (b.put o).o = o := by cases b <;> rfl
theorem Bd.put_anch (b : Bd) (o : O) : (b.put o).anch = b.anch := by cases b <;> rfl
/-- it stays as it is -/
def Bd.fixed : Bd → Bool
  | .ow _ => false
  | .lk _ => true
  | .pa io _ => !io
theorem Bd.put_fixed (b : Bd) (o : O) : (b.put o).fixed = b.fixed := by cases b <;> rfl
abbrev Ev := List (Option Bd)

inductive RepL (K : Frag) (S H : Hp) : Ev → L2.St → List Addr → Prop
  | nil : RepL K S H [] [] []
  | no {ρ : Ev} {x : Option V} {σ : L2.St} {f : List Addr} : RepL K S H ρ σ f → RepL K S H (none :: ρ) (x :: σ) f
  | ys {b : Bd} {v : V} {ρ : Ev} {σ : L2.St} {f g : List Addr} : RepO K S H b.o v f → RepL K S H ρ σ g → RepL K S H (some b :: ρ) (some v :: σ) (f ++ g)
theorem RepL.keep (e : Same S S') : ∀ {ρ : Ev} {σ : L2.St} {f : List Addr}, RepL K S H ρ σ f → (∀ a ∈ f, H' a = H a ∧ S' a = none) → RepL K S' H' ρ σ f
  | _, _, _, .nil, _ => .nil
  | _, _, _, .no r, k => .no (RepL.keep e r k)
  | _, _, _, .ys h r, k => .ys (h.keep e fun a ha => k a (by simp [ha])) (RepL.keep e r fun a ha => k a (by simp [ha]))
theorem RepL.there : ∀ {ρ : Ev} {σ : L2.St} {f : List Addr}, RepL K S H ρ σ f → ∀ a ∈ f, (∃ u, H a = some u) ∧ S a = none
  | _, _, _, .nil, _, h => by simp at h
  | _, _, _, .no r, a, h => RepL.there r a h
  | _, _, _, .ys h1 r, a, h => by
    rcases List.mem_append.mp h with h | h
    · exact h1.there a h
    · exact RepL.there r a h
theorem RepL.length : ∀ {ρ : Ev} {σ : L2.St} {f : List Addr}, RepL K S H ρ σ f → ρ.length = σ.length
  | _, _, _, .nil => rfl
  | _, _, _, .no r => by simp [RepL.length r]
  | _, _, _, .ys _ r => by simp [RepL.length r]
theorem RepL.take : ∀ {ρ : Ev} {σ : L2.St} {f : List Addr} {i : Nat} {b : Bd}, RepL K S H ρ σ f → ρ[i]? = some (some b) →
    ∃ v fi g, f.Perm (fi ++ g) ∧ σ[i]? = some (some v) ∧ RepO K S H b.o v fi ∧ RepL K S H (ρ.set i none) σ g
  | _, _, _, 0, b, .no r, e => by simp at e
  | _, _, _, 0, b, .ys (v := v) (f := f) (g := g) h r, e => by
    simp at e; subst e
    exact ⟨v, f, g, List.Perm.refl _, rfl, h, .no r⟩
  | _, _, _, i + 1, b, .no r, e => by
    obtain ⟨v, fi, g, e1, e2, e3, e4⟩ := RepL.take (i := i) r (by simpa using e)
    exact ⟨v, fi, g, e1, by simpa using e2, e3, by simpa using RepL.no e4⟩
  | _, _, _, i + 1, b, .ys (f := f) h r, e => by
    obtain ⟨v, fi, g, e1, e2, e3, e4⟩ := RepL.take (i := i) r (by simpa using e)
    refine ⟨v, fi, f ++ g, ?_, by simpa using e2, e3, by simpa using RepL.ys h e4⟩
    refine (List.Perm.append_left f e1).trans ?_
    rw [← List.append_assoc, ← List.append_assoc]
    exact List.Perm.append_right g List.perm_append_comm
  | _, _, _, _, _, .nil, e => by simp at e
theorem RepL.put : ∀ {ρ : Ev} {σ : L2.St} {g : List Addr} {i : Nat} {b : Bd} {v : V} {fi : List Addr}, RepL K S H ρ σ g → ρ[i]? = some none → RepO K S H b.o v fi →
    ∃ f, f.Perm (fi ++ g) ∧ RepL K S H (ρ.set i (some b)) (σ.set i (some v)) f
  | _, _, _, 0, b, v, fi, .no r, e, h => ⟨_, List.Perm.refl _, .ys h r⟩
  | _, _, _, 0, b, v, fi, .ys _ _, e, h => by simp at e
  | _, _, _, i + 1, b, v, fi, .no r, e, h => by
    obtain ⟨f, e1, e2⟩ := RepL.put (i := i) r (by simpa using e) h
    exact ⟨f, e1, .no e2⟩
  | _, _, _, i + 1, b, v, fi, .ys (f := f) h1 r, e, h => by
    obtain ⟨f', e1, e2⟩ := RepL.put (i := i) r (by simpa using e) h
    refine ⟨f ++ f', ?_, .ys h1 e2⟩
    refine (List.Perm.append_left f e1).trans ?_
    rw [← List.append_assoc, ← List.append_assoc]
    exact List.Perm.append_right _ List.perm_append_comm
  | _, _, _, _, _, _, _, .nil, e, _ => by simp at e
/-- a slot forgotten, whatever it held; any value stands there then -/
theorem RepL.drop : ∀ {ρ : Ev} {σ : L2.St} {f : List Addr} (i : Nat) (x : Option V), RepL K S H ρ σ f →
    ∃ g h, f.Perm (h ++ g) ∧ RepL K S H (ρ.set i none) (σ.set i x) g
  | _, _, _, 0, x, .no r => ⟨_, [], List.Perm.refl _, .no r⟩
  | _, _, _, 0, x, .ys (f := f) (g := g) _ r => ⟨g, f, List.Perm.refl _, .no r⟩
  | _, _, _, i + 1, x, .no r => by
    obtain ⟨g, h, e1, e2⟩ := RepL.drop i x r
    exact ⟨g, h, e1, .no e2⟩
  | _, _, _, i + 1, x, .ys (f := f) h1 r => by
    obtain ⟨g, h, e1, e2⟩ := RepL.drop i x r
    refine ⟨f ++ g, h, ?_, .ys h1 e2⟩
    refine (List.Perm.append_left f e1).trans ?_
    rw [← List.append_assoc, ← List.append_assoc]
    exact List.Perm.append_right g List.perm_append_comm
  | _, _, _, _, _, .nil => ⟨[], [], List.Perm.refl _, .nil⟩
theorem set_self {σ : L2.St} {i : Nat} {v : Option V} (h : σ[i]? = some v) : σ.set i v = σ := by
  apply List.ext_getElem?
  intro j
  by_cases e : i = j
  · subst e
    have hl : i < σ.length := (List.getElem?_eq_some_iff.mp h).1
    rw [List.getElem?_set_self hl, h]
  · rw [List.getElem?_set_ne e]

/-! ### the state -/
structure StOk (K : Frag) (S H : Hp) (anc : Nat → Option V) (ρ : Ev) (σ : L2.St) (fp : List Addr) : Prop where
  sub : Same S H
  rep : ∃ f, RepL K S H ρ σ f ∧ fp.Perm f
  nd : fp.Nodup
  pa : ∀ (i : Nat) (b : Bd), ρ[i]? = some (some b) → b.anch = true → ∃ v, σ[i]? = some (some v) ∧ anc i = some v
/-- what may have become of the heap: S grows; what was tracked and not ours stands; what S gains was ours or is new; what is ours now was ours or is new -/
structure Aft (fp : List Addr) (S H : Hp) (fp' : List Addr) (S' H' : Hp) : Prop where
  sub : Same S S'
  out : ∀ b o, H b = some o → b ∉ fp → H' b = some o
  new : ∀ b, S' b ≠ none → S b ≠ none ∨ b ∈ fp ∨ H b = none
  fps : ∀ b ∈ fp', b ∈ fp ∨ H b = none
theorem Aft.refl {fp fp' : List Addr} (h : ∀ b ∈ fp', b ∈ fp) : Aft fp S H fp' S H := ⟨Same.refl S, fun _ _ h _ => h, fun _ h => .inl h, fun b hb => .inl (h b hb)⟩
theorem Aft.trans {fp fp1 fp2 : List Addr} (a : Aft fp S H fp1 S1 H1) (b : Aft fp1 S1 H1 fp2 S2 H2) : Aft fp S H fp2 S2 H2 where
  sub := a.sub.trans b.sub
  out := fun c o h hc => b.out c o (a.out c o h hc) fun z => (a.fps c z).elim hc fun e => by rw [h] at e; cases e
  new := fun c h => by
    rcases b.new c h with h | h | h
    · exact a.new c h
    · exact .inr (a.fps c h)
    · by_cases hc : c ∈ fp
      · exact .inr (.inl hc)
      · cases e : H c with
        | none => exact .inr (.inr rfl)
        | some o => rw [a.out c o e hc] at h; cases h
  fps := fun c hc => by
    rcases b.fps c hc with h | h
    · exact a.fps c h
    · by_cases hc : c ∈ fp
      · exact .inl hc
      · cases e : H c with
        | none => exact .inr rfl
        | some o => rw [a.out c o e hc] at h; cases h
/-- more is ours ahead, less is ours behind -/
theorem Aft.wide {fp fp' gp gp' : List Addr} (a : Aft fp S H fp' S' H') (h1 : ∀ b ∈ fp, b ∈ gp) (h2 : ∀ b ∈ gp', b ∈ fp' ∨ b ∈ gp) : Aft gp S H gp' S' H' :=
  ⟨a.sub, fun b o h hb => a.out b o h fun z => hb (h1 b z), fun b h => (a.new b h).elim .inl fun z => z.elim (fun z => .inr (.inl (h1 b z))) fun z => .inr (.inr z), fun b hb => (h2 b hb).elim (fun z => (a.fps b z).elim (fun z => .inl (h1 b z)) .inr) .inl⟩
/-- a part that is not ours is kept -/
theorem Aft.frame {fp fp' : List Addr} (a : Aft fp S H fp' S' H') {g : List Addr} (hd : ∀ b ∈ g, b ∉ fp) (ht : ∀ b ∈ g, (∃ u, H b = some u) ∧ S b = none) : ∀ b ∈ g, H' b = H b ∧ S' b = none := fun b hb => by
  obtain ⟨⟨u, h1⟩, h2⟩ := ht b hb
  refine ⟨(a.out b u h1 (hd b hb)).trans h1.symm, ?_⟩
  cases e : S' b with
  | none => rfl
  | some o =>
    rcases a.new b (by rw [e]; exact fun z => by cases z) with z | z | z
    · exact absurd h2 z
    · exact absurd z (hd b hb)
    · rw [h1] at z; cases z
/-- what stays apart of what is ours -/
theorem Aft.apart {fp fp' : List Addr} (a : Aft fp S H fp' S' H') {g : List Addr} (hd : ∀ b ∈ g, b ∉ fp) (ht : ∀ b ∈ g, (∃ u, H b = some u) ∧ S b = none) : ∀ b ∈ g, b ∉ fp' := fun b hb z => by
  rcases a.fps b z with z | z
  · exact hd b hb z
  · obtain ⟨⟨u, h1⟩, _⟩ := ht b hb
    rw [h1] at z; cases z

theorem StOk.perm {anc : Nat → Option V} {ρ : Ev} {σ : L2.St} {fp gp : List Addr} (h : StOk K S H anc ρ σ fp) (p : gp.Perm fp) : StOk K S H anc ρ σ gp :=
  ⟨h.sub, let ⟨f, r, q⟩ := h.rep; ⟨f, r, p.trans q⟩, p.nodup_iff.mpr h.nd, h.pa⟩
theorem StOk.there {anc : Nat → Option V} {ρ : Ev} {σ : L2.St} {fp : List Addr} (h : StOk K S H anc ρ σ fp) : ∀ a ∈ fp, (∃ u, H a = some u) ∧ S a = none := fun a ha => by
  obtain ⟨f, r, q⟩ := h.rep
  exact r.there a (q.mem_iff.mp ha)
theorem StOk.len {anc : Nat → Option V} {ρ : Ev} {σ : L2.St} {fp : List Addr} (h : StOk K S H anc ρ σ fp) : ρ.length = σ.length := let ⟨_, r, _⟩ := h.rep; r.length
/-- a slot taken out -/
theorem StOk.take {anc : Nat → Option V} {ρ : Ev} {σ : L2.St} {fp : List Addr} {i : Nat} {b : Bd} (h : StOk K S H anc ρ σ fp) (e : ρ[i]? = some (some b)) :
    ∃ v fi g, fp.Perm (fi ++ g) ∧ σ[i]? = some (some v) ∧ RepO K S H b.o v fi ∧ StOk K S H anc (ρ.set i none) σ g := by
  obtain ⟨f, r, q⟩ := h.rep
  obtain ⟨v, fi, g, e1, e2, e3, e4⟩ := r.take e
  have e5 := q.trans e1
  refine ⟨v, fi, g, e5, e2, e3, h.sub, ⟨g, e4, .refl _⟩, (List.nodup_append.mp (e5.nodup_iff.mp h.nd)).2.1, fun j b' hj hb => ?_⟩
  by_cases z : i = j
  · subst z
    rw [List.getElem?_set_self (List.getElem?_eq_some_iff.mp e).1] at hj; cases hj
  · rw [List.getElem?_set_ne z] at hj
    exact h.pa j b' hj hb
/-- a value put into an empty slot -/
theorem StOk.put {anc : Nat → Option V} {ρ : Ev} {σ : L2.St} {g : List Addr} {i : Nat} {b : Bd} {v : V} {fi : List Addr} (h : StOk K S H anc ρ σ g) (e : ρ[i]? = some none) (ho : RepO K S H b.o v fi) (nd : (fi ++ g).Nodup)
    (hp : b.anch = true → anc i = some v) : StOk K S H anc (ρ.set i (some b)) (σ.set i (some v)) (fi ++ g) := by
  obtain ⟨f, r, q⟩ := h.rep
  obtain ⟨f', e1, e2⟩ := r.put e ho
  have hl : i < ρ.length := (List.getElem?_eq_some_iff.mp e).1
  refine ⟨h.sub, ⟨f', e2, (List.Perm.append_left fi q).trans e1.symm⟩, nd, fun j b' hj hb => ?_⟩
  by_cases z : i = j
  · subst z
    rw [List.getElem?_set_self hl] at hj; cases hj
    exact ⟨v, by rw [List.getElem?_set_self (by rw [← h.len]; exact hl)], hp hb⟩
  · rw [List.getElem?_set_ne z] at hj
    rw [List.getElem?_set_ne z]
    exact h.pa j b' hj hb
/-- a slot forgotten -/
theorem StOk.drop {anc : Nat → Option V} {ρ : Ev} {σ : L2.St} {fp : List Addr} (i : Nat) (x : Option V) (h : StOk K S H anc ρ σ fp) : ∃ g k, fp.Perm (k ++ g) ∧ StOk K S H anc (ρ.set i none) (σ.set i x) g := by
  obtain ⟨f, r, q⟩ := h.rep
  obtain ⟨g, k, e1, e2⟩ := r.drop i x
  have e5 := q.trans e1
  refine ⟨g, k, e5, h.sub, ⟨g, e2, .refl _⟩, (List.nodup_append.mp (e5.nodup_iff.mp h.nd)).2.1, fun j b' hj hb => ?_⟩
  by_cases z : i = j
  · subst z
    by_cases hl : i < ρ.length
    · rw [List.getElem?_set_self hl] at hj; cases hj
    · rw [List.getElem?_eq_none (by simpa using hl)] at hj; cases hj
  · rw [List.getElem?_set_ne z] at hj
    rw [List.getElem?_set_ne z]
    exact h.pa j b' hj hb
/-- carried along a step that is not about it -/
theorem StOk.along {anc : Nat → Option V} {ρ : Ev} {σ : L2.St} {g fp fp' : List Addr} (h : StOk K S H anc ρ σ g) (a : Aft fp S H fp' S' H') (sub : Same S' H') (hd : ∀ b ∈ g, b ∉ fp) : StOk K S' H' anc ρ σ g := by
  obtain ⟨f, r, q⟩ := h.rep
  exact ⟨sub, ⟨f, r.keep a.sub (a.frame (fun b hb => hd b (q.mem_iff.mpr hb)) fun b hb => r.there b hb), q⟩, h.nd, h.pa⟩
theorem RepO.along {o : O} {v : V} {g fp fp' : List Addr} (h : RepO K S H o v g) (a : Aft fp S H fp' S' H') (hd : ∀ b ∈ g, b ∉ fp) : RepO K S' H' o v g := h.keep a.sub (a.frame hd fun b hb => h.there b hb)
theorem RepOs.along {o : List O} {v : List V} {g fp fp' : List Addr} (h : RepOs K S H o v g) (a : Aft fp S H fp' S' H') (hd : ∀ b ∈ g, b ∉ fp) : RepOs K S' H' o v g := h.keep a.sub (a.frame hd fun b hb => h.there b hb)

/-- frozen: the footprint goes into S -/
def frz (S H : Hp) (f : List Addr) : Hp := fun b => if b ∈ f then H b else S b
theorem frz_in {f : List Addr} {a : Addr} (h : a ∈ f) : frz S H f a = H a := if_pos h
theorem frz_out {f : List Addr} {a : Addr} (h : a ∉ f) : frz S H f a = S a := if_neg h
theorem frz_sub {f : List Addr} (ht : ∀ a ∈ f, (∃ u, H a = some u) ∧ S a = none) : Same S (frz S H f) := fun b o h => by
  by_cases hb : b ∈ f
  · rw [(ht b hb).2] at h; cases h
  · rw [frz_out hb]; exact h
theorem frz_le {f : List Addr} (hs : Same S H) : Same (frz S H f) H := fun b o h => by
  by_cases hb : b ∈ f
  · rw [frz_in hb] at h; exact h
  · rw [frz_out hb] at h; exact hs b o h
theorem frz_aft {f fp fp' : List Addr} (ht : ∀ a ∈ f, (∃ u, H a = some u) ∧ S a = none) (h1 : ∀ a ∈ f, a ∈ fp) (h2 : ∀ a ∈ fp', a ∈ fp) : Aft fp S H fp' (frz S H f) H :=
  ⟨frz_sub ht, fun _ _ h _ => h, fun b hb => by
    by_cases z : b ∈ f
    · exact .inr (.inl (h1 b z))
    · rw [frz_out z] at hb; exact .inl hb, fun b hb => .inl (h2 b hb)⟩
theorem frz_view {o : O} {v : V} {f : List Addr} (h : RepO K S H o v f) : Rep K (frz S H f) o.toD v := h.view (frz_sub h.there) fun _ ha => frz_in ha
/-- the rest behind a freeze -/
theorem frz_frame {f g : List Addr} (hd : ∀ b ∈ g, b ∉ f) (ht : ∀ b ∈ g, (∃ u, H b = some u) ∧ S b = none) : ∀ b ∈ g, H b = H b ∧ frz S H f b = none := fun b hb => ⟨rfl, by rw [frz_out (hd b hb)]; exact (ht b hb).2⟩
theorem StOk.frozen {anc : Nat → Option V} {ρ : Ev} {σ : L2.St} {f g : List Addr} (h : StOk K S H anc ρ σ g) (hd : ∀ b ∈ g, b ∉ f) (ht : ∀ a ∈ f, (∃ u, H a = some u) ∧ S a = none) : StOk K (frz S H f) H anc ρ σ g := by
  obtain ⟨f', r, q⟩ := h.rep
  exact ⟨frz_le h.sub, ⟨f', r.keep (frz_sub ht) (frz_frame (fun b hb => hd b (q.mem_iff.mpr hb)) fun b hb => r.there b hb), q⟩, h.nd, h.pa⟩
theorem nd_apart {f g : List Addr} (h : (f ++ g).Nodup) : ∀ b ∈ g, b ∉ f := fun b hb z => (List.nodup_append.mp h).2.2 b z b hb rfl
theorem nd_apart' {f g : List Addr} (h : (f ++ g).Nodup) : ∀ b ∈ f, b ∉ g := fun b hb z => (List.nodup_append.mp h).2.2 b hb b z rfl
end PL

namespace PL
open PySem PySem.Spec PyProof.Rows L2
variable {K : Frag} {S S' S1 S2 H H' H1 H2 : Hp}

abbrev XF := Ev → Option (O × Ev)
abbrev XD := Ev → Option (D × Ev)
abbrev XB := Ev → Option (Bool × Ev)
inductive Opd where
  | sl (i : Nat)
  | vl (d : D)
abbrev XP := Ev → Option (Opd × Ev)
abbrev XA := Ev → Option (List Opd × Ev)
def OpdR (K : Frag) (S : Hp) (σ : L2.St) : Opd → V → Prop
  | .sl i, v => σ[i]? = some (some v)
  | .vl d, v => Rep K S d v
def Opd.o (ρ : Ev) : Opd → Option O
  | .sl i => match ρ[i]? with
    | some (some b) => some b.o
    | _ => none
  | .vl d => some (.sh d)
def Kp {α : Type} (f : Ev → Option (α × Ev)) : Prop := ∀ ρ a ρ', f ρ = some (a, ρ') → ∀ (i : Nat) (b : Bd), ρ[i]? = some (some b) → b.fixed = true → ρ'[i]? = some (some b)

def Snd (K : Frag) (t : TE) (f : XF) : Prop := ∀ (anc : Nat → Option V) (ρ : Ev) (o : O) (ρ' : Ev), f ρ = some (o, ρ') → ∀ (σ : L2.St) (S H : Hp) (fp : List Addr), StOk K S H anc ρ σ fp → ∀ Q : VK,
  (∀ (v : V) (S' H' : Hp) (fo fp' : List Addr), StOk K S' H' anc ρ' σ fp' → RepO K S' H' o v fo → (fo ++ fp').Nodup → Aft fp S H (fo ++ fp') S' H' → Q v H') → t σ H Q
def SndD (K : Frag) (t : TE) (f : XD) : Prop := ∀ (anc : Nat → Option V) (ρ : Ev) (d : D) (ρ' : Ev), f ρ = some (d, ρ') → ∀ (σ : L2.St) (S H : Hp) (fp : List Addr), StOk K S H anc ρ σ fp → ∀ Q : VK,
  (∀ (v : V) (S' H' : Hp) (fp' : List Addr), StOk K S' H' anc ρ' σ fp' → Rep K S' d v → Aft fp S H fp' S' H' → Q v H') → t σ H Q
def SndB (K : Frag) (t : TT) (f : XB) : Prop := ∀ (anc : Nat → Option V) (ρ : Ev) (c : Bool) (ρ' : Ev), f ρ = some (c, ρ') → ∀ (σ : L2.St) (S H : Hp) (fp : List Addr), StOk K S H anc ρ σ fp → ∀ Q : Bool → Hp → Prop,
  (∀ (S' H' : Hp) (fp' : List Addr), StOk K S' H' anc ρ' σ fp' → Aft fp S H fp' S' H' → Q c H') → t σ H Q
def SndP (K : Frag) (t : TE) (f : XP) : Prop := ∀ (anc : Nat → Option V) (ρ : Ev) (p : Opd) (ρ' : Ev), f ρ = some (p, ρ') → ∀ (σ : L2.St) (S H : Hp) (fp : List Addr), StOk K S H anc ρ σ fp → ∀ Q : VK,
  (∀ (v : V) (S' H' : Hp) (fp' : List Addr), StOk K S' H' anc ρ' σ fp' → OpdR K S' σ p v → Aft fp S H fp' S' H' → Q v H') → t σ H Q
def SndA (K : Frag) (t : TA) (f : XA) : Prop := ∀ (anc : Nat → Option V) (ρ : Ev) (ps : List Opd) (ρ' : Ev), f ρ = some (ps, ρ') → ∀ (σ : L2.St) (S H : Hp) (fp : List Addr), StOk K S H anc ρ σ fp → ∀ Q : List V → Hp → Prop,
  (∀ (vs : List V) (S' H' : Hp) (fp' : List Addr), StOk K S' H' anc ρ' σ fp' → Paired (OpdR K S' σ) ps vs → Aft fp S H fp' S' H' → Q vs H') → t σ H Q

/-! ### between the kinds -/
def frD (f : XF) : XD := fun ρ => (f ρ).map fun p => (p.1.toD, p.2)
def toO (f : XD) : XF := fun ρ => (f ρ).map fun p => (.sh p.1, p.2)
def opE (f : XD) : XP := fun ρ => (f ρ).map fun p => (.vl p.1, p.2)
def opV (i : Nat) : XP := fun ρ => match ρ[i]? with
  | some (some _) => some (.sl i, ρ)
  | _ => none
def toB (f : XD) : XB := fun ρ => match f ρ with
  | some (.bool b, ρ') => some (b, ρ')
  | _ => none
def ofB (f : XB) : XD := fun ρ => (f ρ).map fun p => (.bool p.1, p.2)
theorem frD_some {f : XF} {ρ ρ' : Ev} {d : D} (h : frD f ρ = some (d, ρ')) : ∃ o, f ρ = some (o, ρ') ∧ d = o.toD := by
  unfold frD at h
  rw [Option.map_eq_some_iff] at h
  obtain ⟨⟨o, r⟩, h1, h2⟩ := h
  cases h2
  exact ⟨o, h1, rfl⟩
theorem toO_some {f : XD} {ρ ρ' : Ev} {o : O} (h : toO f ρ = some (o, ρ')) : ∃ d, f ρ = some (d, ρ') ∧ o = .sh d := by
  unfold toO at h
  rw [Option.map_eq_some_iff] at h
  obtain ⟨⟨d, r⟩, h1, h2⟩ := h
  cases h2
  exact ⟨d, h1, rfl⟩
theorem opE_some {f : XD} {ρ ρ' : Ev} {p : Opd} (h : opE f ρ = some (p, ρ')) : ∃ d, f ρ = some (d, ρ') ∧ p = .vl d := by
  unfold opE at h
  rw [Option.map_eq_some_iff] at h
  obtain ⟨⟨d, r⟩, h1, h2⟩ := h
  cases h2
  exact ⟨d, h1, rfl⟩
theorem toB_some {f : XD} {ρ ρ' : Ev} {b : Bool} (h : toB f ρ = some (b, ρ')) : f ρ = some (.bool b, ρ') := by
  unfold toB at h
  split at h
  · cases h; assumption
  · cases h
theorem ofB_some {f : XB} {ρ ρ' : Ev} {d : D} (h : ofB f ρ = some (d, ρ')) : ∃ b, f ρ = some (b, ρ') ∧ d = .bool b := by
  unfold ofB at h
  rw [Option.map_eq_some_iff] at h
  obtain ⟨⟨d, r⟩, h1, h2⟩ := h
  cases h2
  exact ⟨_, h1, rfl⟩
theorem Kp.frD {f : XF} (k : Kp f) : Kp (frD f) := fun ρ d ρ' h => let ⟨o, h1, _⟩ := frD_some h; k ρ o ρ' h1
theorem Kp.toO {f : XD} (k : Kp f) : Kp (toO f) := fun ρ d ρ' h => let ⟨o, h1, _⟩ := toO_some h; k ρ o ρ' h1
theorem Kp.opE {f : XD} (k : Kp f) : Kp (opE f) := fun ρ d ρ' h => let ⟨o, h1, _⟩ := opE_some h; k ρ o ρ' h1
theorem Kp.toB {f : XD} (k : Kp f) : Kp (toB f) := fun ρ d ρ' h => k ρ _ ρ' (toB_some h)
theorem Kp.ofB {f : XB} (k : Kp f) : Kp (ofB f) := fun ρ d ρ' h => let ⟨o, h1, _⟩ := ofB_some h; k ρ o ρ' h1
theorem opV_some {i : Nat} {ρ ρ' : Ev} {p : Opd} (h : opV i ρ = some (p, ρ')) : ∃ b, ρ[i]? = some (some b) ∧ p = .sl i ∧ ρ' = ρ := by
  unfold opV at h
  split at h
  · rename_i b e
    cases h
    exact ⟨b, e, rfl, rfl⟩
  · cases h
theorem Kp.opV (i : Nat) : Kp (opV i) := fun ρ p ρ' h j b e _ => by obtain ⟨_, _, _, rfl⟩ := opV_some h; exact e

theorem Snd.d {t : TE} {f : XF} (h : Snd K t f) : SndD K t (PL.frD f) := fun anc ρ d ρ' e σ S H fp ok Q q => by
  obtain ⟨o, e1, rfl⟩ := frD_some e
  refine h anc ρ o ρ' e1 σ S H fp ok Q fun v S' H' fo fp' ok' r nd a => ?_
  refine q v (frz S' H' fo) H' fp' (ok'.frozen (nd_apart nd) r.there) (frz_view r) (a.trans (frz_aft r.there (fun b hb => List.mem_append_left _ hb) fun b hb => List.mem_append_right _ hb))
theorem SndD.o {t : TE} {f : XD} (h : SndD K t f) : Snd K t (PL.toO f) := fun anc ρ o ρ' e σ S H fp ok Q q => by
  obtain ⟨d, e1, rfl⟩ := toO_some e
  exact h anc ρ d ρ' e1 σ S H fp ok Q fun v S' H' fp' ok' r a => q v S' H' [] fp' ok' (.sh r) (by simpa using ok'.nd) (by simpa using a)
theorem SndD.p {t : TE} {f : XD} (h : SndD K t f) : SndP K t (PL.opE f) := fun anc ρ o ρ' e σ S H fp ok Q q => by
  obtain ⟨d, e1, rfl⟩ := opE_some e
  exact h anc ρ d ρ' e1 σ S H fp ok Q fun v S' H' fp' ok' r a => q v S' H' fp' ok' r a
theorem sndP_var (i : Nat) : SndP K (tVar i) (opV i) := fun anc ρ p ρ' e σ S H fp ok Q q => by
  obtain ⟨b, hb, rfl, rfl⟩ := opV_some e
  obtain ⟨v, fi, g, e1, e2, e3, e4⟩ := ok.take hb
  exact ⟨v, e2, q v S H fp ok e2 (Aft.refl fun _ h => h)⟩

theorem OpdR.mono {σ : L2.St} {p : Opd} {v : V} (e : Same S S') (h : OpdR K S σ p v) : OpdR K S' σ p v := by
  cases p with
  | sl i => exact h
  | vl d => exact Rep.mono e h
theorem opdRs_mono {σ : L2.St} {ps : List Opd} {vs : List V} (e : Same S S') (h : Paired (OpdR K S σ) ps vs) : Paired (OpdR K S' σ) ps vs := L2.Paired.mapP h fun _ _ r => r.mono e
/-- what an operand is now -/
theorem opd_view {anc : Nat → Option V} {ρ : Ev} {σ : L2.St} {fp : List Addr} {p : Opd} {v : V} {o : O} (ok : StOk K S H anc ρ σ fp) (r : OpdR K S σ p v) (e : p.o ρ = some o) : ∃ f, RepO K S H o v f ∧ ∀ b ∈ f, b ∈ fp := by
  cases p with
  | sl i =>
    simp only [Opd.o] at e
    split at e
    · rename_i b hb
      cases e
      obtain ⟨w, fi, g, e1, e2, e3, e4⟩ := ok.take hb
      have e5 : w = v := by
        have r' : σ[i]? = some (some v) := r
        rw [e2] at r'; cases r'; rfl
      subst e5
      exact ⟨fi, e3, fun b hb => e1.mem_iff.mpr (List.mem_append_left _ hb)⟩
    · cases e
  | vl d =>
    cases e
    exact ⟨[], .sh r, fun _ h => by simp at h⟩
def Views (K : Frag) (S H : Hp) : List O → List V → Prop := Paired fun o v => ∃ f, RepO K S H o v f
def opds (ρ : Ev) : List Opd → Option (List O)
  | [] => some []
  | p :: ps => (p.o ρ).bind fun o => (opds ρ ps).map (o :: ·)
theorem opds_view {anc : Nat → Option V} {ρ : Ev} {σ : L2.St} {fp : List Addr} (ok : StOk K S H anc ρ σ fp) : ∀ {ps : List Opd} {vs : List V} {os : List O}, Paired (OpdR K S σ) ps vs → opds ρ ps = some os → Views K S H os vs
  | _, _, os, .nil, e => by simp [opds] at e; subst e; exact .nil
  | _, _, os, .cons r t, e => by
    simp only [opds, Option.bind_eq_some_iff, Option.map_eq_some_iff] at e
    obtain ⟨o, e1, os', e2, rfl⟩ := e
    obtain ⟨f, h, _⟩ := opd_view ok r e1
    exact .cons ⟨f, h⟩ (opds_view ok t e2)

/-! ### what an operation hands back -/
/-- o' comes new, and nothing that is ours is touched -/
def Gives (K : Frag) (S H : Hp) (o : O) (Q : VK) : Prop := ∀ (v : V) (S' H' : Hp) (fo : List Addr), RepO K S' H' o v fo → Same S' H' → fo.Nodup → Aft [] S H fo S' H' → Q v H'
theorem Gives.sh {d : D} {v : V} {Q : VK} (g : Gives K S H (.sh d) Q) (h : Rep K S d v) (hs : Same S H) : Q v H := g v S H [] (.sh h) hs .nil (Aft.refl fun _ h => h)
theorem Gives.scal {d : D} {v : V} {Q : VK} (g : Gives K S H (.sh d) Q) (hs : Same S H) (h : ∀ S, Rep K S d v) : Q v H := g.sh (h S) hs
theorem Gives.list {os : List O} {vs : List V} {Q : VK} {p : Addr} (g : Gives K S H (.ol os) Q) (hs : Same S H) (hp : H p = none) (h : RepOs K S H os vs []) : Q (.ref p) (upd H p (.lst vs)) := by
  have hS : S p = none := hs.free hp
  refine g (.ref p) S (upd H p (.lst vs)) [p] (.ol upd_same hS (h.keep (Same.refl S) fun _ z => by simp at z)) (fun b o e => ?_) (by simp) ⟨Same.refl S, fun b o e _ => ?_, fun b e => .inl e, fun b hb => .inr ?_⟩
  · rw [upd_ne (ne_of_none e hS)]; exact hs b o e
  · rw [upd_ne (ne_of_none e hp)]; exact e
  · rw [List.mem_singleton.mp hb]; exact hp
theorem Gives.tup {ds : List D} {vs : List V} {Q : VK} {p : Addr} (g : Gives K S H (.sh (.tuple ds)) Q) (hs : Same S H) (hp : H p = none) (h : Reps K S ds vs) : Q (.ref p) (upd H p (.tup vs)) := by
  have hS : S p = none := hs.free hp
  have e1 : Same S (upd S p (.tup vs)) := fun b o e => by rw [upd_ne (ne_of_none e hS)]; exact e
  refine g (.ref p) (upd S p (.tup vs)) (upd H p (.tup vs)) [] (.sh (.tup (.inl (.inl upd_same)) (h.mono e1))) (fun b o e => ?_) .nil ⟨e1, fun b o e _ => ?_, fun b e => ?_, fun b hb => by simp at hb⟩
  · by_cases z : b = p
    · subst z; rw [upd_same] at e; rw [upd_same]; exact e
    · rw [upd_ne z] at e; rw [upd_ne z]; exact hs b o e
  · rw [upd_ne (ne_of_none e hp)]; exact e
  · by_cases z : b = p
    · subst z; exact .inr (.inr hp)
    · rw [upd_ne z] at e; exact .inl e
/-- behind an operation: the whole state -/
theorem gives_of {anc : Nat → Option V} {ρ : Ev} {σ : L2.St} {fp fp1 : List Addr} {o : O} {Q : VK} (ok : StOk K S1 H1 anc ρ σ fp1) (a : Aft fp S H fp1 S1 H1)
    (q : ∀ (v : V) (S' H' : Hp) (fo fp' : List Addr), StOk K S' H' anc ρ σ fp' → RepO K S' H' o v fo → (fo ++ fp').Nodup → Aft fp S H (fo ++ fp') S' H' → Q v H') : Gives K S1 H1 o Q := fun v S' H' fo r hs nd a1 => by
  have hd : ∀ b ∈ fo, b ∉ fp1 := fun b hb z => by
    rcases a1.fps b hb with y | y
    · simp at y
    · obtain ⟨⟨u, e⟩, _⟩ := ok.there b z
      rw [e] at y; cases y
  refine q v S' H' fo fp1 (ok.along a1 hs fun _ _ => by simp) r (List.nodup_append.mpr ⟨nd, ok.nd, fun x hx y hy z => hd x hx (z ▸ hy)⟩) (a.trans (a1.wide (by simp) fun b hb => ?_))
  rcases List.mem_append.mp hb with h | h
  · exact .inl h
  · exact .inr h
theorem gives_wide {o : O} {Q : VK} (g : Gives K S H o Q) {fp1 : List Addr} : Gives K S H o Q := g

/-! ### operations on values: what the rules of the layer ask, for what the data say -/
def UnOk (K : Frag) (r : V → Hp → VK → Prop) (u : O → Option O) : Prop := ∀ (o o' : O), u o = some o' → ∀ (v : V) (S H : Hp) (f : List Addr), Same S H → RepO K S H o v f → ∀ Q : VK, Gives K S H o' Q → r v H Q
def BinOk (K : Frag) (r : R2) (u : O → O → Option O) : Prop := ∀ (o1 o2 o' : O), u o1 o2 = some o' → ∀ (v1 v2 : V) (S H : Hp) (f1 f2 : List Addr), Same S H → RepO K S H o1 v1 f1 → RepO K S H o2 v2 f2 → ∀ Q : VK, Gives K S H o' Q → r v1 v2 H Q
def CallOk (K : Frag) (r : List V → Hp → VK → Prop) (u : List O → Option O) : Prop := ∀ (os : List O) (o' : O), u os = some o' → ∀ (vs : List V) (S H : Hp), Same S H → Views K S H os vs → ∀ Q : VK, Gives K S H o' Q → r vs H Q
def sUn (u : O → Option O) (p : XP) : XF := fun ρ => (p ρ).bind fun x => (x.1.o x.2).bind fun o => (u o).map fun o' => (o', x.2)
def sBin (u : O → O → Option O) (p q : XP) : XF := fun ρ => (p ρ).bind fun x => (q x.2).bind fun y => (x.1.o y.2).bind fun o1 => (y.1.o y.2).bind fun o2 => (u o1 o2).map fun o' => (o', y.2)
def sCall (u : List O → Option O) (f : XA) : XF := fun ρ => (f ρ).bind fun x => (opds x.2 x.1).bind fun os => (u os).map fun o' => (o', x.2)
def aNil : XA := fun ρ => some ([], ρ)
def aCons (p : XP) (f : XA) : XA := fun ρ => (p ρ).bind fun x => (f x.2).map fun y => (x.1 :: y.1, y.2)
theorem snd_un {ta : TE} {p : XP} {r : V → Hp → VK → Prop} {u : O → Option O} (ha : SndP K ta p) (hu : UnOk K r u) : Snd K (tUn r ta) (sUn u p) := fun anc ρ o ρ' e σ S H fp ok Q q => by
  simp only [sUn, Option.bind_eq_some_iff, Option.map_eq_some_iff] at e
  obtain ⟨⟨x, ρ1⟩, e1, o1, e2, o', e3, e4⟩ := e
  cases e4
  exact ha anc ρ x ρ1 e1 σ S H fp ok _ fun v S1 H1 fp1 ok1 r1 a1 => let ⟨f, h, _⟩ := opd_view ok1 r1 e2; hu o1 o e3 v S1 H1 f ok1.sub h Q (gives_of ok1 a1 q)
theorem snd_bin {ta tb : TE} {p p' : XP} {r : R2} {u : O → O → Option O} (ha : SndP K ta p) (hb : SndP K tb p') (hu : BinOk K r u) : Snd K (tOp r ta tb) (sBin u p p') := fun anc ρ o ρ' e σ S H fp ok Q q => by
  simp only [sBin, Option.bind_eq_some_iff, Option.map_eq_some_iff] at e
  obtain ⟨⟨x, ρ1⟩, e1, ⟨y, ρ2⟩, e2, o1, e3, o2, e4, o', e5, e6⟩ := e
  cases e6
  refine ha anc ρ x ρ1 e1 σ S H fp ok _ fun v S1 H1 fp1 ok1 r1 a1 => ?_
  refine hb anc ρ1 y ρ2 e2 σ S1 H1 fp1 ok1 _ fun w S2 H2 fp2 ok2 r2 a2 => ?_
  obtain ⟨f, h, _⟩ := opd_view ok2 (r1.mono a2.sub) e3
  obtain ⟨g, h', _⟩ := opd_view ok2 r2 e4
  exact hu o1 o2 o e5 v w S2 H2 f g ok2.sub h h' Q (gives_of ok2 (a1.trans a2) q)
theorem snd_nil : SndA K tNil aNil := fun anc ρ o ρ' e σ S H fp ok Q q => by
  cases e
  exact q [] S H fp ok .nil (Aft.refl fun _ h => h)
theorem snd_cons {te : TE} {t : TA} {p : XP} {f : XA} (ha : SndP K te p) (hb : SndA K t f) : SndA K (tCons te t) (aCons p f) := fun anc ρ o ρ' e σ S H fp ok Q q => by
  simp only [aCons, Option.bind_eq_some_iff, Option.map_eq_some_iff] at e
  obtain ⟨⟨x, ρ1⟩, e1, ⟨y, ρ2⟩, e2, e3⟩ := e
  cases e3
  refine ha anc ρ x ρ1 e1 σ S H fp ok _ fun v S1 H1 fp1 ok1 r1 a1 => ?_
  refine hb anc ρ1 y ρ2 e2 σ S1 H1 fp1 ok1 _ fun vs S2 H2 fp2 ok2 r2 a2 => ?_
  exact q (v :: vs) S2 H2 fp2 ok2 (.cons (r1.mono a2.sub) r2) (a1.trans a2)
theorem snd_call {ta : TA} {f : XA} {r : List V → Hp → VK → Prop} {u : List O → Option O} (ha : SndA K ta f) (hu : CallOk K r u) : Snd K (tCB r ta) (sCall u f) := fun anc ρ o ρ' e σ S H fp ok Q q => by
  simp only [sCall, Option.bind_eq_some_iff, Option.map_eq_some_iff] at e
  obtain ⟨⟨x, ρ1⟩, e1, os, e2, o', e3, e4⟩ := e
  cases e4
  exact ha anc ρ x ρ1 e1 σ S H fp ok _ fun vs S1 H1 fp1 ok1 r1 a1 => hu os o e3 vs S1 H1 ok1.sub (opds_view ok1 r1 e2) Q (gives_of ok1 a1 q)
theorem Kp.un {p : XP} {u : O → Option O} (k : Kp p) : Kp (sUn u p) := fun ρ o ρ' e => by
  simp only [sUn, Option.bind_eq_some_iff, Option.map_eq_some_iff] at e
  obtain ⟨⟨x, ρ1⟩, e1, o1, e2, o', e3, e4⟩ := e
  cases e4
  exact k ρ _ _ e1
theorem Kp.bin {p q : XP} {u : O → O → Option O} (k : Kp p) (k' : Kp q) : Kp (sBin u p q) := fun ρ o ρ' e i b hb hf => by
  simp only [sBin, Option.bind_eq_some_iff, Option.map_eq_some_iff] at e
  obtain ⟨⟨x, ρ1⟩, e1, ⟨y, ρ2⟩, e2, o1, e3, o2, e4, o', e5, e6⟩ := e
  cases e6
  exact k' _ _ _ e2 i b (k _ _ _ e1 i b hb hf) hf
theorem Kp.anil : Kp aNil := fun ρ o ρ' e i b hb hf => by cases e; exact hb
theorem Kp.acons {p : XP} {f : XA} (k : Kp p) (k' : Kp f) : Kp (aCons p f) := fun ρ o ρ' e i b hb hf => by
  simp only [aCons, Option.bind_eq_some_iff, Option.map_eq_some_iff] at e
  obtain ⟨⟨x, ρ1⟩, e1, ⟨y, ρ2⟩, e2, e3⟩ := e
  cases e3
  exact k' _ _ _ e2 i b (k _ _ _ e1 i b hb hf) hf
theorem Kp.call {f : XA} {u : List O → Option O} (k : Kp f) : Kp (sCall u f) := fun ρ o ρ' e => by
  simp only [sCall, Option.bind_eq_some_iff, Option.map_eq_some_iff] at e
  obtain ⟨⟨x, ρ1⟩, e1, os, e2, o', e3, e4⟩ := e
  cases e4
  exact k ρ _ _ e1
end PL

namespace PL
open PySem PySem.Spec PyProof.Rows L2
variable {K : Frag} {S S' S1 S2 H H' H1 H2 : Hp}

/-! ### sequences, as data and as they stand -/
def O.lst : O → Option (List D)
  | .sh (.list ds) => some ds
  | .sh _ => none
  | .ol os => O.shs os
def O.tup : O → Option (List D)
  | .sh (.tuple ds) => some ds
  | _ => none
def O.seq (o : O) : Option (List D) := o.lst.or o.tup
@[simp] theorem lst_sh (ds : List D) : O.lst (.sh (.list ds)) = some ds := rfl
@[simp] theorem lst_ol (os : List O) : O.lst (.ol os) = O.shs os := rfl
@[simp] theorem tup_sh (ds : List D) : O.tup (.sh (.tuple ds)) = some ds := rfl
@[simp] theorem lst_tup (ds : List D) : O.lst (.sh (.tuple ds)) = none := rfl
@[simp] theorem tup_lst (ds : List D) : O.tup (.sh (.list ds)) = none := rfl
@[simp] theorem tup_ol (os : List O) : O.tup (.ol os) = none := rfl
@[simp] theorem lst_int (i : Int) : O.lst (.sh (.int i)) = none := rfl
@[simp] theorem tup_int (i : Int) : O.tup (.sh (.int i)) = none := rfl
@[simp] theorem lst_str (i : Str) : O.lst (.sh (.str i)) = none := rfl
@[simp] theorem tup_str (i : Str) : O.tup (.sh (.str i)) = none := rfl
theorem O.lst_view {o : O} {ds : List D} {v : V} {f : List Addr} (e : o.lst = some ds) (h : RepO K S H o v f) (hs : Same S H) : ∃ a vs, v = .ref a ∧ SqL K H a vs ∧ Reps K S ds vs := by
  cases h with
  | sh h =>
    rename_i d
    cases d <;> first
      | (simp [O.lst] at e; done)
      | skip
    simp only [lst_sh, Option.some.injEq] at e
    subst e
    obtain ⟨a, vs, rfl, h1, h2⟩ := h.lst_inv
    exact ⟨a, vs, rfl, sqL_mono hs h1, h2⟩
  | ol h1 _ r =>
    rw [lst_ol] at e
    have e' := O.shs_some e
    subst e'
    obtain ⟨_, r'⟩ := r.sh_inv
    exact ⟨_, _, rfl, .inl (.inl h1), r'⟩
theorem O.tup_view {o : O} {ds : List D} {v : V} {f : List Addr} (e : o.tup = some ds) (h : RepO K S H o v f) (hs : Same S H) : ∃ a vs, v = .ref a ∧ SqT K H a vs ∧ Reps K S ds vs := by
  cases h with
  | sh h =>
    rename_i d
    cases d <;> first
      | (simp [O.tup] at e; done)
      | skip
    simp only [tup_sh, Option.some.injEq] at e
    subst e
    obtain ⟨a, vs, rfl, h1, h2⟩ := h.tup_inv
    exact ⟨a, vs, rfl, sqT_mono hs h1, h2⟩
  | ol h1 _ r => cases e
theorem rd_sqL {a : Addr} {vs : List V} (h : SqL K H a vs) : SqL K H a vs := h
theorem int_view {i : Int} {v : V} {f : List Addr} (h : RepO K S H (.sh (.int i)) v f) : v = .int i := by
  cases h with
  | sh h => exact h.int_inv
theorem bl_view {i : Bool} {v : V} {f : List Addr} (h : RepO K S H (.sh (.bool i)) v f) : v = .bl i := by
  cases h with
  | sh h => exact h.bl_inv
theorem str_view {i : Str} {v : V} {f : List Addr} (h : RepO K S H (.sh (.str i)) v f) : v = .str i := by
  cases h with
  | sh h => exact h.str_inv
theorem non_view {v : V} {f : List Addr} (h : RepO K S H (.sh .none) v f) : v = .non := by
  cases h with
  | sh h => exact h.non_inv
theorem now_view {o : O} {v : V} {f : List Addr} (h : RepO K S H o v f) (hs : Same S H) : Rep K H o.toD v := h.view hs fun _ _ => rfl

/-! ### joining rules -/
theorem BinOk.or {r r' : R2} {u u' : O → O → Option O} (h : BinOk K r u) (h' : BinOk K r' u') : BinOk K (fun x y H Q => r x y H Q ∨ r' x y H Q) (fun a b => (u a b).or (u' a b)) := fun o1 o2 o' e v1 v2 S H f1 f2 hs r1 r2 Q g => by
  cases e1 : u o1 o2 with
  | some z =>
    simp only [e1, Option.some_or] at e
    cases e
    exact .inl (h o1 o2 _ e1 v1 v2 S H f1 f2 hs r1 r2 Q g)
  | none =>
    simp only [e1, Option.none_or] at e
    exact .inr (h' o1 o2 o' e v1 v2 S H f1 f2 hs r1 r2 Q g)
theorem UnOk.or {r r' : V → Hp → VK → Prop} {u u' : O → Option O} (h : UnOk K r u) (h' : UnOk K r' u') : UnOk K (fun x H Q => r x H Q ∨ r' x H Q) (fun a => (u a).or (u' a)) := fun o1 o' e v1 S H f1 hs r1 Q g => by
  cases e1 : u o1 with
  | some z =>
    simp only [e1, Option.some_or] at e
    cases e
    exact .inl (h o1 _ e1 v1 S H f1 hs r1 Q g)
  | none =>
    simp only [e1, Option.none_or] at e
    exact .inr (h' o1 o' e v1 S H f1 hs r1 Q g)
theorem CallOk.or {r r' : List V → Hp → VK → Prop} {u u' : List O → Option O} (h : CallOk K r u) (h' : CallOk K r' u') : CallOk K (fun x H Q => r x H Q ∨ r' x H Q) (fun a => (u a).or (u' a)) := fun o1 o' e v1 S H hs r1 Q g => by
  cases e1 : u o1 with
  | some z =>
    simp only [e1, Option.some_or] at e
    cases e
    exact .inl (h o1 _ e1 v1 S H hs r1 Q g)
  | none =>
    simp only [e1, Option.none_or] at e
    exact .inr (h' o1 o' e v1 S H hs r1 Q g)

/-! ### ints -/
/-- two ints, under a condition, to data -/
def uII (C : Int → Int → Bool) (g : Int → Int → D) : O → O → Option O
  | .sh (.int i), .sh (.int j) => if C i j then some (.sh (g i j)) else none
  | _, _ => none
theorem uII_some {C : Int → Int → Bool} {g : Int → Int → D} {a b o : O} (e : uII C g a b = some o) : ∃ i j, a = .sh (.int i) ∧ b = .sh (.int j) ∧ C i j = true ∧ o = .sh (g i j) := by
  unfold uII at e
  split at e
  · split at e
    · cases e; exact ⟨_, _, rfl, rfl, by assumption, rfl⟩
    · cases e
  · cases e
theorem bin_II {C : Int → Int → Bool} {C' : Int → Int → Prop} {g : Int → Int → D} {g' : Int → Int → V} (hC : ∀ i j, C i j = true → C' i j) (hg : ∀ (S : Hp) i j, Rep K S (g i j) (g' i j)) : BinOk K (rI C' g') (uII C g) := fun o1 o2 o' e v1 v2 S H f1 f2 hs r1 r2 Q gv => by
  obtain ⟨i, j, rfl, rfl, h, rfl⟩ := uII_some e
  exact ⟨i, j, int_view r1, int_view r2, hC i j h, gv.scal hs fun S => hg S i j⟩
theorem bin_II0 {g : Int → Int → D} {g' : Int → Int → V} (hg : ∀ (S : Hp) i j, Rep K S (g i j) (g' i j)) : BinOk K (rI0 g') (uII (fun _ _ => true) g) := fun o1 o2 o' e v1 v2 S H f1 f2 hs r1 r2 Q gv => by
  obtain ⟨i, j, rfl, rfl, h, rfl⟩ := uII_some e
  exact ⟨i, j, int_view r1, int_view r2, gv.scal hs fun S => hg S i j⟩
def bigOk (i : Int) : Bool := decide (i.natAbs < 2 ^ 400000)
def mulOk (i j : Int) : Bool := bigOk i && bigOk j
def divOk (_ j : Int) : Bool := decide (0 < j) && decide (j.natAbs < 2 ^ 8000)
def modOk (_ j : Int) : Bool := decide (0 < j)
def powOk (i j : Int) : Bool := decide (0 ≤ j) && decide (j ≤ 1000) && decide (i.natAbs < 2 ^ 4096)
def CPowW (i j : Int) : Prop := 0 ≤ j ∧ (Builtin.Int.intBits i : Int) * j ≤ 2 ^ 27
theorem op_powW {X : Cx} : OpR X (binaryOp .Pow) (rI CPowW fun i j => .int (i ^ j.toNat)) := opI fun _ _ _ _ _ _ _ hc q => pow_int hc.1 hc.2 q
theorem mulOk_c {i j : Int} (h : mulOk i j = true) : CMulW i j := by
  simp only [mulOk, bigOk, Bool.and_eq_true, decide_eq_true_eq] at h
  exact wide_mul h.1 h.2 (by decide) (by decide) (by decide)
theorem divOk_c {i j : Int} (h : divOk i j = true) : CDivW i j := by
  simp only [divOk, Bool.and_eq_true, decide_eq_true_eq] at h
  exact wide_div h.1 h.2 (by decide) (by decide)
theorem powOk_c {i j : Int} (h : powOk i j = true) : CPowW i j := by
  simp only [powOk, Bool.and_eq_true, decide_eq_true_eq] at h
  obtain ⟨⟨h1, h2⟩, h3⟩ := h
  have e := PyProof.Rows.intBits_le h3
  refine ⟨h1, ?_⟩
  have e1 : (Builtin.Int.intBits i : Int) * j ≤ 4096 * 1000 := Int.mul_le_mul (by omega) h2 h1 (by decide)
  exact Int.le_trans e1 (by decide)
def uAddI := uII (fun _ _ => true) fun i j => .int (i + j)
def uSubI := uII (fun _ _ => true) fun i j => .int (i - j)
def uMulI := uII mulOk fun i j => .int (i * j)
def uDivI := uII divOk fun i j => .int (i / j)
def uModI := uII modOk fun i j => .int (i % j)
def uPowI := uII powOk fun i j => .int (i ^ j.toNat)
def uLtI := uII (fun _ _ => true) fun i j => .bool (decide (i < j))
def uLeI := uII (fun _ _ => true) fun i j => .bool (decide (i ≤ j))
def uGtI := uII (fun _ _ => true) fun i j => .bool (decide (j < i))
def uGeI := uII (fun _ _ => true) fun i j => .bool (decide (j ≤ i))
theorem bin_addI : BinOk K (rI0 fun i j => .int (i + j)) uAddI := bin_II0 fun _ _ _ => .int _
theorem bin_subI : BinOk K (rI0 fun i j => .int (i - j)) uSubI := bin_II0 fun _ _ _ => .int _
theorem bin_mulI : BinOk K (rI CMulW fun i j => .int (i * j)) uMulI := bin_II (fun _ _ => mulOk_c) fun _ _ _ => .int _
theorem bin_divI : BinOk K (rI CDivW fun i j => .int (i / j)) uDivI := bin_II (fun _ _ => divOk_c) fun _ _ _ => .int _
theorem bin_modI : BinOk K (rI (fun _ j => 0 < j) fun i j => .int (i % j)) uModI := bin_II (fun _ _ h => by simpa [modOk] using h) fun _ _ _ => .int _
theorem bin_powI : BinOk K (rI CPowW fun i j => .int (i ^ j.toNat)) uPowI := bin_II (fun _ _ => powOk_c) fun _ _ _ => .int _
theorem bin_ltI : BinOk K (rI0 fun i j => .bl (decide (i < j))) uLtI := bin_II0 fun _ _ _ => .bl _
theorem bin_leI : BinOk K (rI0 fun i j => .bl (decide (i ≤ j))) uLeI := bin_II0 fun _ _ _ => .bl _
theorem bin_gtI : BinOk K (rI0 fun i j => .bl (decide (j < i))) uGtI := bin_II0 fun _ _ _ => .bl _
theorem bin_geI : BinOk K (rI0 fun i j => .bl (decide (j ≤ i))) uGeI := bin_II0 fun _ _ _ => .bl _
def uNegI : O → Option O
  | .sh (.int i) => some (.sh (.int (-i)))
  | _ => none
theorem un_negI : UnOk K (rU fun i => .int (-i)) uNegI := fun o o' e v S H f hs r Q g => by
  unfold uNegI at e
  split at e
  · cases e
    exact ⟨_, int_view r, g.scal hs fun _ => .int _⟩
  · cases e

/-! ### == and != of data -/
def shp (o : O) : Bool := SeqAt.shaped o.toD
def uEq : O → O → Option O := fun a b => if shp a && shp b then some (.sh (.bool (PyData.eqv a.toD b.toD))) else none
def uNe : O → O → Option O := fun a b => if shp a && shp b then some (.sh (.bool (!PyData.eqv a.toD b.toD))) else none
theorem view_dp {o : O} {v : V} {f : List Addr} (h : RepO K S H o v f) (hs : Same S H) (c : shp o = true) : Dp K H v o.toD := (now_view h hs).dp (SeqAt.canLay_of_shaped c)
theorem bin_eq : BinOk K (rEqD K) uEq := fun o1 o2 o' e v1 v2 S H f1 f2 hs r1 r2 Q g => by
  unfold uEq at e
  split at e
  · rename_i h
    rw [Bool.and_eq_true] at h
    cases e
    exact ⟨_, _, view_dp r1 hs h.1, view_dp r2 hs h.2, h.1, h.2, g.scal hs fun _ => .bl _⟩
  · cases e
theorem bin_ne : BinOk K (rNeD K) uNe := fun o1 o2 o' e v1 v2 S H f1 f2 hs r1 r2 Q g => by
  unfold uNe at e
  split at e
  · rename_i h
    rw [Bool.and_eq_true] at h
    cases e
    exact ⟨_, _, view_dp r1 hs h.1, view_dp r2 hs h.2, h.1, h.2, g.scal hs fun _ => .bl _⟩
  · cases e
/-! ### is None, is True -/
def D.isNone : D → Bool
  | .none => true
  | _ => false
def O.isNone : O → Bool
  | .sh d => d.isNone
  | .ol _ => false
theorem isNone_view {o : O} {v : V} {f : List Addr} (h : RepO K S H o v f) : decide (v = .non) = o.isNone := by
  cases h with
  | sh h => cases h <;> rfl
  | ol _ _ _ => rfl
def uIs : O → O → Option O
  | a, .sh .none => some (.sh (.bool a.isNone))
  | .sh (.bool a), .sh (.bool b) => some (.sh (.bool (a == b)))
  | _, _ => none
def uIsNot : O → O → Option O
  | a, .sh .none => some (.sh (.bool (!a.isNone)))
  | .sh (.bool a), .sh (.bool b) => some (.sh (.bool (!(a == b))))
  | _, _ => none
theorem bin_is : BinOk K (fun x y H Q => (y = .non ∧ Q (.bl (decide (x = .non))) H) ∨ (∃ a b, x = .bl a ∧ y = .bl b ∧ Q (.bl (decide (a = b))) H)) uIs := fun o1 o2 o' e v1 v2 S H f1 f2 hs r1 r2 Q g => by
  unfold uIs at e
  split at e
  · cases e
    refine .inl ⟨non_view r2, ?_⟩
    rw [isNone_view r1]
    exact g.scal hs fun _ => .bl _
  · cases e
    refine .inr ⟨_, _, bl_view r1, bl_view r2, ?_⟩
    rw [← Bool.beq_eq_decide_eq]
    exact g.scal hs fun _ => .bl _
  · cases e
theorem bin_isNot : BinOk K (fun x y H Q => (y = .non ∧ Q (.bl (!decide (x = .non))) H) ∨ (∃ a b, x = .bl a ∧ y = .bl b ∧ Q (.bl (!decide (a = b))) H)) uIsNot := fun o1 o2 o' e v1 v2 S H f1 f2 hs r1 r2 Q g => by
  unfold uIsNot at e
  split at e
  · cases e
    refine .inl ⟨non_view r2, ?_⟩
    rw [isNone_view r1]
    exact g.scal hs fun _ => .bl _
  · cases e
    refine .inr ⟨_, _, bl_view r1, bl_view r2, ?_⟩
    rw [← Bool.beq_eq_decide_eq]
    exact g.scal hs fun _ => .bl _
  · cases e
end PL

namespace PySem
open Sem (wp)
open AutoSeq1 (wpAny_loadPart')
theorem plListAdd (l : Addr) (xs : Array Value) (n : Nat) (sl : Array (Option Value)) (b : Addr) (ys : Array Value) (k : Nat) (sm : Array (Option Value)) (hz : xs.size + ys.size ≤ sizeLine) :
    Meets (Builtin.«list.__add__» ⟨[.ref l, .ref b], []⟩) (fun _ R s => s.heap.get? l = some ⟨.type "list", none, .seq xs n, sl⟩ ∧ s.heap.get? b = some ⟨.type "list", none, .seq ys k, sm⟩ ∧
      R (.ok (.ret (Value.ref s.heap.objs.size))) { s with heap := s.heap.push { cls := Value.type "list", data := Data.seq (xs ++ ys) }, toks := s.toks }) :=
  .of_wp fun prog w A R s h => by
    obtain ⟨hp, g, d, tk, os⟩ := s
    obtain ⟨hl, hb, h⟩ := h
    have f1 := AutoSeq1.idx_int
    have f2 := AutoSeq1.sub_tuple_tuple
    have f3 := AutoSeq1.sub_list_list
    have f4 := AutoSeq1.sub_tuple_list
    have f5 := AutoSeq1.sub_list_tuple
    wp_walk using wpAny_loadPart' hl, wpAny_loadPart' hb
    exact ⟨_, rfl, h⟩
theorem plIntRmul (a : Int) (t : Tok) (l : Addr) (xs : Array Value) (n : Nat) (sl : Array (Option Value)) :
    Meets (Builtin.«int.__rmul__» ⟨[.int a t, .ref l], []⟩) (fun _ R s => s.heap.get? l = some ⟨.type "list", none, .seq xs n, sl⟩ ∧ R (.ok (.ret Value.notImplemented)) s) :=
  .of_wp fun prog w A R s h => by
    obtain ⟨hp, g, d, tk, os⟩ := s
    obtain ⟨hl, h⟩ := h
    wp_walk
    exact ⟨_, rfl, h⟩
theorem plListMul (l : Addr) (xs : Array Value) (n : Nat) (sl : Array (Option Value)) (x : Int) (u : Tok) (h0 : ¬(!Builtin.List.listFitsIndex x) = true) (h1 : ¬xs.size * x.toNat > (2 ^ 63 - 1) / 8) (h2 : ¬Builtin.List.listTooLong (xs.size * x.toNat) = true) :
    Meets (Builtin.«list.__mul__» ⟨[.ref l, .int x u], []⟩) (fun _ R s => s.heap.get? l = some ⟨.type "list", none, .seq xs n, sl⟩ ∧
      R (.ok (.ret (Value.ref s.heap.objs.size))) { s with heap := s.heap.push { cls := Value.type "list", data := Data.seq (List.foldl (fun x1 x2 => x1 ++ x2) #[] (List.replicate (if xs.isEmpty = true then 0 else x.toNat) xs)) }, toks := s.toks }) :=
  .of_wp fun prog w A R s h => by
    obtain ⟨hp, g, d, tk, os⟩ := s
    obtain ⟨hl, h⟩ := h
    have hsz := AutoListH.joined_fits h2
    wp_walk
    refine wpAny_ite_false (decide_eq_false (Nat.not_lt.mpr hsz)) ?_
    wp_walk
    exact ⟨_, rfl, h⟩
theorem plListExt (l : Addr) (xs : Array Value) (n : Nat) (b : Addr) (ys : Array Value) (k : Nat) (sm : Array (Option Value)) (h0 : ¬(!xs.isEmpty && Builtin.List.listTooLong (xs.size + ys.size)) = true) (h1 : xs.size ≤ sizeLine) (h2 : xs.size + ys.size ≤ sizeLine + 1) :
    Meets (Builtin.«list.extend» ⟨[.ref l, .ref b], []⟩) (fun _ R s => s.heap.get? l = some ⟨.type "list", none, .seq xs n, #[]⟩ ∧ s.heap.get? b = some ⟨.type "list", none, .seq ys k, sm⟩ ∧
      R (.ok (.ret Value.none)) { s with heap := s.heap.update l (Obj.mapSeq fun x => x ++ ys), toks := s.toks }) :=
  .of_wp fun prog w A R s h => by
    obtain ⟨hp, g, d, tk, os⟩ := s
    obtain ⟨hl, hb, h⟩ := h
    have f1 := AutoSeq1.idx_int
    have f2 := AutoSeq1.sub_tuple_tuple
    have f3 := AutoSeq1.sub_list_list
    have f4 := AutoSeq1.sub_tuple_list
    have f5 := AutoSeq1.sub_list_tuple
    have hz' : (xs ++ ys).size ≤ sizeLine + 1 := by rw [Array.size_append]; exact h2
    wp_walk using (wpAny_updateSeq hl rfl (hz := h1) (_hz' := hz')), wpAny_loadPart' hl, wpAny_loadPart' hb
    exact ⟨_, rfl, h⟩
end PySem
namespace PL
open PySem PySem.Spec PyProof.Rows L2
variable {X : Cx}
/-! ### rules by values that the layer lacks -/
/-- a list that may be read, at its object -/
theorem rdM {pins : List (Addr × Obj)} {σ : L2.St} {H : Hp} {s : Shared} {l : Addr} {xs : List V} (I : Inv X pins σ H s) (h : SqL X.K H l xs) :
    xs.length ≤ sizeLine ∧ ∃ (its : List Value) (n : Nat) (sl : Array (Option Value)), Vals xs its ∧ xs.length = its.length ∧ s.heap.get? l = some ⟨.type "list", none, .seq its.toArray n, sl⟩ := by
  obtain ⟨its, r, ⟨⟨c, dd, dt, sl⟩, n, e, hc, hd, hdt⟩, z⟩ := I.list h
  replace hc : c = .type "list" := hc
  replace hd : dd = none := hd
  replace hdt : dt = .seq its.toArray n := hdt
  subst hc hd hdt
  exact ⟨z, its, n, sl, r, r.length, e⟩
def rCatR (K : Frag) : R2 := fun x y H Q => ∃ l b xs zs, x = .ref l ∧ y = .ref b ∧ SqL K H l xs ∧ SqL K H b zs ∧ xs.length + zs.length ≤ sizeLine ∧ ∀ p, H p = none → Q (.ref p) (upd H p (.lst (xs ++ zs)))
theorem op_catR : OpR X (binaryOp .Add) (rCatR X.K) := by
  intro pins s σ H x y v u Q I rx ry h
  obtain ⟨l, b, xs, zs, rfl, rfl, hH, hB, hz, q⟩ := h
  cases rx
  cases ry
  obtain ⟨z, its, n, sl, r, hl, e⟩ := rdM I hH
  obtain ⟨z2, its2, n2, sm, r2, hl2, e2⟩ := rdM I hB
  refine concat_meets ⟨_, e, rfl⟩ ⟨_, e2, rfl⟩ noFill_list_add seq_list_add F.slot_list_add F.entry_list_add (F.args_list_add_2 _ _) (plListAdd l its.toArray n sl b its2.toArray n2 sm (by rw [List.size_toArray, List.size_toArray]; omega)) ⟨e, e2, ?_⟩
  show ∃ v, _
  have ea : its.toArray ++ its2.toArray = (its ++ its2).toArray := by simp
  rw [ea]
  exact ⟨.ref _, _, I.lnew (t' := s.toks) (r.append r2) (by rw [List.length_append]; omega), rfl, q _ I.fresh⟩
def rRepR (K : Frag) : R2 := fun x y H Q => ∃ l k xs, x = .ref l ∧ y = .int k ∧ SqL K H l xs ∧ -(2 ^ 63) ≤ k ∧ k < 2 ^ 63 ∧ xs.length * k.toNat ≤ sizeLine ∧
  ∀ p, H p = none → Q (.ref p) (upd H p (.lst (List.replicate k.toNat xs).flatten))
theorem op_repR : OpR X (binaryOp .Mult) (rRepR X.K) := by
  intro pins s σ H x y v u Q I rx ry h
  obtain ⟨l, k, xs, rfl, rfl, hH, h1, h2, hz, q⟩ := h
  cases rx
  obtain ⟨t, rfl⟩ := ry
  obtain ⟨z, its, n, sl, r, hl, e⟩ := rdM I hH
  have hlen : its.toArray.size * k.toNat ≤ sizeLine := by rw [List.size_toArray, ← hl]; exact hz
  have hcap : ¬ its.toArray.size * k.toNat > (2 ^ 63 - 1) / 8 := by
    have : (sizeLine : Nat) ≤ (2 ^ 63 - 1) / 8 := by decide
    omega
  have hfit : ¬ (!Builtin.List.listFitsIndex k) = true := by
    rw [fitsIndex_both h1 h2]
    exact Bool.false_ne_true
  have hlong : ¬ Builtin.List.listTooLong (its.toArray.size * k.toNat) = true := by
    rw [notLongL hlen]
    exact Bool.false_ne_true
  have hnew : List.foldl (fun x1 x2 => x1 ++ x2) #[] (List.replicate (if its.toArray.isEmpty = true then 0 else k.toNat) its.toArray) = (List.replicate k.toNat its).flatten.toArray := by
    have f0 : ∀ m : Nat, List.foldl (fun x1 x2 => x1 ++ x2) #[] (List.replicate m its.toArray) = (List.replicate m its).flatten.toArray := fun m => by
      have := foldl_rep its m []
      rw [List.nil_append] at this
      exact this
    rw [f0]
    cases its with
    | nil => simp
    | cons a r' => rw [if_neg (by simp)]
  refine wpAny_binaryOp_repeat_ref (T := "list") (U := "int") (by decide) ⟨_, e, rfl⟩ (fun s' => typeIs_int s' k t) noFill_list_mul F.fills_int_mul F.slot_int_rmul repeat_list F.slot_int_index.lookup
    (call_meets F.slot_int_rmul (typeIs_int s k t) F.entry_int_rmul (F.args_int_rmul_2 _ _) (plIntRmul k t l its.toArray n sl)
      ⟨e, rfl, ⟨_, e, rfl⟩, call_meets F.slot_list_mul ⟨_, e, rfl⟩ F.entry_list_mul (F.args_list_mul_2 _ _) (plListMul l its.toArray n sl k t hfit hcap hlong) ⟨e, ?_⟩⟩)
  rw [hnew]
  exact ⟨.ref _, _, I.lnew (t' := s.toks) (r.rep k.toNat) (by rw [PyProof.Rows.lm_len_rep_flat, Nat.mul_comm]; exact hz), rfl, q _ I.fresh⟩

/-- a tuple once: itself -/
theorem tuple_mul1 (l : Addr) (items : Array Value) (n : Nat) (dd : Option Addr) (sl : Array (Option Value)) (u : Tok) :
    Meets (Builtin.«tuple.__mul__» ⟨[.ref l, .int 1 u], []⟩) (fun _ R s => s.heap.get? l = some { cls := .type "tuple", dict := dd, data := .seq items n, slots := sl } ∧ R (.ok (.ret (Value.ref l))) s) :=
  .of_wp fun prog w A R s h => by
    obtain ⟨hp, g, d, tk, os⟩ := s
    obtain ⟨hl, h⟩ := h
    have f1 := AutoSeq1.idx_int
    have c1 : (items.isEmpty || (1 : Int) == 1) = true := by simp
    wp_walk using wpAny_loadPart' hl
    exact ⟨_, rfl, h⟩
def rRepT1 (K : Frag) : R2 := fun x y H Q => ∃ l xs, x = .ref l ∧ y = .int 1 ∧ SqT K H l xs ∧ Q (.ref l) H
theorem op_repT1 : OpR X (binaryOp .Mult) (rRepT1 X.K) := by
  intro pins s σ H x y v u Q I rx ry h
  obtain ⟨l, xs, rfl, rfl, hT, q⟩ := h
  cases rx
  obtain ⟨t, rfl⟩ := ry
  obtain ⟨its, r, ⟨⟨cls, dd, data, sl⟩, ho, hc, n, hd⟩, hs⟩ := I.tuple hT
  simp only at hc hd
  subst hc hd
  refine wpAny_binaryOp_repeat_ref (T := "tuple") (U := "int") (by decide) ⟨_, ho, rfl⟩ (fun s' => typeIs_int s' 1 t) noFill_tuple_mul F.fills_int_mul F.slot_int_rmul repeat_tuple F.slot_int_index.lookup
    (call_meets F.slot_int_rmul (typeIs_int s 1 t) F.entry_int_rmul (F.args_int_rmul_2 _ _) (int_rmul_tuple 1 t l its.toArray n dd sl)
      ⟨ho, rfl, ⟨_, ho, rfl⟩, call_meets F.slot_tuple_mul ⟨_, ho, rfl⟩ F.entry_tuple_mul (F.args_tuple_mul_2 _ _) (tuple_mul1 l its.toArray n dd sl t) ⟨ho, ?_⟩⟩)
  exact ⟨.ref l, H, I, rfl, q⟩

/-! ### t[::-1] of a tuple -/
section
variable {prog : Program} {w : World} {A : Around} {E : Value → Shared → Prop} {s : Shared}
theorem adjust_rev (n : Nat) : Builtin.Slice.sliceAdjust none none (-1) (n : Int) = ((n : Int) - 1, -1) := rfl
theorem places_rev (n : Nat) : Builtin.Slice.slicePlaces ((n : Int) - 1) (-1) (-1) = n := by
  unfold Builtin.Slice.slicePlaces
  rw [if_neg (by decide)]
  by_cases h : (n : Int) - 1 > -1
  · rw [if_pos h]
    have e : ((n : Int) - 1 - -1 - 1) / (- -1) + 1 = n := by
      rw [show -(-1 : Int) = 1 from rfl, Int.ediv_one]
      omega
    rw [e]
    exact Int.toNat_natCast n
  · rw [if_neg h]
    have : n = 0 := by omega
    subst this; rfl
theorem pick_rev (xs : Array Value) : ((List.range xs.size).filterMap fun (m : Nat) => xs[(((xs.size : Nat) : Int) - 1 + (m : Int) * -1).toNat]?).toArray = xs.toList.reverse.toArray := by
  congr 1
  have e : (fun (m : Nat) => xs[(((xs.size : Nat) : Int) - 1 + (m : Int) * -1).toNat]?) = fun (m : Nat) => xs[((xs.size : Int) - 1 - m).toNat]? := by
    funext m
    have : (((xs.size : Nat) : Int) - 1 + (m : Int) * -1) = ((xs.size : Int) - 1 - m) := by omega
    rw [this]
  rw [e]
  apply List.ext_getElem?
  intro i
  have key : ∀ n, n ≤ xs.size → ((List.range n).filterMap fun (m : Nat) => xs[((xs.size : Int) - 1 - m).toNat]?) = xs.toList.reverse.take n := by
    intro n
    induction n with
    | zero => intro _; simp
    | succ n ih =>
      intro hn
      rw [List.range_succ, List.filterMap_append, ih (by omega)]
      have e1 : ((xs.size : Int) - 1 - n).toNat = xs.size - 1 - n := by omega
      have hx : xs[xs.size - 1 - n]? = some xs[xs.size - 1 - n] := Array.getElem?_eq_getElem (by omega)
      simp only [List.filterMap_cons, List.filterMap_nil, e1, hx]
      have e2 : xs.toList.reverse[n]? = some xs[xs.size - 1 - n] := by
        rw [List.getElem?_reverse (by simpa using (by omega : n < xs.size))]
        simp only [Array.length_toList, Array.getElem?_toList]
        exact hx
      rw [List.take_add_one, e2]; rfl
  rw [key xs.size (Nat.le_refl _), List.take_of_length_le (by simp)]
theorem sliceApplied_rev {sl : Addr} {vs : Value} {n : Nat} {Q : Int × Int × Nat → Shared → Prop} (hs : s.heap.IsSliceOf sl .none .none vs) (ps : IsPart vs (some (-1)))
    (h : Q ((n : Int) - 1, -1, n) s) : wpAny (model prog w) A (Builtin.Slice.sliceApplied (.ref sl) (pure (n : Int))) Q E s := by
  obtain ⟨os, hos, hcs, hds⟩ := id hs
  unfold Builtin.Slice.sliceApplied Builtin.Slice.sliceFields
  refine wpAny_bind (wpAny_bind (wpAny_field hos hds (x := .none) rfl (wpAny_bind (wpAny_field hos hds (x := .none) rfl (wpAny_bind (wpAny_field hos hds (x := vs) rfl (wpAny_pure ?_)))))))
  refine wpAny_bind (HT.slicePart_ ps ?_)
  show wpAny _ _ (if ((-1 : Int) == 0) = true then _ else _) _ _ s
  rw [if_neg (by decide)]
  refine wpAny_bind (HT.slicePart_ .none (wpAny_bind (HT.slicePart_ .none (wpAny_bind (wpAny_pure ?_)))))
  show wpAny _ _ (match Builtin.Slice.sliceAdjust none none (-1) (n : Int) with | (lo, hi) => pure (lo, (-1 : Int), Builtin.Slice.slicePlaces lo hi (-1))) _ _ s
  rw [adjust_rev n]
  show wpAny _ _ (pure ((n : Int) - 1, (-1 : Int), Builtin.Slice.slicePlaces ((n : Int) - 1) (-1) (-1))) _ _ s
  rw [places_rev]
  exact wpAny_pure h
theorem getItem_tuple_rev {t sl : Addr} {items : Array Value} {vs : Value} {Q : Value → Shared → Prop} (ht : IsTup s.heap t items) (hs : s.heap.IsSliceOf sl .none .none vs) (ps : IsPart vs (some (-1)))
    (h : Q (.ref s.heap.objs.size) { s with heap := s.heap.push { cls := .type "tuple", data := .seq items.toList.reverse.toArray } })
    (hsz : items.size ≤ sizeLine) : wpAny (model prog w) A (getItem (.ref t) (.ref sl)) Q E s := by
  have htake : sizeOk (.seq items.toList.reverse.toArray) := by
    show items.toList.reverse.toArray.size ≤ sizeLine
    simpa using hsz
  obtain ⟨os, hos, hcs, hds⟩ := id hs
  have hTs : s.TypeIs (.ref sl) "slice" := ⟨os, hos, hcs⟩
  unfold getItem
  try with_reducible refine wpAny_holding ?_
  first | refine wpAny_bind (wpAny_pure ?_) | skip
  refine wpAny_bind (wpAny_sequenceKey ht.typeIs (by decide) ?_)
  refine wpAny_bind (wpAny_callSpecial?_slot (name := Str.ofString "__getitem__") ht.typeIs PyProof.Rows.slot_tuple_getitem
    (wpAny_call_entry PyProof.Rows.slot_tuple_getitem ht.typeIs entry_tuple_getitem ?_ (args_tuple_getitem _ _)))
  show wpAny _ _ (Builtin.Tuple.tupleItemsOf (.ref t) >>= _) _ _ s
  refine wpAny_bind (tupleItemsOf_ ht ?_)
  refine wpAny_bind (wpAny_typeOf hTs ?_)
  rw [if_pos (by decide)]
  refine wpAny_bind (sliceApplied_rev hs ps ?_)
  have hno : ¬ ((((items.size : Nat) : Int) - 1 == 0 && (-1 : Int) == 1 && items.size == items.size) = true) := by
    rw [show ((-1 : Int) == 1) = false from rfl, Bool.and_false, Bool.false_and]
    exact Bool.false_ne_true
  show wpAny _ _ (if (((items.size : Nat) : Int) - 1 == 0 && (-1 : Int) == 1 && items.size == items.size) = true then _ else _) _ _ s
  rw [if_neg hno, pick_rev]
  first
    | exact wpAny_bind (m := Builtin.Tuple.tupleExact _) (wpAny_newObj_type (wpAny_pure ⟨_, rfl, wpAny_pure h⟩) htake)
    | exact wpAny_bind (m := Builtin.Tuple.tupleExact _) (wpAny_newObj_type (wpAny_bind (wpAny_pure (wpAny_pure ⟨_, rfl, wpAny_pure h⟩))) htake)
    | exact wpAny_bind (wpAny_bind (m := Builtin.Tuple.tupleExact _) (wpAny_newObj_type (wpAny_pure (wpAny_pure ⟨_, rfl, wpAny_pure h⟩)) htake))
    | exact wpAny_bind (wpAny_bind (m := Builtin.Tuple.tupleExact _) (wpAny_newObj_type (wpAny_pure ⟨_, rfl, wpAny_pure h⟩) htake))
end
/-- x[::-1], a list or a tuple -/
def kRev (K : Frag) : V → Hp → VK → Prop := fun x H1 Q => (∃ a xs, x = .ref a ∧ SqL K H1 a xs ∧ ∀ p, H1 p = none → Q (.ref p) (upd H1 p (.lst xs.reverse))) ∨ (∃ a xs, x = .ref a ∧ SqT K H1 a xs ∧ ∀ p, H1 p = none → Q (.ref p) (upd H1 p (.tup xs.reverse)))
theorem pe_revA {e : Expr} {te : TE} {k : Nat} {p1 p2 p3 pos : Pos} (he : PE X e te) : PE X (.Subscript e (.Slice none none (some (.UnaryOp .USub (.Constant (.int 1) k p1) p2)) p3) pos) (tUn (kRev X.K) te) := by
  refine ⟨fun pins s σ H Q I h => ?_⟩
  refine Subscript_ (thn (he.run pins s σ H _ I h) fun v s1 ⟨x, H1, I1, r1, q1⟩ => ?_)
  have hst : PO X (some (.UnaryOp .USub (.Constant (.int 1) k p1) p2)) (tPart (tUn (rU fun i => .int (-i)) (tC (.int 1)))) := po_some (pe_un un_neg pe_int)
  rcases q1 with ⟨a, xs, ex, hx, q⟩ | ⟨a, xs, ex, hx, q⟩
  · subst ex
    cases r1
    refine wpAny_Slice (thn (po_none.run pins s1 σ H1 (fun o H2 => o = none ∧ H2 = H1) I1 ⟨rfl, rfl⟩) fun vl s2 ⟨l, H2, I2, pl, el, e2⟩ => ?_)
    subst el e2
    refine thn (po_none.run pins s2 σ H2 (fun o H3 => o = none ∧ H3 = H2) I2 ⟨rfl, rfl⟩) fun vu s3 ⟨u, H3, I3, pu, eu, e3⟩ => ?_
    subst eu e3
    refine thn (hst.run pins s3 σ H3 (fun o H4 => o = some (-1) ∧ H4 = H3) I3 ⟨1, rfl, -1, rfl, rfl, rfl⟩) fun vs s4 ⟨o, H4, I4, ps, eo, e4⟩ => ?_
    subst eo e4
    have I5 : Inv X pins σ H4 { s4 with heap := s4.heap.push { cls := .type "slice", data := .fields #[vl, vu, vs] } } := I4.kept (t' := s4.toks) fun b ob q => Heap.get?_push_of_some _ q
    obtain ⟨its, r, ht, hz⟩ := I5.list hx
    have hlen := r.length
    show wpAny (model X.prog X.w) X.A (subscriptTail e (.Slice none none (some (.UnaryOp .USub (.Constant (.int 1) k p1) p2)) p3) (.ref a) (.ref s4.heap.objs.size)) (EP X pins σ Q) X.xe { s4 with heap := s4.heap.push { cls := .type "slice", data := .fields #[vl, vu, vs] } }
    refine tail_any (ops := [.ref a, .ref s4.heap.objs.size]) ht.isList.typeIs (PySem.slot_list_getitem.lookup) ?_ (by with_unfolding_all rfl)
    refine wpAny_getItem_list_slice ht.isList (Heap.IsSliceOf.new _ vl vu vs) pl pu ps (by decide) ?_ (by rw [List.size_toArray]; omega)
    rw [PySem.W.krv_pick]
    refine ⟨.ref _, _, I5.laid (t' := s4.toks) (o := .lst xs.reverse) (fun b ob q => Heap.get?_push_of_some _ q) (Nat.le_refl _) ?_, rfl, q _ (I5.hok.fresh (Nat.le_refl _))⟩
    exact ⟨by rw [List.length_reverse]; exact hz, _, 0, r.reverse, Heap.get?_push_size _ rfl⟩
  · subst ex
    cases r1
    refine wpAny_Slice (thn (po_none.run pins s1 σ H1 (fun o H2 => o = none ∧ H2 = H1) I1 ⟨rfl, rfl⟩) fun vl s2 ⟨l, H2, I2, pl, el, e2⟩ => ?_)
    subst el e2
    refine thn (po_none.run pins s2 σ H2 (fun o H3 => o = none ∧ H3 = H2) I2 ⟨rfl, rfl⟩) fun vu s3 ⟨u, H3, I3, pu, eu, e3⟩ => ?_
    subst eu e3
    refine thn (hst.run pins s3 σ H3 (fun o H4 => o = some (-1) ∧ H4 = H3) I3 ⟨1, rfl, -1, rfl, rfl, rfl⟩) fun vs s4 ⟨o, H4, I4, ps, eo, e4⟩ => ?_
    subst eo e4
    cases pl
    cases pu
    have I5 : Inv X pins σ H4 { s4 with heap := s4.heap.push { cls := .type "slice", data := .fields #[.none, .none, vs] } } := I4.kept (t' := s4.toks) fun b ob q => Heap.get?_push_of_some _ q
    obtain ⟨its, r, ht, hz⟩ := I5.tuple hx
    have hlen := r.length
    show wpAny (model X.prog X.w) X.A (subscriptTail e (.Slice none none (some (.UnaryOp .USub (.Constant (.int 1) k p1) p2)) p3) (.ref a) (.ref s4.heap.objs.size)) (EP X pins σ Q) X.xe { s4 with heap := s4.heap.push { cls := .type "slice", data := .fields #[.none, .none, vs] } }
    refine tail_any (ops := [.ref a, .ref s4.heap.objs.size]) ht.typeIs (PyProof.Rows.slot_tuple_getitem.lookup) ?_ (by with_unfolding_all rfl)
    refine getItem_tuple_rev ht (Heap.IsSliceOf.new _ .none .none vs) ps ?_ (by rw [List.size_toArray]; omega)
    refine ⟨.ref _, _, I5.laid (t' := s4.toks) (o := .tup xs.reverse) (fun b ob q => Heap.get?_push_of_some _ q) (Nat.le_refl _) ?_, rfl, q _ (I5.hok.fresh (Nat.le_refl _))⟩
    exact ⟨by rw [List.length_reverse]; exact hz, its.reverse, r.reverse, IsTup.new _ _⟩

/-! ### sum of a tuple of ints -/
def rSumT (K : Frag) : List V → Hp → VK → Prop := fun vs H Q => ∃ (a : Addr) (ns : List Int), vs = [V.ref a] ∧ SqT K H a (ns.map V.int) ∧ Q (.int ns.sum) H
theorem cr_sumT (hc : X.calm = true) : CallR X (.builtin "sum") (rSumT X.K) := by
  intro pins s σ H vs us Q I r h
  obtain ⟨a, ns, rfl, hs, q⟩ := h
  obtain ⟨its, rv, hl, _⟩ := I.tuple hs
  rw [Vals.ref1 r]
  have hi : IntsAre its ns := rv.ints
  obtain ⟨xs, e⟩ := hi.allInts.items
  have hn : numsOf (intItems xs).toList = ns := by rw [← e]; exact hi.numsOf
  rw [nums_intItems] at hn
  have hl' : s.heap.IsTuple a (intItems xs) := by rw [← e]; exact hl
  refine PySem.W.ktm_sumG (I.ok.hd hc) hl' fun h' tk t' hk => ?_
  refine ⟨.int ns.sum, H, I.kept hk, ⟨t', ?_⟩, q⟩
  rw [preSum_eq, List.take_of_length_le (by simp), hn]

/-! ### x in a tuple of data -/
def rInT (K : Frag) : R2 := fun x y H Q => ∃ d ds, Dp K H x d ∧ Dp K H y (.tuple ds) ∧ SeqAt.shaped d = true ∧ SeqAt.shaped (.tuple ds) = true ∧ Q (.bl (ds.any fun z => PyData.eqv z d)) H
def rNotInT (K : Frag) : R2 := fun x y H Q => ∃ d ds, Dp K H x d ∧ Dp K H y (.tuple ds) ∧ SeqAt.shaped d = true ∧ SeqAt.shaped (.tuple ds) = true ∧ Q (.bl (!ds.any fun z => PyData.eqv z d)) H
theorem op_inT (hu : X.A.units + 65 < cLine) : OpR X (compareOp .In) (rInT X.K) := by
  intro pins s σ H x y v u Q I rx ry h
  obtain ⟨d, ds, hd, he, sd, se, q⟩ := h
  obtain ⟨as, r1⟩ := Dp.reads I d x v hd rx
  obtain ⟨bs, r2⟩ := Dp.reads I (.tuple ds) y u he ry
  exact SeqAt.in_tuple_reads r2 r1 (SeqAt.canLay_of_shaped se) (SeqAt.canLay_of_shaped sd) (room_in_shaped sd hu) ⟨.bl _, H, I, rfl, q⟩
theorem op_notInT (hu : X.A.units + 65 < cLine) : OpR X (compareOp .NotIn) (rNotInT X.K) := by
  intro pins s σ H x y v u Q I rx ry h
  obtain ⟨d, ds, hd, he, sd, se, q⟩ := h
  obtain ⟨as, r1⟩ := Dp.reads I d x v hd rx
  obtain ⟨bs, r2⟩ := Dp.reads I (.tuple ds) y u he ry
  exact SeqAt.notIn_tuple_reads r2 r1 (SeqAt.canLay_of_shaped se) (SeqAt.canLay_of_shaped sd) (room_in_shaped sd hu) ⟨.bl _, H, I, rfl, q⟩
end PL

namespace PL
open PySem PySem.Spec PyProof.Rows L2
variable {K : Frag} {S S' S1 S2 H H' H1 H2 : Hp}

/-! ### +, * of sequences and texts -/
def uCatS : O → O → Option O
  | .sh (.str a), .sh (.str b) => if a.length + b.length ≤ 16777216 then some (.sh (.str (a ++ b))) else none
  | _, _ => none
theorem bin_catS : BinOk K (fun x y H Q => ∃ i j, x = .str i ∧ y = .str j ∧ i.length + j.length ≤ sizeLine ∧ Q (.str (i ++ j)) H) uCatS := fun o1 o2 o' e v1 v2 S H f1 f2 hs r1 r2 Q g => by
  unfold uCatS at e
  split at e
  · split at e
    · cases e
      exact ⟨_, _, str_view r1, str_view r2, by rw [sizeLine_eq]; assumption, g.scal hs fun _ => .str _⟩
    · cases e
  · cases e
def uCatL (a b : O) : Option O := match a.lst, b.lst with
  | some xs, some ys => if xs.length + ys.length ≤ 16777216 then some (.ol ((xs ++ ys).map .sh)) else none
  | _, _ => none
theorem bin_catL : BinOk K (rCatR K) uCatL := fun o1 o2 o' e v1 v2 S H f1 f2 hs r1 r2 Q g => by
  unfold uCatL at e
  split at e
  · rename_i xs ys e1 e2
    split at e
    · rename_i hl
      cases e
      obtain ⟨a, vs, rfl, h1, q1⟩ := O.lst_view e1 r1 hs
      obtain ⟨b, ws, rfl, h2, q2⟩ := O.lst_view e2 r2 hs
      refine ⟨a, b, vs, ws, rfl, rfl, h1, h2, by rw [← q1.length, ← q2.length, sizeLine_eq]; exact hl, fun p hp => ?_⟩
      exact g.list hs hp (RepOs.of_sh (q1.append q2))
    · cases e
  · cases e
def uCatT (a b : O) : Option O := match a.tup, b.tup with
  | some xs, some ys => if xs.length + ys.length ≤ 16777216 then some (.sh (.tuple (xs ++ ys))) else none
  | _, _ => none
theorem tup_stable {o : O} {ds : List D} {v : V} {f : List Addr} (e : o.tup = some ds) (h : RepO K S H o v f) : Rep K S (.tuple ds) v := by
  cases h with
  | sh h =>
    rename_i d
    cases d <;> first
      | (simp [O.tup] at e; done)
      | skip
    simp only [tup_sh, Option.some.injEq] at e
    subst e
    exact h
  | ol _ _ _ => cases e
theorem nil_of_len {ds : List D} {vs : List V} (r : Reps K S ds vs) : ds = [] ↔ vs = [] := by
  cases r <;> simp
theorem bin_catT : BinOk K (rCatA K) uCatT := fun o1 o2 o' e v1 v2 S H f1 f2 hs r1 r2 Q g => by
  unfold uCatT at e
  split at e
  · rename_i xs ys e1 e2
    split at e
    · rename_i hl
      cases e
      obtain ⟨a, vs, rfl, h1, q1⟩ := O.tup_view e1 r1 hs
      obtain ⟨b, ws, rfl, h2, q2⟩ := O.tup_view e2 r2 hs
      refine ⟨a, b, vs, ws, rfl, rfl, h1, h2, by rw [← q1.length, ← q2.length, sizeLine_eq]; exact hl, fun z => ?_, fun z1 z => ?_, fun z1 z2 p hp => ?_⟩
      · have e3 := (nil_of_len q1).mpr z
        subst e3
        exact g.sh (tup_stable e2 r2) hs
      · have e3 := (nil_of_len q2).mpr z
        subst e3
        rw [List.append_nil] at g
        exact g.sh (tup_stable e1 r1) hs
      · exact g.tup hs hp (q1.append q2)
    · cases e
  · cases e
/-- [..] * n, (..) * n -/
def uRepL (a b : O) : Option O := match a.lst, b with
  | some xs, .sh (.int k) => if -(2 ^ 62) ≤ k ∧ k ≤ 2 ^ 62 ∧ xs.length * k.toNat ≤ 16777216 then some (.ol ((List.replicate k.toNat xs).flatten.map .sh)) else none
  | _, _ => none
theorem bin_repL : BinOk K (rRepR K) uRepL := fun o1 o2 o' e v1 v2 S H f1 f2 hs r1 r2 Q g => by
  unfold uRepL at e
  split at e
  · rename_i xs k e1
    split at e
    · rename_i hl
      cases e
      obtain ⟨a, vs, rfl, h1, q1⟩ := O.lst_view e1 r1 hs
      refine ⟨a, k, vs, rfl, int_view r2, h1, by omega, by omega, by rw [← q1.length, sizeLine_eq]; exact hl.2.2, fun p hp => ?_⟩
      exact g.list hs hp (RepOs.of_sh (q1.rep _))
    · cases e
  · cases e
def uRepT (a b : O) : Option O := match a.tup, b with
  | some xs, .sh (.int k) => if k = 1 then some (.sh (.tuple xs)) else if xs ≠ [] ∧ 2 ≤ k ∧ k ≤ 1000 ∧ xs.length ≤ 1000 then some (.sh (.tuple (List.replicate k.toNat xs).flatten)) else none
  | _, _ => none
theorem bin_repT : BinOk K (fun x y H Q => rRepT1 K x y H Q ∨ rRepT K x y H Q) uRepT := fun o1 o2 o' e v1 v2 S H f1 f2 hs r1 r2 Q g => by
  unfold uRepT at e
  split at e
  · rename_i xs k e1
    obtain ⟨a, vs, rfl, h1, q1⟩ := O.tup_view e1 r1 hs
    split at e
    · rename_i hk
      subst hk
      cases e
      exact .inl ⟨a, vs, rfl, int_view r2, h1, g.sh (tup_stable e1 r1) hs⟩
    · split at e
      · rename_i hl
        cases e
        refine .inr ⟨a, k, vs, rfl, int_view r2, h1, fun z => hl.1 ((nil_of_len q1).mpr z), hl.2.1, hl.2.2.1, by rw [← q1.length]; exact hl.2.2.2, fun p hp => ?_⟩
        exact g.tup hs hp (q1.rep _)
      · cases e
  · cases e

/-! ### items -/
def uIxL (a b : O) : Option O := match a.lst, b with
  | some xs, .sh (.int i) => (atI xs i).map .sh
  | _, _ => none
def uIxT (a b : O) : Option O := match a.tup, b with
  | some xs, .sh (.int i) => (atI xs i).map .sh
  | _, _ => none
def uIxS : O → O → Option O
  | .sh (.str z), .sh (.int i) => if z.length ≤ 16777216 then (atI z.cps.toList i).map fun c => .sh (.str ⟨#[c]⟩) else none
  | _, _ => none
theorem atI_rep {ds : List D} {vs : List V} {i : Int} {d : D} (r : Reps K S ds vs) (e : atI ds i = some d) : ∃ v, atI vs i = some v ∧ Rep K S d v := by
  unfold atI at e ⊢
  rw [Option.bind_eq_some_iff] at e
  obtain ⟨j, e1, e2⟩ := e
  obtain ⟨v, h1, h2⟩ := r.get e2
  exact ⟨v, by rw [← r.length, e1]; exact h1, h2⟩
theorem bin_ixL : BinOk K (rIxL K) uIxL := fun o1 o2 o' e v1 v2 S H f1 f2 hs r1 r2 Q g => by
  unfold uIxL at e
  split at e
  · rename_i xs i e1
    rw [Option.map_eq_some_iff] at e
    obtain ⟨d, e2, rfl⟩ := e
    obtain ⟨a, vs, rfl, h1, q1⟩ := O.lst_view e1 r1 hs
    obtain ⟨v, e3, q2⟩ := atI_rep q1 e2
    exact ⟨a, vs, i, v, rfl, int_view r2, h1, e3, g.sh q2 hs⟩
  · cases e
theorem bin_ixT : BinOk K (rIxT K) uIxT := fun o1 o2 o' e v1 v2 S H f1 f2 hs r1 r2 Q g => by
  unfold uIxT at e
  split at e
  · rename_i xs i e1
    rw [Option.map_eq_some_iff] at e
    obtain ⟨d, e2, rfl⟩ := e
    obtain ⟨a, vs, rfl, h1, q1⟩ := O.tup_view e1 r1 hs
    obtain ⟨v, e3, q2⟩ := atI_rep q1 e2
    exact ⟨a, vs, i, v, rfl, int_view r2, h1, e3, g.sh q2 hs⟩
  · cases e
theorem bin_ixS : BinOk K rIxS uIxS := fun o1 o2 o' e v1 v2 S H f1 f2 hs r1 r2 Q g => by
  unfold uIxS at e
  split at e
  · rename_i z i
    split at e
    · rename_i hz
      rw [Option.map_eq_some_iff] at e
      obtain ⟨c, e2, rfl⟩ := e
      exact ⟨z, i, c, str_view r1, int_view r2, by rw [sizeLine_eq]; exact hz, e2, g.scal hs fun _ => .str _⟩
    · cases e
  · cases e

/-! ### slices -/
def cutD (xs : List D) (lo hi : Option Int) : List D := (xs.drop (HT.sIx xs.length 0 lo)).take (HT.sIx xs.length xs.length hi - HT.sIx xs.length 0 lo)
theorem cut_rep {ds : List D} {vs : List V} (r : Reps K S ds vs) (lo hi : Option Int) : Reps K S (cutD ds lo hi) (cutV vs lo hi) := by
  unfold cutD cutV
  rw [r.length]
  exact (r.drop _).take _
/-- a slice with known ends: for what the data say -/
def SlOk (K : Frag) (r : V → Option Int → Option Int → Hp → VK → Prop) (u : O → Option Int → Option Int → Option O) : Prop := ∀ (o o' : O) (lo hi : Option Int), u o lo hi = some o' → ∀ (v : V) (S H : Hp) (f : List Addr), Same S H → RepO K S H o v f → ∀ Q : VK, Gives K S H o' Q → r v lo hi H Q
theorem SlOk.or {r r' : V → Option Int → Option Int → Hp → VK → Prop} {u u' : O → Option Int → Option Int → Option O} (h : SlOk K r u) (h' : SlOk K r' u') : SlOk K (fun x l k H Q => r x l k H Q ∨ r' x l k H Q) (fun a l k => (u a l k).or (u' a l k)) := fun o1 o' l k e v1 S H f1 hs r1 Q g => by
  cases e1 : u o1 l k with
  | some z =>
    simp only [e1, Option.some_or] at e
    cases e
    exact .inl (h o1 _ l k e1 v1 S H f1 hs r1 Q g)
  | none =>
    simp only [e1, Option.none_or] at e
    exact .inr (h' o1 o' l k e v1 S H f1 hs r1 Q g)
def uSlL (a : O) (lo hi : Option Int) : Option O := a.lst.map fun xs => .ol ((cutD xs lo hi).map .sh)
def uSlT (a : O) (lo hi : Option Int) : Option O := a.tup.map fun xs => .sh (.tuple (cutD xs lo hi))
theorem sl_L : SlOk K (rSlL K) uSlL := fun o o' lo hi e v S H f hs r Q g => by
  unfold uSlL at e
  rw [Option.map_eq_some_iff] at e
  obtain ⟨xs, e1, rfl⟩ := e
  obtain ⟨a, vs, rfl, h1, q1⟩ := O.lst_view e1 r hs
  exact ⟨a, vs, rfl, h1, fun p hp => g.list hs hp (RepOs.of_sh (cut_rep q1 lo hi))⟩
theorem sl_T : SlOk K (rSlA K) uSlT := fun o o' lo hi e v S H f hs r Q g => by
  unfold uSlT at e
  rw [Option.map_eq_some_iff] at e
  obtain ⟨xs, e1, rfl⟩ := e
  obtain ⟨a, vs, rfl, h1, q1⟩ := O.tup_view e1 r hs
  refine ⟨a, vs, rfl, h1, fun z => ?_, fun z p hp => g.tup hs hp (cut_rep q1 lo hi)⟩
  have e2 : cutD xs lo hi = xs := by
    unfold cutD
    rw [q1.length, z.1, z.2, List.drop_zero, Nat.sub_zero, ← q1.length, List.take_length]
  rw [e2] at g
  exact g.sh (tup_stable e1 r) hs
def uRevL (a : O) : Option O := a.lst.map fun xs => .ol (xs.reverse.map .sh)
def uRevT (a : O) : Option O := a.tup.map fun xs => .sh (.tuple xs.reverse)
def uRev (a : O) : Option O := (uRevL a).or (uRevT a)
theorem un_rev : UnOk K (kRev K) uRev := fun o o' e v S H f hs r Q g => by
  unfold uRev at e
  cases e1 : uRevL o with
  | some z =>
    rw [e1, Option.some_or] at e
    cases e
    unfold uRevL at e1
    rw [Option.map_eq_some_iff] at e1
    obtain ⟨xs, e1, rfl⟩ := e1
    obtain ⟨a, vs, rfl, h1, q1⟩ := O.lst_view e1 r hs
    exact .inl ⟨a, vs, rfl, h1, fun p hp => g.list hs hp (RepOs.of_sh q1.reverse)⟩
  | none =>
    rw [e1, Option.none_or] at e
    unfold uRevT at e
    rw [Option.map_eq_some_iff] at e
    obtain ⟨xs, e1, rfl⟩ := e
    obtain ⟨a, vs, rfl, h1, q1⟩ := O.tup_view e1 r hs
    exact .inr ⟨a, vs, rfl, h1, fun p hp => g.tup hs hp q1.reverse⟩

/-! ### in -/
def uIn (neg : Bool) (a b : O) : Option O := match b.toD with
  | .list ds => if shp a && SeqAt.shaped (.list ds) then some (.sh (.bool (neg != ds.any fun z => PyData.eqv z a.toD))) else none
  | .tuple ds => if shp a && SeqAt.shaped (.tuple ds) then some (.sh (.bool (neg != ds.any fun z => PyData.eqv z a.toD))) else none
  | _ => none
theorem bin_in : BinOk K (fun x y H Q => rInD K x y H Q ∨ rInT K x y H Q) (uIn false) := fun o1 o2 o' e v1 v2 S H f1 f2 hs r1 r2 Q g => by
  unfold uIn at e
  split at e
  · rename_i ds e1
    split at e
    · rename_i h
      rw [Bool.and_eq_true] at h
      cases e
      refine .inl ⟨_, ds, view_dp r1 hs h.1, ?_, h.1, h.2, ?_⟩
      · rw [← e1]; exact view_dp r2 hs (by unfold shp; rw [e1]; exact h.2)
      · rw [Bool.false_bne] at g
        exact g.scal hs fun _ => .bl _
    · cases e
  · rename_i ds e1
    split at e
    · rename_i h
      rw [Bool.and_eq_true] at h
      cases e
      refine .inr ⟨_, ds, view_dp r1 hs h.1, ?_, h.1, h.2, ?_⟩
      · rw [← e1]; exact view_dp r2 hs (by unfold shp; rw [e1]; exact h.2)
      · rw [Bool.false_bne] at g
        exact g.scal hs fun _ => .bl _
    · cases e
  · cases e
theorem bin_notIn : BinOk K (fun x y H Q => rNotInD K x y H Q ∨ rNotInT K x y H Q) (uIn true) := fun o1 o2 o' e v1 v2 S H f1 f2 hs r1 r2 Q g => by
  unfold uIn at e
  split at e
  · rename_i ds e1
    split at e
    · rename_i h
      rw [Bool.and_eq_true] at h
      cases e
      refine .inl ⟨_, ds, view_dp r1 hs h.1, ?_, h.1, h.2, ?_⟩
      · rw [← e1]; exact view_dp r2 hs (by unfold shp; rw [e1]; exact h.2)
      · rw [Bool.true_bne] at g
        exact g.scal hs fun _ => .bl _
    · cases e
  · rename_i ds e1
    split at e
    · rename_i h
      rw [Bool.and_eq_true] at h
      cases e
      refine .inr ⟨_, ds, view_dp r1 hs h.1, ?_, h.1, h.2, ?_⟩
      · rw [← e1]; exact view_dp r2 hs (by unfold shp; rw [e1]; exact h.2)
      · rw [Bool.true_bne] at g
        exact g.scal hs fun _ => .bl _
    · cases e
  · cases e

/-! ### built-in functions, by values -/
theorem views1 {o : O} {os : List O} {vs : List V} (h : Views K S H (o :: os) vs) : ∃ v r f, vs = v :: r ∧ RepO K S H o v f ∧ Views K S H os r := by
  cases h with
  | cons h t => obtain ⟨f, h⟩ := h; exact ⟨_, _, f, rfl, h, t⟩
theorem views0 {vs : List V} (h : Views K S H [] vs) : vs = [] := by cases h; rfl
theorem views_one {o : O} {vs : List V} (h : Views K S H [o] vs) : ∃ v f, vs = [v] ∧ RepO K S H o v f := by
  obtain ⟨v, r, f, rfl, h1, h2⟩ := views1 h
  rw [views0 h2]
  exact ⟨v, f, rfl, h1⟩
theorem views_two {o p : O} {vs : List V} (h : Views K S H [o, p] vs) : ∃ v w f g, vs = [v, w] ∧ RepO K S H o v f ∧ RepO K S H p w g := by
  obtain ⟨v, r, f, rfl, h1, h2⟩ := views1 h
  obtain ⟨w, g, rfl, h3⟩ := views_one h2
  exact ⟨v, w, f, g, rfl, h1, h3⟩
def uAbs : List O → Option O
  | [.sh (.int i)] => some (.sh (.int (if i < 0 then -i else i)))
  | _ => none
theorem call_absO : CallOk K (fun xs H Q => ∃ i, xs = [.int i] ∧ Q (.int (if i < 0 then -i else i)) H) uAbs := fun os o' e vs S H hs r Q g => by
  unfold uAbs at e
  split at e
  · cases e
    obtain ⟨v, f, rfl, h⟩ := views_one r
    exact ⟨_, by rw [int_view h], g.scal hs fun _ => .int _⟩
  · cases e
def uInt : List O → Option O
  | [.sh (.int i)] => some (.sh (.int i))
  | [.sh (.bool b)] => some (.sh (.int (if b then 1 else 0)))
  | _ => none
theorem call_intO : CallOk K (fun xs H Q => (∃ i, xs = [.int i] ∧ Q (.int i) H) ∨ ∃ k, xs = [.bl k] ∧ Q (.int (if k then 1 else 0)) H) uInt := fun os o' e vs S H hs r Q g => by
  unfold uInt at e
  split at e
  · cases e
    obtain ⟨v, f, rfl, h⟩ := views_one r
    exact .inl ⟨_, by rw [int_view h], g.scal hs fun _ => .int _⟩
  · cases e
    obtain ⟨v, f, rfl, h⟩ := views_one r
    exact .inr ⟨_, by rw [bl_view h], g.scal hs fun _ => .int _⟩
  · cases e
def uMax2 : List O → Option O
  | [.sh (.int i), .sh (.int j)] => some (.sh (.int (if j > i then j else i)))
  | _ => none
def uMin2 : List O → Option O
  | [.sh (.int i), .sh (.int j)] => some (.sh (.int (if j < i then j else i)))
  | _ => none
theorem call_max2O : CallOk K (fun xs H Q => ∃ i j, xs = [.int i, .int j] ∧ Q (.int (if j > i then j else i)) H) uMax2 := fun os o' e vs S H hs r Q g => by
  unfold uMax2 at e
  split at e
  · cases e
    obtain ⟨v, w, f, f', rfl, h, h'⟩ := views_two r
    exact ⟨_, _, by rw [int_view h, int_view h'], g.scal hs fun _ => .int _⟩
  · cases e
theorem call_min2O : CallOk K (fun xs H Q => ∃ i j, xs = [.int i, .int j] ∧ Q (.int (if j < i then j else i)) H) uMin2 := fun os o' e vs S H hs r Q g => by
  unfold uMin2 at e
  split at e
  · cases e
    obtain ⟨v, w, f, f', rfl, h, h'⟩ := views_two r
    exact ⟨_, _, by rw [int_view h, int_view h'], g.scal hs fun _ => .int _⟩
  · cases e
/-- len -/
def uLen : List O → Option O
  | [.sh (.str x)] => if x.length ≤ 16777216 then some (.sh (.int x.length)) else none
  | [.ol os] => some (.sh (.int os.length))
  | [.sh (.list ds)] => some (.sh (.int ds.length))
  | [.sh (.tuple ds)] => some (.sh (.int ds.length))
  | _ => none
theorem call_lenO : CallOk K (fun xs H Q => ∃ x n, xs = [x] ∧ LenV K x H n ∧ Q (.int n) H) uLen := fun os o' e vs S H hs r Q g => by
  unfold uLen at e
  split at e
  · split at e
    · cases e
      obtain ⟨v, f, rfl, h⟩ := views_one r
      rw [str_view h]
      exact ⟨_, _, rfl, ⟨by rw [sizeLine_eq]; assumption, rfl⟩, g.scal hs fun _ => .int _⟩
    · cases e
  · cases e
    obtain ⟨v, f, rfl, h⟩ := views_one r
    cases h with
    | ol h1 _ q =>
      refine ⟨_, _, rfl, .inl ⟨_, .inl (.inl h1), rfl⟩, ?_⟩
      rw [q.length] at g
      exact g.scal hs fun _ => .int _
  · rename_i ds
    cases e
    obtain ⟨v, f, rfl, h⟩ := views_one r
    obtain ⟨a, vs, rfl, h1, q⟩ := O.lst_view (o := .sh (.list ds)) rfl h hs
    refine ⟨_, _, rfl, .inl ⟨_, h1, rfl⟩, ?_⟩
    rw [q.length] at g
    exact g.scal hs fun _ => .int _
  · rename_i ds
    cases e
    obtain ⟨v, f, rfl, h⟩ := views_one r
    obtain ⟨a, vs, rfl, h1, q⟩ := O.tup_view (o := .sh (.tuple ds)) rfl h hs
    refine ⟨_, _, rfl, .inr ⟨_, h1, rfl⟩, ?_⟩
    rw [q.length] at g
    exact g.scal hs fun _ => .int _
  · cases e
/-- data that are ints, bools -/
def intsOf : List D → Option (List Int)
  | [] => some []
  | .int i :: ds => (intsOf ds).map (i :: ·)
  | _ :: _ => none
theorem intsOf_map : ∀ ns : List Int, intsOf (ns.map .int) = some ns
  | [] => rfl
  | n :: ns => by simp [intsOf, intsOf_map ns]
theorem intsOf_some : ∀ {ds : List D} {ns : List Int}, intsOf ds = some ns → ds = ns.map .int
  | [], ns, h => by simp [intsOf] at h; subst h; rfl
  | .int i :: ds, ns, h => by
    simp only [intsOf, Option.map_eq_some_iff] at h
    obtain ⟨r, h1, rfl⟩ := h
    rw [intsOf_some h1]; rfl
  | .none :: _, _, h => by simp [intsOf] at h
  | .bool _ :: _, _, h => by simp [intsOf] at h
  | .str _ :: _, _, h => by simp [intsOf] at h
  | .list _ :: _, _, h => by simp [intsOf] at h
  | .tuple _ :: _, _, h => by simp [intsOf] at h
  | .dict _ :: _, _, h => by simp [intsOf] at h
def boolsOf : List D → Option (List Bool)
  | [] => some []
  | .bool i :: ds => (boolsOf ds).map (i :: ·)
  | _ :: _ => none
theorem boolsOf_map : ∀ ns : List Bool, boolsOf (ns.map .bool) = some ns
  | [] => rfl
  | n :: ns => by simp [boolsOf, boolsOf_map ns]
theorem boolsOf_some : ∀ {ds : List D} {ns : List Bool}, boolsOf ds = some ns → ds = ns.map .bool
  | [], ns, h => by simp [boolsOf] at h; subst h; rfl
  | .bool i :: ds, ns, h => by
    simp only [boolsOf, Option.map_eq_some_iff] at h
    obtain ⟨r, h1, rfl⟩ := h
    rw [boolsOf_some h1]; rfl
  | .none :: _, _, h => by simp [boolsOf] at h
  | .int _ :: _, _, h => by simp [boolsOf] at h
  | .str _ :: _, _, h => by simp [boolsOf] at h
  | .list _ :: _, _, h => by simp [boolsOf] at h
  | .tuple _ :: _, _, h => by simp [boolsOf] at h
  | .dict _ :: _, _, h => by simp [boolsOf] at h
/-- a call with one list, one tuple -/
def uL1 (k : List D → Option O) : List O → Option O
  | [o] => o.lst.bind k
  | _ => none
def uT1 (k : List D → Option O) : List O → Option O
  | [o] => o.tup.bind k
  | _ => none
theorem uL1_some {k : List D → Option O} {os : List O} {o' : O} (h : uL1 k os = some o') : ∃ o ds, os = [o] ∧ o.lst = some ds ∧ k ds = some o' := by
  unfold uL1 at h
  split at h
  · rw [Option.bind_eq_some_iff] at h
    obtain ⟨ds, h1, h2⟩ := h
    exact ⟨_, ds, rfl, h1, h2⟩
  · cases h
theorem uT1_some {k : List D → Option O} {os : List O} {o' : O} (h : uT1 k os = some o') : ∃ o ds, os = [o] ∧ o.tup = some ds ∧ k ds = some o' := by
  unfold uT1 at h
  split at h
  · rw [Option.bind_eq_some_iff] at h
    obtain ⟨ds, h1, h2⟩ := h
    exact ⟨_, ds, rfl, h1, h2⟩
  · cases h
def kSum (ds : List D) : Option O := (intsOf ds).map fun ns => .sh (.int ns.sum)
theorem call_sumL : CallOk K (rSum K) (uL1 kSum) := fun os o' e vs S H hs r Q g => by
  obtain ⟨o, ds, rfl, e1, e2⟩ := uL1_some e
  unfold kSum at e2
  rw [Option.map_eq_some_iff] at e2
  obtain ⟨ns, e3, rfl⟩ := e2
  obtain ⟨v, f, rfl, h⟩ := views_one r
  obtain ⟨a, vs, rfl, h1, q⟩ := O.lst_view e1 h hs
  rw [intsOf_some e3] at q
  rw [q.ints] at h1
  exact ⟨a, ns, rfl, h1, g.scal hs fun _ => .int _⟩
theorem call_sumT : CallOk K (rSumT K) (uT1 kSum) := fun os o' e vs S H hs r Q g => by
  obtain ⟨o, ds, rfl, e1, e2⟩ := uT1_some e
  unfold kSum at e2
  rw [Option.map_eq_some_iff] at e2
  obtain ⟨ns, e3, rfl⟩ := e2
  obtain ⟨v, f, rfl, h⟩ := views_one r
  obtain ⟨a, vs, rfl, h1, q⟩ := O.tup_view e1 h hs
  rw [intsOf_some e3] at q
  rw [q.ints] at h1
  exact ⟨a, ns, rfl, h1, g.scal hs fun _ => .int _⟩
/-- the greatest, the least of some ints -/
def maxL : List Int → Option Int
  | [] => none
  | x :: xs => some (xs.foldl (fun a b => if b > a then b else a) x)
def minL : List Int → Option Int
  | [] => none
  | x :: xs => some (xs.foldl (fun a b => if b < a then b else a) x)
theorem maxL_spec {ns : List Int} {m : Int} (h : maxL ns = some m) : m ∈ ns ∧ ∀ y ∈ ns, y ≤ m := by
  cases ns with
  | nil => cases h
  | cons x xs =>
    simp only [maxL, Option.some.injEq] at h
    subst h
    have key : ∀ (xs : List Int) (x : Int), (xs.foldl (fun a b => if b > a then b else a) x) ∈ x :: xs ∧ ∀ y ∈ x :: xs, y ≤ xs.foldl (fun a b => if b > a then b else a) x := by
      intro xs
      induction xs with
      | nil => intro x; simp
      | cons b xs ih =>
        intro x
        rw [List.foldl_cons]
        obtain ⟨h1, h2⟩ := ih (if b > x then b else x)
        constructor
        · rcases List.mem_cons.mp h1 with h1 | h1
          · rw [h1]; split <;> simp
          · simp [h1]
        · intro y hy
          have h3 := h2 _ List.mem_cons_self
          rcases List.mem_cons.mp hy with rfl | hy
          · split at h3 <;> rename_i hb
            · rw [if_pos hb]; omega
            · rw [if_neg hb]; exact h3
          · rcases List.mem_cons.mp hy with rfl | hy
            · split at h3 <;> rename_i hb
              · rw [if_pos hb]; exact h3
              · rw [if_neg hb]; omega
            · exact h2 y (List.mem_cons_of_mem _ hy)
    exact key xs x
theorem minL_spec {ns : List Int} {m : Int} (h : minL ns = some m) : m ∈ ns ∧ ∀ y ∈ ns, m ≤ y := by
  cases ns with
  | nil => cases h
  | cons x xs =>
    simp only [minL, Option.some.injEq] at h
    subst h
    have key : ∀ (xs : List Int) (x : Int), (xs.foldl (fun a b => if b < a then b else a) x) ∈ x :: xs ∧ ∀ y ∈ x :: xs, xs.foldl (fun a b => if b < a then b else a) x ≤ y := by
      intro xs
      induction xs with
      | nil => intro x; simp
      | cons b xs ih =>
        intro x
        rw [List.foldl_cons]
        obtain ⟨h1, h2⟩ := ih (if b < x then b else x)
        constructor
        · rcases List.mem_cons.mp h1 with h1 | h1
          · rw [h1]; split <;> simp
          · simp [h1]
        · intro y hy
          have h3 := h2 _ List.mem_cons_self
          rcases List.mem_cons.mp hy with rfl | hy
          · split at h3 <;> rename_i hb
            · rw [if_pos hb]; omega
            · rw [if_neg hb]; exact h3
          · rcases List.mem_cons.mp hy with rfl | hy
            · split at h3 <;> rename_i hb
              · rw [if_pos hb]; exact h3
              · rw [if_neg hb]; omega
            · exact h2 y (List.mem_cons_of_mem _ hy)
    exact key xs x
def kMax (ds : List D) : Option O := (intsOf ds).bind fun ns => (maxL ns).map fun m => .sh (.int m)
def kMin (ds : List D) : Option O := (intsOf ds).bind fun ns => (minL ns).map fun m => .sh (.int m)
theorem call_maxL : CallOk K (rMax K) (uL1 kMax) := fun os o' e vs S H hs r Q g => by
  obtain ⟨o, ds, rfl, e1, e2⟩ := uL1_some e
  unfold kMax at e2
  rw [Option.bind_eq_some_iff] at e2
  obtain ⟨ns, e3, e4⟩ := e2
  rw [Option.map_eq_some_iff] at e4
  obtain ⟨m, e5, rfl⟩ := e4
  obtain ⟨v, f, rfl, h⟩ := views_one r
  obtain ⟨a, vs, rfl, h1, q⟩ := O.lst_view e1 h hs
  rw [intsOf_some e3] at q
  rw [q.ints] at h1
  obtain ⟨m1, m2⟩ := maxL_spec e5
  refine ⟨a, ns, rfl, h1, List.length_pos_of_mem m1, fun m' h1 h2 => ?_⟩
  have : m' = m := Int.le_antisymm (m2 m' h1) (h2 m m1)
  subst this
  exact g.scal hs fun _ => .int _
theorem call_minL : CallOk K (rMin K) (uL1 kMin) := fun os o' e vs S H hs r Q g => by
  obtain ⟨o, ds, rfl, e1, e2⟩ := uL1_some e
  unfold kMin at e2
  rw [Option.bind_eq_some_iff] at e2
  obtain ⟨ns, e3, e4⟩ := e2
  rw [Option.map_eq_some_iff] at e4
  obtain ⟨m, e5, rfl⟩ := e4
  obtain ⟨v, f, rfl, h⟩ := views_one r
  obtain ⟨a, vs, rfl, h1, q⟩ := O.lst_view e1 h hs
  rw [intsOf_some e3] at q
  rw [q.ints] at h1
  obtain ⟨m1, m2⟩ := minL_spec e5
  refine ⟨a, ns, rfl, h1, List.length_pos_of_mem m1, fun m' h1 h2 => ?_⟩
  have : m' = m := Int.le_antisymm (h2 m m1) (m2 m' h1)
  subst this
  exact g.scal hs fun _ => .int _
def kAll (ds : List D) : Option O := (boolsOf ds).map fun bs => .sh (.bool (bs.all id))
def kAny (ds : List D) : Option O := (boolsOf ds).map fun bs => .sh (.bool (bs.any id))
theorem call_allO : CallOk K (rAll K) (uL1 kAll) := fun os o' e vs S H hs r Q g => by
  obtain ⟨o, ds, rfl, e1, e2⟩ := uL1_some e
  unfold kAll at e2
  rw [Option.map_eq_some_iff] at e2
  obtain ⟨ns, e3, rfl⟩ := e2
  obtain ⟨v, f, rfl, h⟩ := views_one r
  obtain ⟨a, vs, rfl, h1, q⟩ := O.lst_view e1 h hs
  rw [boolsOf_some e3] at q
  rw [q.bools] at h1
  exact ⟨a, ns, rfl, h1, g.scal hs fun _ => .bl _⟩
theorem call_anyO : CallOk K (rAny K) (uL1 kAny) := fun os o' e vs S H hs r Q g => by
  obtain ⟨o, ds, rfl, e1, e2⟩ := uL1_some e
  unfold kAny at e2
  rw [Option.map_eq_some_iff] at e2
  obtain ⟨ns, e3, rfl⟩ := e2
  obtain ⟨v, f, rfl, h⟩ := views_one r
  obtain ⟨a, vs, rfl, h1, q⟩ := O.lst_view e1 h hs
  rw [boolsOf_some e3] at q
  rw [q.bools] at h1
  exact ⟨a, ns, rfl, h1, g.scal hs fun _ => .bl _⟩
/-- list(x), tuple(x) -/
def uListOf : List O → Option O
  | [o] => o.seq.map fun ds => .ol (ds.map .sh)
  | _ => none
def uTupleOf : List O → Option O
  | [o] => o.seq.map fun ds => .sh (.tuple ds)
  | _ => none
theorem call_listO : CallOk K (fun xs H Q => ∃ p ys, xs = [.ref p] ∧ (SqL K H p ys ∨ SqT K H p ys) ∧ ∀ l, H l = none → Q (.ref l) (upd H l (.lst ys))) uListOf := fun os o' e vs S H hs r Q g => by
  unfold uListOf at e
  split at e
  · rw [Option.map_eq_some_iff] at e
    obtain ⟨ds, e1, rfl⟩ := e
    obtain ⟨v, f, rfl, h⟩ := views_one r
    unfold O.seq at e1
    rw [Option.or_eq_some_iff] at e1
    rcases e1 with e1 | ⟨_, e1⟩
    · obtain ⟨a, vs, rfl, h1, q⟩ := O.lst_view e1 h hs
      exact ⟨a, vs, rfl, .inl h1, fun l hl => g.list hs hl (RepOs.of_sh q)⟩
    · obtain ⟨a, vs, rfl, h1, q⟩ := O.tup_view e1 h hs
      exact ⟨a, vs, rfl, .inr h1, fun l hl => g.list hs hl (RepOs.of_sh q)⟩
  · cases e
theorem call_tupleO : CallOk K (fun xs H Q => ∃ p ys, xs = [.ref p] ∧ ((SqL K H p ys ∧ ∀ l, H l = none → Q (.ref l) (upd H l (.tup ys))) ∨ (SqT K H p ys ∧ Q (.ref p) H))) uTupleOf := fun os o' e vs S H hs r Q g => by
  unfold uTupleOf at e
  split at e
  · rw [Option.map_eq_some_iff] at e
    obtain ⟨ds, e1, rfl⟩ := e
    obtain ⟨v, f, rfl, h⟩ := views_one r
    unfold O.seq at e1
    rw [Option.or_eq_some_iff] at e1
    rcases e1 with e1 | ⟨_, e1⟩
    · obtain ⟨a, vs, rfl, h1, q⟩ := O.lst_view e1 h hs
      exact ⟨a, vs, rfl, .inl ⟨h1, fun l hl => g.tup hs hl q⟩⟩
    · obtain ⟨a, vs, rfl, h1, q⟩ := O.tup_view e1 h hs
      exact ⟨a, vs, rfl, .inr ⟨h1, g.sh (tup_stable e1 h) hs⟩⟩
  · cases e
/-- a list display, a tuple display of data -/
def uLst (os : List O) : Option O := if os.length ≤ 16777216 then (O.shs os).map fun ds => .ol (ds.map .sh) else none
def uTup (os : List O) : Option O := if os.length ≤ 16777216 then (O.shs os).map fun ds => .sh (.tuple ds) else none
theorem views_shs : ∀ {ds : List D} {vs : List V}, Views K S H (ds.map .sh) vs → Reps K S ds vs
  | [], _, h => by rw [views0 h]; exact .nil
  | d :: ds, _, h => by
    obtain ⟨v, r, f, rfl, h1, h2⟩ := views1 h
    cases h1 with
    | sh h1 => exact .cons h1 (views_shs h2)
theorem call_lstD : CallOk K (fun xs H Q => xs.length ≤ sizeLine ∧ ∀ p, H p = none → Q (.ref p) (upd H p (.lst xs))) uLst := fun os o' e vs S H hs r Q g => by
  unfold uLst at e
  split at e
  · rename_i hl
    rw [Option.map_eq_some_iff] at e
    obtain ⟨ds, e1, rfl⟩ := e
    have e2 := O.shs_some e1
    subst e2
    have q := views_shs r
    exact ⟨by rw [← q.length, sizeLine_eq]; simpa using hl, fun p hp => g.list hs hp (RepOs.of_sh q)⟩
  · cases e
theorem call_tupD : CallOk K (fun xs H Q => xs.length ≤ sizeLine ∧ ∀ p, H p = none → Q (.ref p) (upd H p (.tup xs))) uTup := fun os o' e vs S H hs r Q g => by
  unfold uTup at e
  split at e
  · rename_i hl
    rw [Option.map_eq_some_iff] at e
    obtain ⟨ds, e1, rfl⟩ := e
    have e2 := O.shs_some e1
    subst e2
    have q := views_shs r
    exact ⟨by rw [← q.length, sizeLine_eq]; simpa using hl, fun p hp => g.tup hs hp q⟩
  · cases e
/-- isinstance -/
def tyD : D → String
  | .none => "NoneType" | .bool _ => "bool" | .int _ => "int" | .str _ => "str" | .list _ => "list" | .tuple _ => "tuple" | .dict _ => "dict"
def tyO : O → String
  | .sh d => tyD d
  | .ol _ => "list"
def instOf (t : String) (T : String) : Bool := t == T || (t == "bool" && T == "int")
def clsOk (T : String) : Bool := ["bool", "int", "str", "list", "tuple", "dict"].contains T
theorem Rep.tyx {d : D} {v : V} (h : Rep K S d v) (hs : Same S H) : TyX K H v (.type (tyD d)) := by
  cases h with
  | non => exact .base .non
  | bl b => exact .base (.bl b)
  | int i => exact .base (.int i)
  | str x => exact .base (.str x)
  | lst h _ =>
    rcases sqL_mono hs h with (h | ⟨o, h⟩) | ⟨o, its, n, hk, hc, _⟩
    · exact .base (.lst h)
    · exact .base (.frz h)
    · exact .kList hk hc
  | tup h _ =>
    rcases sqT_mono hs h with (h | ⟨o, h⟩) | ⟨o, its, n, hk, hc, _⟩
    · exact .base (.tup h)
    · exact .fTuple h
    · exact .kTuple hk hc
  | dct h _ _ => exact .base (.dK (hs _ _ h))
theorem RepO.tyx {o : O} {v : V} {f : List Addr} (h : RepO K S H o v f) (hs : Same S H) : TyX K H v (.type (tyO o)) := by
  cases h with
  | sh h => exact h.tyx hs
  | ol h1 _ _ => exact .base (.lst h1)
theorem kit_inst {t T : String} (ht : ["NoneType", "bool", "int", "str", "list", "tuple", "dict"].contains t = true) (hT : clsOk T = true) : PySem.W.kitOne K (.type t) (.type T) = some (instOf t T) := by
  apply kit_ty
  simp only [List.contains_eq_mem, List.mem_cons, List.not_mem_nil, or_false, decide_eq_true_eq, clsOk] at ht hT
  rcases ht with rfl | rfl | rfl | rfl | rfl | rfl | rfl <;> rcases hT with rfl | rfl | rfl | rfl | rfl | rfl <;> decide +kernel
theorem tyD_in (d : D) : ["NoneType", "bool", "int", "str", "list", "tuple", "dict"].contains (tyD d) = true := by cases d <;> simp [tyD]
theorem tyO_in (o : O) : ["NoneType", "bool", "int", "str", "list", "tuple", "dict"].contains (tyO o) = true := by
  cases o with
  | sh d => exact tyD_in d
  | ol _ => simp [tyO]
def uIsi (T : String) : O → Option O := fun o => if clsOk T then some (.sh (.bool (instOf (tyO o) T))) else none
def uIsi2 (T U : String) : O → Option O := fun o => if clsOk T && clsOk U then some (.sh (.bool (instOf (tyO o) T || instOf (tyO o) U))) else none
theorem un_isi {T : String} : UnOk K (fun x H Q => rIsi K [x, .ty T] H Q) (uIsi T) := fun o o' e v S H f hs r Q g => by
  unfold uIsi at e
  split at e
  · rename_i hT
    cases e
    exact ⟨v, .ty T, _, _, _, rfl, .ty T, r.tyx hs, kit_inst (tyO_in o) hT, g.scal hs fun _ => .bl _⟩
  · cases e
theorem un_isi2 {T U : String} : UnOk K (fun x H Q => 2 ≤ sizeLine ∧ ∀ p, H p = none → rIsiT K [x, .ref p] (upd H p (.tup [.ty T, .ty U])) Q) (uIsi2 T U) := fun o o' e v S H f hs r Q g => by
  unfold uIsi2 at e
  split at e
  · rename_i hT
    rw [Bool.and_eq_true] at hT
    cases e
    refine ⟨by rw [sizeLine_eq]; decide, fun p hp => ?_⟩
    have hS : Same H (upd H p (.tup [.ty T, .ty U])) := fun b o' eb => by rw [upd_ne (ne_of_none eb hp)]; exact eb
    refine ⟨v, p, [.ty T, .ty U], _, [.type T, .type U], _, rfl, upd_same, .cons (.ty T) (.cons (.ty U) .nil), ?_, kitAny_cons (b := instOf (tyO o) T) (r := instOf (tyO o) T || instOf (tyO o) U) (kit_inst (tyO_in o) hT.1) (fun hb => ?_) (fun hb => by rw [hb]; rfl), ?_⟩
    · have t := r.tyx hs
      cases r with
      | sh h => exact h.tyx (hs.trans hS)
      | ol h1 _ _ => exact .base (.lst (hS _ _ h1))
    · rw [hb, Bool.false_or]
      exact kitAny_cons (b := instOf (tyO o) U) (kit_inst (tyO_in o) hT.2) (fun hb => by rw [hb]; rfl) (fun hb => hb)
    · exact g _ S _ [] (.sh (.bl _)) (hs.trans hS) .nil ⟨Same.refl S, fun b o' eb _ => hS b o' eb, fun b eb => .inl eb, fun b hb => by simp at hb⟩
  · cases e
end PL

namespace PL
open PySem PySem.Spec PyProof.Rows L2
variable {K : Frag} {S S' S1 S2 H H' H1 H2 : Hp}

/-! ### names and constants -/
/-- a name's value, as one that others may hold too: what was owned is frozen -/
def dVar (i : Nat) : XD := fun ρ => match ρ[i]? with
  | some (some (.ow (.sh d))) => some (d, ρ)
  | some (some (.ow (.ol os))) => some (O.toD (.ol os), ρ.set i (some (.ow (.sh (O.toD (.ol os))))))
  | some (some (.lk (.sh d))) => some (d, ρ)
  | some (some (.pa _ (.sh d))) => some (d, ρ)
  | _ => none
/-- a name's value, handed on: the name holds nothing behind it -/
def mVar (i : Nat) : XF := fun ρ => match ρ[i]? with
  | some (some (.ow o)) => some (o, ρ.set i none)
  | some (some (.lk (.sh d))) => some (.sh d, ρ)
  | some (some (.pa _ (.sh d))) => some (.sh d, ρ)
  | _ => none
theorem set_none_some {ρ : Ev} {i : Nat} {b : Bd} : (ρ.set i none).set i (some b) = ρ.set i (some b) := List.set_set ..
theorem snd_dVar (i : Nat) : SndD K (tVar i) (dVar i) := fun anc ρ d ρ' e σ S H fp ok Q q => by
  have same : ∀ (b : Bd), ρ[i]? = some (some b) → b.o = .sh d → ρ' = ρ → tVar i σ H Q := fun b hb ho hr => by
    subst hr
    obtain ⟨v, fi, g, e1, e2, e3, e4⟩ := ok.take hb
    rw [ho] at e3
    cases e3 with
    | sh h => exact ⟨v, e2, q v S H fp ok h (Aft.refl fun _ h => h)⟩
  unfold dVar at e
  split at e
  · rename_i d' hb; cases e; exact same _ hb rfl rfl
  · rename_i os hb
    cases e
    obtain ⟨v, fi, g, e1, e2, e3, e4⟩ := ok.take hb
    have e3' : RepO K S H (.ol os) v fi := e3
    have nd := e1.nodup_iff.mp ok.nd
    refine ⟨v, e2, q v (frz S H fi) H g ?_ (frz_view e3') (frz_aft e3'.there (fun b hb => e1.mem_iff.mpr (List.mem_append_left _ hb)) fun b hb => e1.mem_iff.mpr (List.mem_append_right _ hb))⟩
    have ok' : StOk K (frz S H fi) H anc (ρ.set i none) σ g := e4.frozen (nd_apart nd) e3'.there
    have hl : i < ρ.length := (List.getElem?_eq_some_iff.mp hb).1
    have := ok'.put (b := .ow (.sh (O.toD (.ol os)))) (fi := []) (v := v) (by rw [List.getElem?_set_self hl]) (.sh (frz_view e3')) (by simpa using ok'.nd) (fun z => by cases z)
    rw [set_none_some, set_self e2] at this
    exact this
  · rename_i d' hb; cases e; exact same _ hb rfl rfl
  · rename_i io d' hb; cases e; exact same _ hb rfl rfl
  · cases e
theorem snd_mVar (i : Nat) : Snd K (tVar i) (mVar i) := fun anc ρ o ρ' e σ S H fp ok Q q => by
  have same : ∀ (b : Bd) (d : D), ρ[i]? = some (some b) → b.o = .sh d → o = .sh d → ρ' = ρ → tVar i σ H Q := fun b d hb ho h2 hr => by
    subst hr h2
    obtain ⟨v, fi, g, e1, e2, e3, e4⟩ := ok.take hb
    rw [ho] at e3
    cases e3 with
    | sh h => exact ⟨v, e2, q v S H [] fp ok (.sh h) (by simpa using ok.nd) (Aft.refl fun _ h => h)⟩
  unfold mVar at e
  split at e
  · rename_i o' hb
    cases e
    obtain ⟨v, fi, g, e1, e2, e3, e4⟩ := ok.take hb
    exact ⟨v, e2, q v S H fi g e4 e3 (e1.nodup_iff.mp ok.nd) (Aft.refl fun b h => e1.mem_iff.mpr h)⟩
  · rename_i d' hb; cases e; exact same _ _ hb rfl rfl rfl
  · rename_i io d' hb; cases e; exact same _ _ hb rfl rfl rfl
  · cases e
theorem Kp.dVar (i : Nat) : Kp (dVar i) := fun ρ d ρ' e j b hb hf => by
  unfold PL.dVar at e
  split at e
  · cases e; exact hb
  · rename_i os h
    cases e
    by_cases z : i = j
    · subst z
      rw [h] at hb
      cases hb
      cases hf
    · rw [List.getElem?_set_ne z]; exact hb
  · cases e; exact hb
  · cases e; exact hb
  · cases e
theorem Kp.mVar (i : Nat) : Kp (mVar i) := fun ρ d ρ' e j b hb hf => by
  unfold PL.mVar at e
  split at e
  · rename_i os h
    cases e
    by_cases z : i = j
    · subst z
      rw [h] at hb
      cases hb
      cases hf
    · rw [List.getElem?_set_ne z]; exact hb
  · cases e; exact hb
  · cases e; exact hb
  · cases e
def dC (d : D) : XD := fun ρ => some (d, ρ)
theorem snd_dC {d : D} {v : V} (h : ∀ S, Rep K S d v) : SndD K (tC v) (dC d) := fun anc ρ d' ρ' e σ S H fp ok Q q => by
  cases e
  exact q v S H fp ok (h S) (Aft.refl fun _ h => h)
theorem Kp.dC (d : D) : Kp (dC d) := fun ρ d' ρ' e j b hb hf => by cases e; exact hb

/-! ### tests -/
def bAnd (f g : XB) : XB := fun ρ => (f ρ).bind fun x => if x.1 then g x.2 else some (false, x.2)
def bOr (f g : XB) : XB := fun ρ => (f ρ).bind fun x => if x.1 then some (true, x.2) else g x.2
def bNot (f : XB) : XB := fun ρ => (f ρ).map fun x => (!x.1, x.2)
theorem SndD.b {t : TE} {f : XD} (h : SndD K t f) : SndB K (tTest t) (PL.toB f) := fun anc ρ c ρ' e σ S H fp ok Q q => by
  exact h anc ρ _ ρ' (toB_some e) σ S H fp ok _ fun v S' H' fp' ok' r a => ⟨c, r.bl_inv, q S' H' fp' ok' a⟩
theorem SndD.b' {t : TE} {f : XD} (h : SndD K t f) : SndB K (tB t) (PL.toB f) := fun anc ρ c ρ' e σ S H fp ok Q q => by
  exact h anc ρ _ ρ' (toB_some e) σ S H fp ok _ fun v S' H' fp' ok' r a => ⟨c, r.bl_inv, q S' H' fp' ok' a⟩
theorem bAnd_some {f g : XB} {ρ ρ' : Ev} {c : Bool} (e : bAnd f g ρ = some (c, ρ')) : (∃ ρ1, f ρ = some (true, ρ1) ∧ g ρ1 = some (c, ρ')) ∨ (f ρ = some (false, ρ') ∧ c = false) := by
  unfold bAnd at e
  rw [Option.bind_eq_some_iff] at e
  obtain ⟨⟨b, ρ1⟩, e1, e2⟩ := e
  cases b with
  | true => exact .inl ⟨ρ1, e1, e2⟩
  | false => cases e2; exact .inr ⟨e1, rfl⟩
theorem bOr_some {f g : XB} {ρ ρ' : Ev} {c : Bool} (e : bOr f g ρ = some (c, ρ')) : (f ρ = some (true, ρ') ∧ c = true) ∨ (∃ ρ1, f ρ = some (false, ρ1) ∧ g ρ1 = some (c, ρ')) := by
  unfold bOr at e
  rw [Option.bind_eq_some_iff] at e
  obtain ⟨⟨b, ρ1⟩, e1, e2⟩ := e
  cases b with
  | true => cases e2; exact .inl ⟨e1, rfl⟩
  | false => exact .inr ⟨ρ1, e1, e2⟩
theorem bNot_some {f : XB} {ρ ρ' : Ev} {c : Bool} (e : bNot f ρ = some (c, ρ')) : f ρ = some (!c, ρ') := by
  unfold bNot at e
  rw [Option.map_eq_some_iff] at e
  obtain ⟨⟨b, ρ1⟩, e1, e2⟩ := e
  cases e2
  rw [Bool.not_not]; exact e1
theorem snd_and {t u : TT} {f g : XB} (hf : SndB K t f) (hg : SndB K u g) : SndB K (tAnd t u) (bAnd f g) := fun anc ρ c ρ' e σ S H fp ok Q q => by
  rcases bAnd_some e with ⟨ρ1, e1, e2⟩ | ⟨e1, rfl⟩
  · refine hf anc ρ true ρ1 e1 σ S H fp ok _ fun S' H' fp' ok' a => ?_
    show u σ H' Q
    exact hg anc ρ1 c ρ' e2 σ S' H' fp' ok' Q fun S2 H2 fp2 ok2 a2 => q S2 H2 fp2 ok2 (a.trans a2)
  · exact hf anc ρ false ρ' e1 σ S H fp ok _ fun S' H' fp' ok' a => q S' H' fp' ok' a
theorem snd_or {t u : TT} {f g : XB} (hf : SndB K t f) (hg : SndB K u g) : SndB K (tOr t u) (bOr f g) := fun anc ρ c ρ' e σ S H fp ok Q q => by
  rcases bOr_some e with ⟨e1, rfl⟩ | ⟨ρ1, e1, e2⟩
  · exact hf anc ρ true ρ' e1 σ S H fp ok _ fun S' H' fp' ok' a => q S' H' fp' ok' a
  · refine hf anc ρ false ρ1 e1 σ S H fp ok _ fun S' H' fp' ok' a => ?_
    show u σ H' Q
    exact hg anc ρ1 c ρ' e2 σ S' H' fp' ok' Q fun S2 H2 fp2 ok2 a2 => q S2 H2 fp2 ok2 (a.trans a2)
theorem snd_not {t : TT} {f : XB} (hf : SndB K t f) : SndB K (tNot t) (bNot f) := fun anc ρ c ρ' e σ S H fp ok Q q =>
  hf anc ρ (!c) ρ' (bNot_some e) σ S H fp ok _ fun S' H' fp' ok' a => by rw [Bool.not_not]; exact q S' H' fp' ok' a
/-- a test that is known to come by a value: t's reading says it with a value -/
def SndV (K : Frag) (t : TE) (f : XB) : Prop := SndD K t (ofB f)
theorem ofB_toB {f : XD} {ρ ρ' : Ev} {d : D} (h : ofB (toB f) ρ = some (d, ρ')) : f ρ = some (d, ρ') := by
  obtain ⟨b, e, rfl⟩ := ofB_some h
  exact toB_some e
theorem SndD.v {t : TE} {f : XD} (h : SndD K t f) : SndV K t (PL.toB f) := fun anc ρ d ρ' e => h anc ρ d ρ' (ofB_toB e)
theorem ofB_mk {f : XB} {ρ ρ' : Ev} {b : Bool} (h : f ρ = some (b, ρ')) : ofB f ρ = some (.bool b, ρ') := by unfold ofB; rw [h]; rfl
theorem snd_andV {ta tb : TE} {f g : XB} (hf : SndV K ta f) (hg : SndV K tb g) : SndV K (tAndV ta tb) (bAnd f g) := fun anc ρ d ρ' e σ S H fp ok Q q => by
  obtain ⟨c, ee, rfl⟩ := ofB_some e
  rcases bAnd_some ee with ⟨ρ1, e1, e2⟩ | ⟨e1, rfl⟩
  · refine hf anc ρ _ ρ1 (ofB_mk e1) σ S H fp ok _ fun v S' H' fp' ok' r a => ⟨true, r.bl_inv, ?_⟩
    show tb σ H' Q
    exact hg anc ρ1 _ ρ' (ofB_mk e2) σ S' H' fp' ok' Q fun v2 S2 H2 fp2 ok2 r2 a2 => q v2 S2 H2 fp2 ok2 r2 (a.trans a2)
  · refine hf anc ρ _ ρ' (ofB_mk e1) σ S H fp ok _ fun v S' H' fp' ok' r a => ⟨false, r.bl_inv, ?_⟩
    show Q (.bl false) H'
    exact q _ S' H' fp' ok' (.bl false) a
theorem snd_orV {ta tb : TE} {f g : XB} (hf : SndV K ta f) (hg : SndV K tb g) : SndV K (tOrV ta tb) (bOr f g) := fun anc ρ d ρ' e σ S H fp ok Q q => by
  obtain ⟨c, ee, rfl⟩ := ofB_some e
  rcases bOr_some ee with ⟨e1, rfl⟩ | ⟨ρ1, e1, e2⟩
  · refine hf anc ρ _ ρ' (ofB_mk e1) σ S H fp ok _ fun v S' H' fp' ok' r a => ⟨true, r.bl_inv, ?_⟩
    show Q (.bl true) H'
    exact q _ S' H' fp' ok' (.bl true) a
  · refine hf anc ρ _ ρ1 (ofB_mk e1) σ S H fp ok _ fun v S' H' fp' ok' r a => ⟨false, r.bl_inv, ?_⟩
    show tb σ H' Q
    exact hg anc ρ1 _ ρ' (ofB_mk e2) σ S' H' fp' ok' Q fun v2 S2 H2 fp2 ok2 r2 a2 => q v2 S2 H2 fp2 ok2 r2 (a.trans a2)
theorem snd_notV {ta : TE} {f : XB} (hf : SndV K ta f) : SndV K (tNotV ta) (bNot f) := fun anc ρ d ρ' e σ S H fp ok Q q => by
  obtain ⟨c, ee, rfl⟩ := ofB_some e
  refine hf anc ρ _ ρ' (ofB_mk (bNot_some ee)) σ S H fp ok _ fun v S' H' fp' ok' r a => ⟨!c, r.bl_inv, ?_⟩
  rw [Bool.not_not]
  exact q _ S' H' fp' ok' (.bl c) a
theorem Kp.band {f g : XB} (k : Kp f) (k' : Kp g) : Kp (bAnd f g) := fun ρ c ρ' e i b hb hf => by
  rcases bAnd_some e with ⟨ρ1, e1, e2⟩ | ⟨e1, rfl⟩
  · exact k' _ _ _ e2 i b (k _ _ _ e1 i b hb hf) hf
  · exact k _ _ _ e1 i b hb hf
theorem Kp.bor {f g : XB} (k : Kp f) (k' : Kp g) : Kp (bOr f g) := fun ρ c ρ' e i b hb hf => by
  rcases bOr_some e with ⟨e1, rfl⟩ | ⟨ρ1, e1, e2⟩
  · exact k _ _ _ e1 i b hb hf
  · exact k' _ _ _ e2 i b (k _ _ _ e1 i b hb hf) hf
theorem Kp.bnot {f : XB} (k : Kp f) : Kp (bNot f) := fun ρ c ρ' e i b hb hf => k _ _ _ (bNot_some e) i b hb hf

/-! ### a if c else b -/
def sIf (c : XB) (f g : XF) : XF := fun ρ => (c ρ).bind fun x => if x.1 then f x.2 else g x.2
theorem sIf_some {c : XB} {f g : XF} {ρ ρ' : Ev} {o : O} (e : sIf c f g ρ = some (o, ρ')) : ∃ ρ1, (c ρ = some (true, ρ1) ∧ f ρ1 = some (o, ρ')) ∨ (c ρ = some (false, ρ1) ∧ g ρ1 = some (o, ρ')) := by
  unfold sIf at e
  rw [Option.bind_eq_some_iff] at e
  obtain ⟨⟨b, ρ1⟩, e1, e2⟩ := e
  cases b with
  | true => exact ⟨ρ1, .inl ⟨e1, e2⟩⟩
  | false => exact ⟨ρ1, .inr ⟨e1, e2⟩⟩
theorem snd_if {t : TT} {ta tb : TE} {c : XB} {f g : XF} (hc : SndB K t c) (ha : Snd K ta f) (hb : Snd K tb g) : Snd K (tIf t ta tb) (sIf c f g) := fun anc ρ o ρ' e σ S H fp ok Q q => by
  obtain ⟨ρ1, ⟨e1, e2⟩ | ⟨e1, e2⟩⟩ := sIf_some e
  · refine hc anc ρ _ ρ1 e1 σ S H fp ok _ fun S1 H1 fp1 ok1 a1 => ?_
    show ta σ H1 Q
    exact ha anc ρ1 o ρ' e2 σ S1 H1 fp1 ok1 Q fun v S2 H2 fo fp2 ok2 r nd a2 => q v S2 H2 fo fp2 ok2 r nd (a1.trans a2)
  · refine hc anc ρ _ ρ1 e1 σ S H fp ok _ fun S1 H1 fp1 ok1 a1 => ?_
    show tb σ H1 Q
    exact hb anc ρ1 o ρ' e2 σ S1 H1 fp1 ok1 Q fun v S2 H2 fo fp2 ok2 r nd a2 => q v S2 H2 fo fp2 ok2 r nd (a1.trans a2)
theorem Kp.sif {c : XB} {f g : XF} (k : Kp c) (k1 : Kp f) (k2 : Kp g) : Kp (sIf c f g) := fun ρ o ρ' e i b hb hf => by
  obtain ⟨ρ1, ⟨e1, e2⟩ | ⟨e1, e2⟩⟩ := sIf_some e
  · exact k1 _ _ _ e2 i b (k _ _ _ e1 i b hb hf) hf
  · exact k2 _ _ _ e2 i b (k _ _ _ e1 i b hb hf) hf

/-! ### a < b < c -/
def sChain (u u' : O → O → Option O) (p q s : XP) : XF := fun ρ => (p ρ).bind fun x => (q x.2).bind fun y => (x.1.o y.2).bind fun o1 => (y.1.o y.2).bind fun o2 => match u o1 o2 with
  | some (.sh (.bool true)) => (s y.2).bind fun z => (y.1.o z.2).bind fun o2' => (z.1.o z.2).bind fun o3 => (u' o2' o3).map fun o => (o, z.2)
  | some (.sh (.bool false)) => some (.sh (.bool false), y.2)
  | _ => none
theorem snd_chain {ta tb tc : TE} {p p' p'' : XP} {r r' : R2} {u u' : O → O → Option O} (ha : SndP K ta p) (hb : SndP K tb p') (hc : SndP K tc p'') (hu : BinOk K r u) (hu' : BinOk K r' u') : Snd K (tChain r r' ta tb tc) (sChain u u' p p' p'') := fun anc ρ o ρ' e σ S H fp ok Q q => by
  simp only [sChain, Option.bind_eq_some_iff] at e
  obtain ⟨⟨x, ρ1⟩, e1, ⟨y, ρ2⟩, e2, o1, e3, o2, e4, e5⟩ := e
  refine ha anc ρ x ρ1 e1 σ S H fp ok _ fun v S1 H1 fp1 ok1 r1 a1 => ?_
  refine hb anc ρ1 y ρ2 e2 σ S1 H1 fp1 ok1 _ fun w S2 H2 fp2 ok2 r2 a2 => ?_
  obtain ⟨f, h, _⟩ := opd_view ok2 (r1.mono a2.sub) e3
  obtain ⟨g, h', _⟩ := opd_view ok2 r2 e4
  split at e5
  · rename_i hu1
    simp only [Option.bind_eq_some_iff, Option.map_eq_some_iff] at e5
    obtain ⟨⟨z, ρ3⟩, e6, o2', e7, o3, e8, o', e9, e10⟩ := e5
    cases e10
    refine hu o1 o2 _ hu1 v w S2 H2 f g ok2.sub h h' _ (gives_of (K := K) (fp := fp2) (S := S2) (H := H2) ok2 (Aft.refl fun _ h => h) fun v' S' H' fo fp' ok' r' nd a' => ⟨true, bl_view r', ?_⟩)
    show tc σ H' _
    have e0 : fo = [] := by cases r' ; rfl
    subst e0
    rw [List.nil_append] at a'
    refine hc anc ρ2 z ρ3 e6 σ S' H' fp' ok' _ fun w' S3 H3 fp3 ok3 r3 a3 => ?_
    obtain ⟨f2, h2, _⟩ := opd_view ok3 ((r2.mono a'.sub).mono a3.sub) e7
    obtain ⟨f3, h3, _⟩ := opd_view ok3 r3 e8
    exact hu' o2' o3 o e9 w w' S3 H3 f2 f3 ok3.sub h2 h3 Q (gives_of ok3 (((a1.trans a2).trans a').trans a3) q)
  · rename_i hu1
    cases e5
    refine hu o1 o2 _ hu1 v w S2 H2 f g ok2.sub h h' _ (gives_of (K := K) (fp := fp2) (S := S2) (H := H2) ok2 (Aft.refl fun _ h => h) fun v' S' H' fo fp' ok' r' nd a' => ⟨false, bl_view r', ?_⟩)
    show Q (.bl false) H'
    exact q _ S' H' fo fp' ok' (by
      have : v' = .bl false := bl_view r'
      rw [← this]; exact r') nd ((a1.trans a2).trans a')
  · cases e5
theorem Kp.chain {u u' : O → O → Option O} {p q s : XP} (k : Kp p) (k' : Kp q) (k'' : Kp s) : Kp (sChain u u' p q s) := fun ρ o ρ' e i b hb hf => by
  simp only [sChain, Option.bind_eq_some_iff] at e
  obtain ⟨⟨x, ρ1⟩, e1, ⟨y, ρ2⟩, e2, o1, e3, o2, e4, e5⟩ := e
  have h2 := k' _ _ _ e2 i b (k _ _ _ e1 i b hb hf) hf
  split at e5
  · simp only [Option.bind_eq_some_iff, Option.map_eq_some_iff] at e5
    obtain ⟨⟨z, ρ3⟩, e6, o2', e7, o3, e8, o', e9, e10⟩ := e5
    cases e10
    exact k'' _ _ _ e6 i b h2 hf
  · cases e5; exact h2
  · cases e5

/-! ### slices with reckoned ends -/
abbrev XO := Ev → Option (Option Int × Ev)
def oNone : XO := fun ρ => some (none, ρ)
def oSome (f : XD) : XO := fun ρ => match f ρ with
  | some (.int i, ρ') => some (some i, ρ')
  | _ => none
def SndO (K : Frag) (t : TO) (f : XO) : Prop := ∀ (anc : Nat → Option V) (ρ : Ev) (c : Option Int) (ρ' : Ev), f ρ = some (c, ρ') → ∀ (σ : L2.St) (S H : Hp) (fp : List Addr), StOk K S H anc ρ σ fp → ∀ Q : Option Int → Hp → Prop,
  (∀ (S' H' : Hp) (fp' : List Addr), StOk K S' H' anc ρ' σ fp' → Aft fp S H fp' S' H' → Q c H') → t σ H Q
theorem oSome_some {f : XD} {ρ ρ' : Ev} {c : Option Int} (e : oSome f ρ = some (c, ρ')) : ∃ i, c = some i ∧ f ρ = some (.int i, ρ') := by
  unfold oSome at e
  split at e
  · cases e; exact ⟨_, rfl, by assumption⟩
  · cases e
theorem snd_oNone : SndO K tNoPart oNone := fun anc ρ c ρ' e σ S H fp ok Q q => by
  cases e
  exact q S H fp ok (Aft.refl fun _ h => h)
theorem snd_oSome {t : TE} {f : XD} (h : SndD K t f) : SndO K (tPart t) (oSome f) := fun anc ρ c ρ' e σ S H fp ok Q q => by
  obtain ⟨i, rfl, e1⟩ := oSome_some e
  exact h anc ρ _ ρ' e1 σ S H fp ok _ fun v S' H' fp' ok' r a => ⟨i, r.int_inv, q S' H' fp' ok' a⟩
theorem Kp.oNone : Kp oNone := fun ρ d' ρ' e j b hb hf => by cases e; exact hb
theorem Kp.oSome {f : XD} (k : Kp f) : Kp (oSome f) := fun ρ d' ρ' e j b hb hf => by obtain ⟨i, rfl, e1⟩ := oSome_some e; exact k _ _ _ e1 j b hb hf
def sSl (u : O → Option Int → Option Int → Option O) (p : XP) (l h : XO) : XF := fun ρ => (p ρ).bind fun x => (l x.2).bind fun y => (h y.2).bind fun z => (x.1.o z.2).bind fun o => (u o y.1 z.1).map fun o' => (o', z.2)
theorem snd_sl {te : TE} {tl th : TO} {p : XP} {l h : XO} {r : V → Option Int → Option Int → Hp → VK → Prop} {u : O → Option Int → Option Int → Option O} (ha : SndP K te p) (hl : SndO K tl l) (hh : SndO K th h) (hu : SlOk K r u) : Snd K (tSl r te tl th) (sSl u p l h) := fun anc ρ o ρ' e σ S H fp ok Q q => by
  simp only [sSl, Option.bind_eq_some_iff, Option.map_eq_some_iff] at e
  obtain ⟨⟨x, ρ1⟩, e1, ⟨y, ρ2⟩, e2, ⟨z, ρ3⟩, e3, o1, e4, o', e5, e6⟩ := e
  cases e6
  refine ha anc ρ x ρ1 e1 σ S H fp ok _ fun v S1 H1 fp1 ok1 r1 a1 => ?_
  refine hl anc ρ1 y ρ2 e2 σ S1 H1 fp1 ok1 _ fun S2 H2 fp2 ok2 a2 => ?_
  refine hh anc ρ2 z ρ3 e3 σ S2 H2 fp2 ok2 _ fun S3 H3 fp3 ok3 a3 => ?_
  obtain ⟨f, h, _⟩ := opd_view ok3 ((r1.mono a2.sub).mono a3.sub) e4
  exact hu o1 o y z e5 v S3 H3 f ok3.sub h Q (gives_of ok3 ((a1.trans a2).trans a3) q)
theorem Kp.sl {u : O → Option Int → Option Int → Option O} {p : XP} {l h : XO} (k : Kp p) (k' : Kp l) (k'' : Kp h) : Kp (sSl u p l h) := fun ρ o ρ' e i b hb hf => by
  simp only [sSl, Option.bind_eq_some_iff, Option.map_eq_some_iff] at e
  obtain ⟨⟨x, ρ1⟩, e1, ⟨y, ρ2⟩, e2, ⟨z, ρ3⟩, e3, o1, e4, o', e5, e6⟩ := e
  cases e6
  exact k'' _ _ _ e3 i b (k' _ _ _ e2 i b (k _ _ _ e1 i b hb hf) hf) hf
end PL

namespace PL
open PySem PySem.Spec PyProof.Rows L2
variable {K : Frag} {S S' S1 S2 H H' H1 H2 : Hp}

/-! ### several values at once, each handed on -/
abbrev XL := Ev → Option (List O × Ev)
def SndL (K : Frag) (t : TA) (f : XL) : Prop := ∀ (anc : Nat → Option V) (ρ : Ev) (os : List O) (ρ' : Ev), f ρ = some (os, ρ') → ∀ (σ : L2.St) (S H : Hp) (fp : List Addr), StOk K S H anc ρ σ fp → ∀ Q : List V → Hp → Prop,
  (∀ (vs : List V) (S' H' : Hp) (fo fp' : List Addr), StOk K S' H' anc ρ' σ fp' → RepOs K S' H' os vs fo → (fo ++ fp').Nodup → Aft fp S H (fo ++ fp') S' H' → Q vs H') → t σ H Q
def lNil : XL := fun ρ => some ([], ρ)
def lCons (f : XF) (g : XL) : XL := fun ρ => (f ρ).bind fun x => (g x.2).map fun y => (x.1 :: y.1, y.2)
theorem snd_lNil : SndL K tNil lNil := fun anc ρ o ρ' e σ S H fp ok Q q => by
  cases e
  exact q [] S H [] fp ok .nil (by simpa using ok.nd) (Aft.refl fun _ h => h)
theorem nd3 {a b c : List Addr} (h : (a ++ c).Nodup) (h2 : (b ++ c).Nodup) (h3 : ∀ x ∈ a, x ∉ b) : ((a ++ b) ++ c).Nodup := by
  rw [List.nodup_append] at h h2
  refine List.nodup_append.mpr ⟨List.nodup_append.mpr ⟨h.1, h2.1, fun x hx y hy e => h3 x hx (e ▸ hy)⟩, h.2.1, fun x hx y hy e => ?_⟩
  rcases List.mem_append.mp hx with hx | hx
  · exact h.2.2 x hx y hy e
  · exact h2.2.2 x hx y hy e
/-- a part that was handed on ahead, behind a further step -/
theorem keep_part {fo fp1 fp2 g : List Addr} (nd : (fo ++ fp1).Nodup) (ht : ∀ a ∈ fo, (∃ u, H a = some u) ∧ S a = none) (a : Aft fp1 S H g S' H') : ∀ b ∈ fo, b ∉ g := a.apart (fun b hb => nd_apart' nd b hb) ht
theorem snd_lCons {te : TE} {t : TA} {f : XF} {g : XL} (ha : Snd K te f) (hb : SndL K t g) : SndL K (tCons te t) (lCons f g) := fun anc ρ o ρ' e σ S H fp ok Q q => by
  simp only [lCons, Option.bind_eq_some_iff, Option.map_eq_some_iff] at e
  obtain ⟨⟨x, ρ1⟩, e1, ⟨y, ρ2⟩, e2, e3⟩ := e
  cases e3
  refine ha anc ρ x ρ1 e1 σ S H fp ok _ fun v S1 H1 fo fp1 ok1 r1 nd1 a1 => ?_
  refine hb anc ρ1 y ρ2 e2 σ S1 H1 fp1 ok1 _ fun vs S2 H2 go fp2 ok2 r2 nd2 a2 => ?_
  have r1' := r1.along a2 (fun b hb => nd_apart' nd1 b hb)
  have ap := keep_part (fp2 := fp1) nd1 r1.there a2
  refine q (v :: vs) S2 H2 (fo ++ go) fp2 ok2 (.cons r1' r2) ?_ ?_
  · rw [List.append_assoc]
    refine List.nodup_append.mpr ⟨(List.nodup_append.mp nd1).1, nd2, fun z hz y hy e => ap z hz (e ▸ hy)⟩
  · refine (a1.trans (a2.wide (gp := fo ++ fp1) (gp' := fo ++ (go ++ fp2)) (fun b hb => List.mem_append_right _ hb) fun b hb => ?_)).wide (fun b hb => hb) (fun b hb => .inl (by rw [List.append_assoc] at hb; exact hb))
    rcases List.mem_append.mp hb with hb | hb
    · exact .inr (List.mem_append_left _ hb)
    · exact .inl hb
theorem Kp.lnil : Kp lNil := fun ρ o ρ' e i b hb hf => by cases e; exact hb
theorem Kp.lcons {p : XF} {f : XL} (k : Kp p) (k' : Kp f) : Kp (lCons p f) := fun ρ o ρ' e i b hb hf => by
  simp only [lCons, Option.bind_eq_some_iff, Option.map_eq_some_iff] at e
  obtain ⟨⟨x, ρ1⟩, e1, ⟨y, ρ2⟩, e2, e3⟩ := e
  cases e3
  exact k' _ _ _ e2 i b (k _ _ _ e1 i b hb hf) hf

/-! ### targets -/
abbrev XG := O → Ev → Option Ev
/-- tg: the slots that are stored -/
def SndG (K : Frag) (tg : List Nat) (g : TG) (f : XG) : Prop := ∀ (anc : Nat → Option V) (ρ : Ev) (o : O) (ρ' : Ev), f o ρ = some ρ' → ∀ (v : V) (σ : L2.St) (S H : Hp) (fp fo : List Addr), StOk K S H anc ρ σ fp → RepO K S H o v fo → (fo ++ fp).Nodup →
  ∀ Q : L2.St → Hp → Prop, (∀ (σ' : L2.St) (fp' : List Addr), StOk K S H anc ρ' σ' fp' → (∀ b ∈ fp', b ∈ fo ++ fp) → (∀ j, j ∉ tg → σ'[j]? = σ[j]?) → σ'.length = σ.length → Q σ' H) → g v σ H Q
def KpG (f : XG) : Prop := ∀ o ρ ρ', f o ρ = some ρ' → ∀ (i : Nat) (b : Bd), ρ[i]? = some (some b) → b.fixed = true → ρ'[i]? = some (some b)
/-- a name stored: not one whose object goes back, not one that is walked -/
def gN (i : Nat) : XG := fun o ρ => match ρ[i]? with
  | some (some (.ow _)) => some (ρ.set i (some (.ow o)))
  | some none => some (ρ.set i (some (.ow o)))
  | _ => none
theorem gN_some {i : Nat} {o : O} {ρ ρ' : Ev} (e : gN i o ρ = some ρ') : i < ρ.length ∧ ρ' = ρ.set i (some (.ow o)) ∧ ∀ b : Bd, ρ[i]? = some (some b) → b.fixed = false ∧ b.anch = false := by
  unfold gN at e
  split at e
  · rename_i o' h
    cases e
    exact ⟨(List.getElem?_eq_some_iff.mp h).1, rfl, fun b hb => by rw [h] at hb; cases hb; exact ⟨rfl, rfl⟩⟩
  · rename_i h
    cases e
    exact ⟨(List.getElem?_eq_some_iff.mp h).1, rfl, fun b hb => by rw [h] at hb; cases hb⟩
  · cases e
theorem snd_gN (i : Nat) : SndG K [i] (gName i) (gN i) := fun anc ρ o ρ' e v σ S H fp fo ok r nd Q q => by
  obtain ⟨hl, rfl, _⟩ := gN_some e
  obtain ⟨g, k, e1, ok1⟩ := ok.drop i none
  have hlσ : i < σ.length := by rw [← ok.len]; exact hl
  have sub : ∀ b ∈ g, b ∈ fp := fun b hb => e1.mem_iff.mpr (List.mem_append_right _ hb)
  have nd1 : (fo ++ g).Nodup := by
    rw [List.nodup_append] at nd ⊢
    exact ⟨nd.1, ok1.nd, fun x hx y hy => nd.2.2 x hx y (sub y hy)⟩
  have ok2 := ok1.put (i := i) (b := .ow o) (v := v) (by rw [List.getElem?_set_self hl]) r nd1 (fun z => by cases z)
  rw [set_none_some, List.set_set] at ok2
  refine q _ _ ok2 (fun b hb => ?_) (fun j hj => ?_) (by rw [List.length_set])
  · rcases List.mem_append.mp hb with h | h
    · exact List.mem_append_left _ h
    · exact List.mem_append_right _ (sub b h)
  · rw [List.getElem?_set_ne (fun z => hj (by simp [z]))]
theorem KpG.n (i : Nat) : KpG (gN i) := fun o ρ ρ' e j b hb hf => by
  obtain ⟨hl, rfl, h⟩ := gN_some e
  by_cases z : i = j
  · subst z
    rw [(h b hb).1] at hf; cases hf
  · rw [List.getElem?_set_ne z]; exact hb
abbrev XGs := List D → Ev → Option Ev
def SndGs (K : Frag) (tg : List Nat) (g : TGs) (f : XGs) : Prop := ∀ (anc : Nat → Option V) (ρ : Ev) (ds : List D) (ρ' : Ev), f ds ρ = some ρ' → ∀ (vs : List V) (σ : L2.St) (S H : Hp) (fp : List Addr), StOk K S H anc ρ σ fp → Reps K S ds vs →
  ∀ Q : L2.St → Hp → Prop, (∀ (σ' : L2.St) (fp' : List Addr), StOk K S H anc ρ' σ' fp' → (∀ b ∈ fp', b ∈ fp) → (∀ j, j ∉ tg → σ'[j]? = σ[j]?) → σ'.length = σ.length → Q σ' H) → g vs σ H Q
def KpGs (f : XGs) : Prop := ∀ o ρ ρ', f o ρ = some ρ' → ∀ (i : Nat) (b : Bd), ρ[i]? = some (some b) → b.fixed = true → ρ'[i]? = some (some b)
def gsNil : XGs := fun ds ρ => match ds with
  | [] => some ρ
  | _ => none
def gsCons (g : XG) (f : XGs) : XGs := fun ds ρ => match ds with
  | d :: r => (g (.sh d) ρ).bind (f r)
  | [] => none
theorem snd_gsNil : SndGs K [] gNil gsNil := fun anc ρ ds ρ' e vs σ S H fp ok r Q q => by
  unfold gsNil at e
  split at e
  · cases e
    exact ⟨r.nil_inv, q σ fp ok (fun _ h => h) (fun _ _ => rfl) rfl⟩
  · cases e
theorem snd_gsCons {tg tg' : List Nat} {t : TG} {u : TGs} {g : XG} {f : XGs} (h1 : SndG K tg t g) (h2 : SndGs K tg' u f) : SndGs K (tg ++ tg') (gCons t u) (gsCons g f) := fun anc ρ ds ρ' e vs σ S H fp ok r Q q => by
  unfold gsCons at e
  split at e
  · rename_i d dr
    rw [Option.bind_eq_some_iff] at e
    obtain ⟨ρ1, e1, e2⟩ := e
    obtain ⟨v, vr, rfl, r1, r2⟩ := r.cons_inv
    refine ⟨v, vr, rfl, h1 anc ρ _ ρ1 e1 v σ S H fp [] ok (.sh r1) (by simpa using ok.nd) _ fun σ1 fp1 ok1 sub1 eq1 len1 => ?_⟩
    refine h2 anc ρ1 dr ρ' e2 vr σ1 S H fp1 ok1 r2 Q fun σ2 fp2 ok2 sub2 eq2 len2 => q σ2 fp2 ok2 (fun b hb => by simpa using sub1 b (sub2 b hb)) (fun j hj => ?_) (len2.trans len1)
    rw [eq2 j fun z => hj (List.mem_append_right _ z), eq1 j fun z => hj (List.mem_append_left _ z)]
  · cases e
theorem KpGs.nil : KpGs gsNil := fun ds ρ ρ' e i b hb hf => by
  unfold gsNil at e
  split at e
  · cases e; exact hb
  · cases e
theorem KpGs.cons {g : XG} {f : XGs} (k : KpG g) (k' : KpGs f) : KpGs (gsCons g f) := fun ds ρ ρ' e i b hb hf => by
  unfold gsCons at e
  split at e
  · rw [Option.bind_eq_some_iff] at e
    obtain ⟨ρ1, e1, e2⟩ := e
    exact k' _ _ _ e2 i b (k _ _ _ e1 i b hb hf) hf
  · cases e
/-- (a, b, ..) = a tuple of data of n items -/
def gTup (n : Nat) (f : XGs) : XG := fun o ρ => match o.tup with
  | some ds => if ds.length = n then f ds ρ else none
  | none => none
theorem snd_gTup {tg : List Nat} {n : Nat} {t : TGs} {f : XGs} (h : SndGs K tg t f) : SndG K tg (L2.gTup K n t) (gTup n f) := fun anc ρ o ρ' e v σ S H fp fo ok r nd Q q => by
  unfold gTup at e
  split at e
  · rename_i ds e1
    split at e
    · rename_i hn
      obtain ⟨a, vs, rfl, h1, h2⟩ := O.tup_view e1 r ok.sub
      refine ⟨a, vs, rfl, h1, by rw [← h2.length]; exact hn, ?_⟩
      exact h anc ρ ds ρ' e vs σ S H fp ok h2 Q fun σ' fp' ok' sub eq len => q σ' fp' ok' (fun b hb => List.mem_append_right _ (sub b hb)) eq len
    · cases e
  · cases e
theorem KpG.tup {n : Nat} {f : XGs} (k : KpGs f) : KpG (gTup n f) := fun o ρ ρ' e i b hb hf => by
  unfold gTup at e
  split at e
  · split at e
    · exact k _ _ _ e i b hb hf
    · cases e
  · cases e

/-! ### statements -/
inductive Res where
  | nx (ρ : Ev) | rt (o : O) (ρ : Ev) | bk (ρ : Ev) | ct (ρ : Ev)
def Res.ρ : Res → Ev
  | .nx ρ => ρ | .rt _ ρ => ρ | .bk ρ => ρ | .ct ρ => ρ
abbrev XS := Ev → Option Res
/-- what an end asks, from what was there ahead -/
def EndsOk (K : Frag) (anc : Nat → Option V) (fp : List Addr) (S H : Hp) (De : Ends) : Res → Prop
  | .nx ρ' => ∀ (σ' : L2.St) (S' H' : Hp) (fp' : List Addr), StOk K S' H' anc ρ' σ' fp' → Aft fp S H fp' S' H' → De.nx σ' H'
  | .bk ρ' => ∀ (σ' : L2.St) (S' H' : Hp) (fp' : List Addr), StOk K S' H' anc ρ' σ' fp' → Aft fp S H fp' S' H' → De.bk σ' H'
  | .ct ρ' => ∀ (σ' : L2.St) (S' H' : Hp) (fp' : List Addr), StOk K S' H' anc ρ' σ' fp' → Aft fp S H fp' S' H' → De.ct σ' H'
  | .rt o ρ' => ∀ (σ' : L2.St) (v : V) (S' H' : Hp) (fo fp' : List Addr), StOk K S' H' anc ρ' σ' fp' → RepO K S' H' o v fo → (fo ++ fp').Nodup → Aft fp S H (fo ++ fp') S' H' → De.rt v H'
def SndS (K : Frag) (t : TS) (f : XS) : Prop := ∀ (anc : Nat → Option V) (ρ : Ev) (r : Res), f ρ = some r → ∀ (σ : L2.St) (S H : Hp) (fp : List Addr), StOk K S H anc ρ σ fp → ∀ De : Ends, EndsOk K anc fp S H De r → t De σ H
def KpS (f : XS) : Prop := ∀ ρ r, f ρ = some r → ∀ (i : Nat) (b : Bd), ρ[i]? = some (some b) → b.fixed = true → r.ρ[i]? = some (some b)
theorem EndsOk.after {anc : Nat → Option V} {fp fp1 : List Addr} {De : Ends} {r : Res} (h : EndsOk K anc fp S H De r) (a : Aft fp S H fp1 S1 H1) : EndsOk K anc fp1 S1 H1 De r := by
  cases r with
  | nx ρ => exact fun σ' S' H' fp' ok a' => h σ' S' H' fp' ok (a.trans a')
  | bk ρ => exact fun σ' S' H' fp' ok a' => h σ' S' H' fp' ok (a.trans a')
  | ct ρ => exact fun σ' S' H' fp' ok a' => h σ' S' H' fp' ok (a.trans a')
  | rt o ρ => exact fun σ' v S' H' fo fp' ok r nd a' => h σ' v S' H' fo fp' ok r nd (a.trans a')
def xNext : XS := fun ρ => some (.nx ρ)
def xBreak : XS := fun ρ => some (.bk ρ)
def xCont : XS := fun ρ => some (.ct ρ)
def xNever : XS := fun _ => none
def xSeq (f g : XS) : XS := fun ρ => match f ρ with
  | some (.nx ρ1) => g ρ1
  | r => r
def xDrop (f : XF) : XS := fun ρ => (f ρ).map fun x => .nx x.2
def xRet (f : XF) : XS := fun ρ => (f ρ).map fun x => .rt x.1 x.2
def xRetN : XS := fun ρ => some (.rt (.sh .none) ρ)
def xIf (c : XB) (f g : XS) : XS := fun ρ => (c ρ).bind fun x => if x.1 then f x.2 else g x.2
def xAsg (f : XF) (g : XG) : XS := fun ρ => (f ρ).bind fun x => (g x.1 x.2).map .nx
theorem snd_next : SndS K tNext xNext := fun anc ρ r e σ S H fp ok De q => by cases e; exact q σ S H fp ok (Aft.refl fun _ h => h)
theorem snd_break : SndS K tBreak xBreak := fun anc ρ r e σ S H fp ok De q => by cases e; exact q σ S H fp ok (Aft.refl fun _ h => h)
theorem snd_cont : SndS K tCont xCont := fun anc ρ r e σ S H fp ok De q => by cases e; exact q σ S H fp ok (Aft.refl fun _ h => h)
theorem snd_never : SndS K tNever xNever := fun anc ρ r e σ S H fp ok De q => by cases e
theorem snd_seq {t u : TS} {f g : XS} (hf : SndS K t f) (hg : SndS K u g) : SndS K (tSeq t u) (xSeq f g) := fun anc ρ r e σ S H fp ok De q => by
  unfold xSeq at e
  show t { De with nx := u De } σ H
  split at e
  · rename_i ρ1 e1
    exact hf anc ρ _ e1 σ S H fp ok _ fun σ' S' H' fp' ok' a => hg anc ρ1 r e σ' S' H' fp' ok' De (q.after a)
  · rename_i hn
    refine hf anc ρ r e σ S H fp ok _ ?_
    cases r with
    | nx ρ1 => exact absurd e (hn ρ1)
    | bk ρ => exact q
    | ct ρ => exact q
    | rt o ρ => exact q
theorem snd_drop {t : TE} {f : XF} (h : Snd K t f) : SndS K (tDrop t) (xDrop f) := fun anc ρ r e σ S H fp ok De q => by
  unfold xDrop at e
  rw [Option.map_eq_some_iff] at e
  obtain ⟨⟨o, ρ1⟩, e1, rfl⟩ := e
  exact h anc ρ o ρ1 e1 σ S H fp ok _ fun v S' H' fo fp' ok' r nd a => q σ S' H' fp' ok' (a.wide (fun _ h => h) fun b hb => .inl (List.mem_append_right _ hb))
theorem snd_ret {t : TE} {f : XF} (h : Snd K t f) : SndS K (tRet t) (xRet f) := fun anc ρ r e σ S H fp ok De q => by
  unfold xRet at e
  rw [Option.map_eq_some_iff] at e
  obtain ⟨⟨o, ρ1⟩, e1, rfl⟩ := e
  exact h anc ρ o ρ1 e1 σ S H fp ok _ fun v S' H' fo fp' ok' r nd a => q σ v S' H' fo fp' ok' r nd a
theorem snd_retN : SndS K tRetN xRetN := fun anc ρ r e σ S H fp ok De q => by
  cases e
  exact q σ .non S H [] fp ok (.sh .non) (by simpa using ok.nd) (Aft.refl fun _ h => h)
theorem snd_ifS {tc : TT} {t u : TS} {c : XB} {f g : XS} (hc : SndB K tc c) (hf : SndS K t f) (hg : SndS K u g) : SndS K (tIfS tc t u) (xIf c f g) := fun anc ρ r e σ S H fp ok De q => by
  unfold xIf at e
  rw [Option.bind_eq_some_iff] at e
  obtain ⟨⟨b, ρ1⟩, e1, e2⟩ := e
  refine hc anc ρ b ρ1 e1 σ S H fp ok _ fun S' H' fp' ok' a => ?_
  cases b with
  | true =>
    show t De σ H'
    exact hf anc ρ1 r e2 σ S' H' fp' ok' De (q.after a)
  | false =>
    show u De σ H'
    exact hg anc ρ1 r e2 σ S' H' fp' ok' De (q.after a)
theorem snd_asg {te : TE} {t : TG} {tg : List Nat} {f : XF} {g : XG} (h : Snd K te f) (hg : SndG K tg t g) : SndS K (tAsg te t) (xAsg f g) := fun anc ρ r e σ S H fp ok De q => by
  unfold xAsg at e
  simp only [Option.bind_eq_some_iff, Option.map_eq_some_iff] at e
  obtain ⟨⟨o, ρ1⟩, e1, ρ2, e2, rfl⟩ := e
  refine h anc ρ o ρ1 e1 σ S H fp ok _ fun v S' H' fo fp' ok' r nd a => ?_
  exact hg anc ρ1 o ρ2 e2 v σ S' H' fp' fo ok' r nd _ fun σ2 fp2 ok2 sub _ _ => q σ2 S' H' fp2 ok2 (a.wide (fun _ h => h) fun b hb => .inl (sub b hb))
theorem KpS.next : KpS xNext := fun ρ r e i b hb hf => by cases e; exact hb
theorem KpS.break : KpS xBreak := fun ρ r e i b hb hf => by cases e; exact hb
theorem KpS.cont : KpS xCont := fun ρ r e i b hb hf => by cases e; exact hb
theorem KpS.never : KpS xNever := fun ρ r e i b hb hf => by cases e
theorem KpS.retN : KpS xRetN := fun ρ r e i b hb hf => by cases e; exact hb
theorem KpS.seq {f g : XS} (k : KpS f) (k' : KpS g) : KpS (xSeq f g) := fun ρ r e i b hb hf => by
  unfold xSeq at e
  split at e
  · rename_i ρ1 e1
    exact k' _ _ e i b (k _ _ e1 i b hb hf) hf
  · exact k _ _ e i b hb hf
theorem KpS.drop {f : XF} (k : Kp f) : KpS (xDrop f) := fun ρ r e i b hb hf => by
  unfold xDrop at e
  rw [Option.map_eq_some_iff] at e
  obtain ⟨⟨o, ρ1⟩, e1, rfl⟩ := e
  exact k _ _ _ e1 i b hb hf
theorem KpS.ret {f : XF} (k : Kp f) : KpS (xRet f) := fun ρ r e i b hb hf => by
  unfold xRet at e
  rw [Option.map_eq_some_iff] at e
  obtain ⟨⟨o, ρ1⟩, e1, rfl⟩ := e
  exact k _ _ _ e1 i b hb hf
theorem KpS.ifS {c : XB} {f g : XS} (k : Kp c) (k1 : KpS f) (k2 : KpS g) : KpS (xIf c f g) := fun ρ r e i b hb hf => by
  unfold xIf at e
  rw [Option.bind_eq_some_iff] at e
  obtain ⟨⟨b', ρ1⟩, e1, e2⟩ := e
  have h := k _ _ _ e1 i b hb hf
  cases b' with
  | true => exact k1 _ _ e2 i b h hf
  | false => exact k2 _ _ e2 i b h hf
theorem KpS.asg {f : XF} {g : XG} (k : Kp f) (k1 : KpG g) : KpS (xAsg f g) := fun ρ r e i b hb hf => by
  unfold xAsg at e
  simp only [Option.bind_eq_some_iff, Option.map_eq_some_iff] at e
  obtain ⟨⟨o, ρ1⟩, e1, ρ2, e2, rfl⟩ := e
  exact k1 _ _ _ e2 i b (k _ _ _ e1 i b hb hf) hf
/-- a, b = x, y -/
def xPar (i j : Nat) (f : XL) : XS := fun ρ => match f ρ with
  | some ([o, p], ρ1) => (gN i o ρ1).bind fun ρ2 => (gN j p ρ2).map .nx
  | _ => none
theorem xPar_some {i j : Nat} {f : XL} {ρ : Ev} {r : Res} (e : xPar i j f ρ = some r) : ∃ o p ρ1 ρ2 ρ3, f ρ = some ([o, p], ρ1) ∧ gN i o ρ1 = some ρ2 ∧ gN j p ρ2 = some ρ3 ∧ r = .nx ρ3 := by
  unfold xPar at e
  split at e
  · rename_i o p ρ1 e1
    simp only [Option.bind_eq_some_iff, Option.map_eq_some_iff] at e
    obtain ⟨ρ2, e2, ρ3, e3, rfl⟩ := e
    exact ⟨o, p, ρ1, ρ2, ρ3, e1, e2, e3, rfl⟩
  · cases e
theorem snd_par {i j : Nat} {t : TA} {f : XL} (h : SndL K t f) : SndS K (tPar i j t) (xPar i j f) := fun anc ρ r e σ S H fp ok De q => by
  obtain ⟨o, p, ρ1, ρ2, ρ3, e1, e2, e3, rfl⟩ := xPar_some e
  refine h anc ρ _ ρ1 e1 σ S H fp ok _ fun vs S' H' fo fp' ok' r nd a => ?_
  cases r with
  | cons r1 rr =>
    rename_i v vr f1 g1
    cases rr with
    | cons r2 rn =>
      rename_i w vn f2 g2
      cases rn
      rw [List.append_nil] at nd a
      have ap : ∀ x ∈ f1, x ∉ f2 := nd_apart' (List.nodup_append.mp nd).1
      refine ⟨v, w, rfl, ?_⟩
      have nd1 : (f1 ++ fp').Nodup := by
        rw [List.append_assoc] at nd
        obtain ⟨n1, n2, n3⟩ := List.nodup_append.mp nd
        exact List.nodup_append.mpr ⟨n1, (List.nodup_append.mp n2).2.1, fun x hx y hy => n3 x hx y (List.mem_append_right _ hy)⟩
      refine snd_gN (K := K) i anc ρ1 o ρ2 e2 v σ S' H' fp' f1 ok' r1 nd1 (fun σ2 H2 => De.nx (σ2.set j (some w)) H2) fun σ2 fp2 ok2 sub2 _ _ => ?_
      have nd2 : (f2 ++ fp2).Nodup := by
        have n0 := List.nodup_append.mp (by rw [List.append_assoc] at nd; exact nd)
        refine List.nodup_append.mpr ⟨(List.nodup_append.mp n0.2.1).1, ok2.nd, fun x hx y hy z => ?_⟩
        subst z
        rcases List.mem_append.mp (sub2 x hy) with z | z
        · exact ap x z hx
        · exact (List.nodup_append.mp n0.2.1).2.2 x hx x z rfl
      refine snd_gN (K := K) j anc ρ2 p ρ3 e3 w σ2 S' H' fp2 f2 ok2 r2 nd2 De.nx fun σ3 fp3 ok3 sub3 _ _ => q σ3 S' H' fp3 ok3 (a.wide (fun _ h => h) fun b hb => .inl ?_)
      rcases List.mem_append.mp (sub3 b hb) with z | z
      · exact List.mem_append_left _ (List.mem_append_right _ z)
      · rcases List.mem_append.mp (sub2 b z) with z | z
        · exact List.mem_append_left _ (List.mem_append_left _ z)
        · exact List.mem_append_right _ z
theorem KpS.par {i j : Nat} {f : XL} (k : Kp f) : KpS (xPar i j f) := fun ρ r e l b hb hf => by
  obtain ⟨o, p, ρ1, ρ2, ρ3, e1, e2, e3, rfl⟩ := xPar_some e
  exact KpG.n j _ _ _ e3 l b (KpG.n i _ _ _ e2 l b (k _ _ _ e1 l b hb hf) hf) hf
end PL

namespace PL
open PySem PySem.Spec PyProof.Rows L2
variable {K : Frag} {S S' S1 S2 H H' H1 H2 : Hp}

/-! ### what is walked -/
structure ItD where
  ds : List D
  lk : Option (Nat × Bd)
abbrev XI := Ev → Option (ItD × Ev)
def unlock : Option (Nat × Bd) → Ev → Ev
  | none, ρ => ρ
  | some (i, b), ρ => ρ.set i (some b)
def lockAt : Option (Nat × Bd) → Ev → Prop
  | none, _ => True
  | some (i, b), ρ => ρ[i]? = some (some (.lk b.o))
def ancL (anc : Nat → Option V) : Option (Nat × Bd) → Option V → Nat → Option V
  | none, _ => anc
  | some (i, _), w => fun j => if j = i then w else anc j
def AncOk (anc : Nat → Option V) : Option (Nat × Bd) → Option V → Prop
  | none, _ => True
  | some (i, b), w => b.anch = true → anc i = w
theorem unlock_ok {anc : Nat → Option V} {lk : Option (Nat × Bd)} {w : Option V} {ρ : Ev} {σ : L2.St} {fp : List Addr} (h : StOk K S H (ancL anc lk w) ρ σ fp) (hl : lockAt lk ρ) (ha : AncOk anc lk w) : StOk K S H anc (unlock lk ρ) σ fp := by
  cases lk with
  | none => exact h
  | some p =>
    obtain ⟨i, b⟩ := p
    have hl' : ρ[i]? = some (some (.lk b.o)) := hl
    obtain ⟨v, fi, g, e1, e2, e3, e4⟩ := h.take hl'
    have hw : w = some v := by
      obtain ⟨u, h1, h2⟩ := h.pa i _ hl' rfl
      rw [e2] at h1; cases h1
      simpa [ancL] using h2
    have hli : i < ρ.length := (List.getElem?_eq_some_iff.mp hl').1
    have ok1 : StOk K S H anc (ρ.set i none) σ g := by
      refine ⟨e4.sub, e4.rep, e4.nd, fun j b' hj hb => ?_⟩
      obtain ⟨u, h1, h2⟩ := e4.pa j b' hj hb
      refine ⟨u, h1, ?_⟩
      have hne : j ≠ i := by
        rintro rfl
        rw [List.getElem?_set_self hli] at hj; cases hj
      simpa [ancL, hne] using h2
    have e3' : RepO K S H b.o v fi := e3
    have ok2 := ok1.put (b := b) (v := v) (fi := fi) (by rw [List.getElem?_set_self hli]) e3' (e1.nodup_iff.mp h.nd) (fun hb => (ha hb).trans hw)
    rw [set_none_some, set_self e2] at ok2
    exact ok2.perm e1
/-- the iterator J hands out x.ds, one after the other -/
def ItOk (K : Frag) (J : It) (x : ItD) (anc : Nat → Option V) (S0 : Hp) : Prop := ∀ (k : Nat) (S H : Hp) (ρ : Ev) (σ : L2.St) (fp : List Addr), StOk K S H anc ρ σ fp → Same S0 S → lockAt x.lk ρ →
  (x.ds.length ≤ k → J.stop k H) ∧ ∀ d, x.ds[k]? = some d → J.go k H ∧ ∀ v H', J.yld k H v H' → ∃ S', Same S' H' ∧ Rep K S' d v ∧ Aft [] S H [] S' H'
def SndI (K : Frag) (wi : TI) (f : XI) : Prop := ∀ (anc : Nat → Option V) (ρ : Ev) (x : ItD) (ρ1 : Ev), f ρ = some (x, ρ1) → ∀ (σ : L2.St) (S H : Hp) (fp : List Addr), StOk K S H anc ρ σ fp → ∀ R : It → Hp → Prop,
  (∀ (J : It) (S' H' : Hp) (fp' : List Addr) (w : Option V), StOk K S' H' (ancL anc x.lk w) ρ1 σ fp' → Aft fp S H fp' S' H' → ItOk K J x (ancL anc x.lk w) S' → AncOk anc x.lk w → lockAt x.lk ρ1 → R J H') → wi σ H R
/-- fixed slots stay, but for the lock itself -/
def KpI (f : XI) : Prop := ∀ ρ x ρ1, f ρ = some (x, ρ1) → lockAt x.lk ρ1 ∧ ∀ (i : Nat) (b : Bd), ρ[i]? = some (some b) → b.fixed = true → x.lk = some (i, b) ∨ ((∀ c, x.lk ≠ some (i, c)) ∧ ρ1[i]? = some (some b))
/-- behind the loop -/
theorem unlock_kp {x : ItD} {ρ ρ1 ρ2 : Ev} (hl : lockAt x.lk ρ1) (h : ∀ (i : Nat) (b : Bd), ρ[i]? = some (some b) → b.fixed = true → x.lk = some (i, b) ∨ ((∀ c, x.lk ≠ some (i, c)) ∧ ρ1[i]? = some (some b)))
    (k : ∀ (i : Nat) (b : Bd), ρ1[i]? = some (some b) → b.fixed = true → ρ2[i]? = some (some b)) (i : Nat) (b : Bd) (hb : ρ[i]? = some (some b)) (hf : b.fixed = true) : (unlock x.lk ρ2)[i]? = some (some b) := by
  rcases h i b hb hf with e | ⟨h1, h2⟩
  · rw [e] at hl ⊢
    have hl' : ρ1[i]? = some (some (.lk b.o)) := hl
    have h3 := k i _ hl' rfl
    show (ρ2.set i (some b))[i]? = _
    rw [List.getElem?_set_self (List.getElem?_eq_some_iff.mp h3).1]
  · cases hx : x.lk with
    | none => exact k i b h2 hf
    | some p =>
      obtain ⟨j, c⟩ := p
      show (ρ2.set j (some c))[i]? = _
      rw [List.getElem?_set_ne (fun z => h1 c (by rw [hx, z]))]
      exact k i b h2 hf

/-! ### for -/
def Res.map (f : Ev → Ev) : Res → Res
  | .nx ρ => .nx (f ρ) | .rt o ρ => .rt o (f ρ) | .bk ρ => .bk (f ρ) | .ct ρ => .ct (f ρ)
theorem Res.map_ρ (f : Ev → Ev) (r : Res) : (r.map f).ρ = f r.ρ := by cases r <;> rfl
def forF (g : XG) (f : XS) : List D → Ev → Option Res
  | [], ρ => some (.nx ρ)
  | d :: ds, ρ => (g (.sh d) ρ).bind fun ρ1 => match f ρ1 with
    | some (.nx ρ2) => forF g f ds ρ2
    | some (.ct ρ2) => forF g f ds ρ2
    | some (.bk ρ2) => some (.nx ρ2)
    | some (.rt o ρ2) => some (.rt o ρ2)
    | none => none
def xFor (it : XI) (g : XG) (f : XS) : XS := fun ρ => (it ρ).bind fun x => (forF g f x.1.ds x.2).map fun r => r.map (unlock x.1.lk)
theorem EndsOk.unlocked {anc : Nat → Option V} {lk : Option (Nat × Bd)} {w : Option V} {fp : List Addr} {De : Ends} {r : Res} (h : EndsOk K anc fp S H De (r.map (unlock lk))) (hl : lockAt lk r.ρ) (ha : AncOk anc lk w) : EndsOk K (ancL anc lk w) fp S H De r := by
  cases r with
  | nx ρ => exact fun σ' S' H' fp' ok a => h σ' S' H' fp' (unlock_ok ok hl ha) a
  | bk ρ => exact fun σ' S' H' fp' ok a => h σ' S' H' fp' (unlock_ok ok hl ha) a
  | ct ρ => exact fun σ' S' H' fp' ok a => h σ' S' H' fp' (unlock_ok ok hl ha) a
  | rt o ρ => exact fun σ' v S' H' fo fp' ok r nd a => h σ' v S' H' fo fp' (unlock_ok ok hl ha) r nd a
theorem lockAt_kp {lk : Option (Nat × Bd)} {ρ ρ' : Ev} (h : lockAt lk ρ) (k : ∀ (i : Nat) (b : Bd), ρ[i]? = some (some b) → b.fixed = true → ρ'[i]? = some (some b)) : lockAt lk ρ' := by
  cases lk with
  | none => trivial
  | some p => exact k p.1 _ h rfl
theorem forF_kp {g : XG} {f : XS} (kg : KpG g) (kf : KpS f) : ∀ (ds : List D) (ρ : Ev) (r : Res), forF g f ds ρ = some r → ∀ (i : Nat) (b : Bd), ρ[i]? = some (some b) → b.fixed = true → r.ρ[i]? = some (some b)
  | [], ρ, r, e, i, b, hb, hf => by cases e; exact hb
  | d :: ds, ρ, r, e, i, b, hb, hf => by
    simp only [forF, Option.bind_eq_some_iff] at e
    obtain ⟨ρ1, e1, e2⟩ := e
    have h1 := kg _ _ _ e1 i b hb hf
    split at e2
    · rename_i ρ2 e3; exact forF_kp kg kf ds ρ2 r e2 i b (kf _ _ e3 i b h1 hf) hf
    · rename_i ρ2 e3; exact forF_kp kg kf ds ρ2 r e2 i b (kf _ _ e3 i b h1 hf) hf
    · rename_i ρ2 e3; cases e2; exact kf _ _ e3 i b h1 hf
    · rename_i o ρ2 e3; cases e2; exact kf _ _ e3 i b h1 hf
    · cases e2
theorem KpS.for {it : XI} {g : XG} {f : XS} (ki : KpI it) (kg : KpG g) (kf : KpS f) : KpS (xFor it g f) := fun ρ r e i b hb hf => by
  unfold xFor at e
  simp only [Option.bind_eq_some_iff, Option.map_eq_some_iff] at e
  obtain ⟨⟨x, ρ1⟩, e1, r1, e2, rfl⟩ := e
  obtain ⟨h1, h2⟩ := ki ρ x ρ1 e1
  rw [Res.map_ρ]
  exact unlock_kp h1 h2 (fun i b hb hf => forF_kp kg kf _ _ _ e2 i b hb hf) i b hb hf
theorem snd_for {wi : TI} {t : TG} {tb : TS} {it : XI} {tg : List Nat} {g : XG} {f : XS} (hi : SndI K wi it) (hg : SndG K tg t g) (kg : KpG g) (hf : SndS K tb f) (kf : KpS f) : SndS K (tFor wi t tb) (xFor it g f) := fun anc ρ r e σ S H fp ok De q => by
  unfold xFor at e
  simp only [Option.bind_eq_some_iff, Option.map_eq_some_iff] at e
  obtain ⟨⟨x, ρ1⟩, e1, r0, e2, rfl⟩ := e
  refine hi anc ρ x ρ1 e1 σ S H fp ok _ fun J S1 H1 fp1 w ok1 a1 hJ hA hL => ?_
  have q1 := q.after a1
  refine ⟨fun i m σ' H' => m = x.ds.length - i ∧ i ≤ x.ds.length ∧ ∃ ρ' S' fp', StOk K S' H' (ancL anc x.lk w) ρ' σ' fp' ∧ Aft fp1 S1 H1 fp' S' H' ∧ lockAt x.lk ρ' ∧ forF g f (x.ds.drop i) ρ' = some r0,
    ⟨_, rfl, Nat.zero_le _, ρ1, S1, fp1, ok1, Aft.refl fun _ h => h, hL, by simpa using e2⟩, fun i m σ' H' hW => ?_⟩
  obtain ⟨rfl, hi', ρ', S', fp', ok', a', hL', e'⟩ := hW
  obtain ⟨j1, j2⟩ := hJ i S' H' ρ' σ' fp' ok' a'.sub hL'
  by_cases hlt : i < x.ds.length
  · have hd : x.ds[i]? = some x.ds[i] := List.getElem?_eq_getElem hlt
    have hdr : x.ds.drop i = x.ds[i] :: x.ds.drop (i + 1) := List.drop_eq_getElem_cons hlt
    rw [hdr] at e'
    simp only [forF, Option.bind_eq_some_iff] at e'
    obtain ⟨ρ2, e3, e4⟩ := e'
    obtain ⟨go, yl⟩ := j2 _ hd
    have hL2 := lockAt_kp hL' fun i b hb hf => kg _ _ _ e3 i b hb hf
    refine .inr ⟨go, fun σ3 H3 => ∃ ρ3 S3 fp3, StOk K S3 H3 (ancL anc x.lk w) ρ3 σ3 fp3 ∧ Aft fp1 S1 H1 fp3 S3 H3 ∧ lockAt x.lk ρ3 ∧ forF g f (x.ds.drop (i + 1)) ρ3 = some r0, fun σ3 H3 ⟨ρ3, S3, fp3, n1, n2, n3, n4⟩ => ⟨x.ds.length - (i + 1), by omega, rfl, hlt, ρ3, S3, fp3, n1, n2, n3, n4⟩, fun v Hy hy => ?_⟩
    obtain ⟨Sy, sy, ry, ay⟩ := yl v Hy hy
    have oky : StOk K Sy Hy (ancL anc x.lk w) ρ' σ' fp' := ok'.along ay sy fun _ _ => by simp
    have ay' : Aft fp1 S1 H1 fp' Sy Hy := a'.trans (ay.wide (by simp) fun b hb => .inr hb)
    refine hg _ ρ' _ ρ2 e3 v σ' Sy Hy fp' [] oky (.sh ry) (by simpa using oky.nd) _ fun σ2 fp2 ok2 sub2 _ _ => ?_
    have a2 : Aft fp1 S1 H1 fp2 Sy Hy := ay'.wide (fun _ h => h) fun b hb => .inl (by simpa using sub2 b hb)
    cases e5 : f ρ2 with
    | none => rw [e5] at e4; cases e4
    | some rb =>
      rw [e5] at e4
      refine hf _ ρ2 rb e5 σ2 Sy Hy fp2 ok2 _ ?_
      cases rb with
      | nx ρ3 => exact fun σ3 S3 H3 fp3 ok3 a3 => ⟨ρ3, S3, fp3, ok3, a2.trans a3, lockAt_kp hL2 fun i b hb hf => kf _ _ e5 i b hb hf, e4⟩
      | ct ρ3 => exact fun σ3 S3 H3 fp3 ok3 a3 => ⟨ρ3, S3, fp3, ok3, a2.trans a3, lockAt_kp hL2 fun i b hb hf => kf _ _ e5 i b hb hf, e4⟩
      | bk ρ3 =>
        cases e4
        have q2 := q1.unlocked (lockAt_kp hL2 fun i b hb hf => kf _ _ e5 i b hb hf) hA
        exact fun σ3 S3 H3 fp3 ok3 a3 => q2 σ3 S3 H3 fp3 ok3 (a2.trans a3)
      | rt o ρ3 =>
        cases e4
        have q2 := q1.unlocked (lockAt_kp hL2 fun i b hb hf => kf _ _ e5 i b hb hf) hA
        exact fun σ3 v3 S3 H3 fo fp3 ok3 r3 nd3 a3 => q2 σ3 v3 S3 H3 fo fp3 ok3 r3 nd3 (a2.trans a3)
  · have hn : x.ds.length ≤ i := Nat.le_of_not_lt hlt
    rw [List.drop_of_length_le hn] at e'
    cases e'
    exact .inl ⟨j1 hn, q1.unlocked hL' hA σ' S' H' fp' ok' a'⟩

/-! ### while -/
def whileF (c : XB) (f : XS) : Nat → Ev → Option Res
  | 0, _ => none
  | n + 1, ρ => (c ρ).bind fun x => if x.1 then match f x.2 with
    | some (.nx ρ2) => whileF c f n ρ2
    | some (.ct ρ2) => whileF c f n ρ2
    | some (.bk ρ2) => some (.nx ρ2)
    | some (.rt o ρ2) => some (.rt o ρ2)
    | none => none
    else some (.nx x.2)
def xWhile (n : Nat) (c : XB) (f : XS) : XS := whileF c f n
theorem whileF_kp {c : XB} {f : XS} (kc : Kp c) (kf : KpS f) : ∀ (n : Nat) (ρ : Ev) (r : Res), whileF c f n ρ = some r → ∀ (i : Nat) (b : Bd), ρ[i]? = some (some b) → b.fixed = true → r.ρ[i]? = some (some b)
  | 0, ρ, r, e, i, b, hb, hf => by cases e
  | n + 1, ρ, r, e, i, b, hb, hf => by
    simp only [whileF, Option.bind_eq_some_iff] at e
    obtain ⟨⟨k, ρ1⟩, e1, e2⟩ := e
    have h1 := kc _ _ _ e1 i b hb hf
    cases k with
    | false => cases e2; exact h1
    | true =>
      simp only [if_true] at e2
      split at e2
      · rename_i ρ2 e3; exact whileF_kp kc kf n ρ2 r e2 i b (kf _ _ e3 i b h1 hf) hf
      · rename_i ρ2 e3; exact whileF_kp kc kf n ρ2 r e2 i b (kf _ _ e3 i b h1 hf) hf
      · rename_i ρ2 e3; cases e2; exact kf _ _ e3 i b h1 hf
      · rename_i o ρ2 e3; cases e2; exact kf _ _ e3 i b h1 hf
      · cases e2
theorem KpS.while {n : Nat} {c : XB} {f : XS} (kc : Kp c) (kf : KpS f) : KpS (xWhile n c f) := whileF_kp kc kf n
theorem snd_while {tc : TT} {tb : TS} {n : Nat} {c : XB} {f : XS} (hc : SndB K tc c) (hf : SndS K tb f) : SndS K (tWhile tc tb) (xWhile n c f) := fun anc ρ r e σ S H fp ok De q => by
  refine ⟨fun m σ' H' => ∃ ρ' S' fp', StOk K S' H' anc ρ' σ' fp' ∧ Aft fp S H fp' S' H' ∧ whileF c f m ρ' = some r, ⟨n, ρ, S, fp, ok, Aft.refl fun _ h => h, e⟩, fun m σ' H' hW => ?_⟩
  obtain ⟨ρ', S', fp', ok', a', e'⟩ := hW
  cases m with
  | zero => cases e'
  | succ m =>
    simp only [whileF, Option.bind_eq_some_iff] at e'
    obtain ⟨⟨k, ρ1⟩, e1, e2⟩ := e'
    refine hc anc ρ' k ρ1 e1 σ' S' H' fp' ok' _ fun S2 H2 fp2 ok2 a2 => ?_
    have a3 := a'.trans a2
    cases k with
    | false =>
      cases e2
      exact q σ' S2 H2 fp2 ok2 a3
    | true =>
      simp only [if_true] at e2
      show ∃ N : L2.St → Hp → Prop, _
      refine ⟨fun σ3 H3 => ∃ ρ3 S3 fp3, StOk K S3 H3 anc ρ3 σ3 fp3 ∧ Aft fp S H fp3 S3 H3 ∧ whileF c f m ρ3 = some r, fun σ3 H3 hn => ⟨m, Nat.lt_succ_self m, hn⟩, ?_⟩
      cases e5 : f ρ1 with
      | none => rw [e5] at e2; cases e2
      | some rb =>
        rw [e5] at e2
        refine hf anc ρ1 rb e5 σ' S2 H2 fp2 ok2 _ ?_
        cases rb with
        | nx ρ3 => exact fun σ3 S3 H3 fp3 ok3 a4 => ⟨ρ3, S3, fp3, ok3, a3.trans a4, e2⟩
        | ct ρ3 => exact fun σ3 S3 H3 fp3 ok3 a4 => ⟨ρ3, S3, fp3, ok3, a3.trans a4, e2⟩
        | bk ρ3 => cases e2; exact fun σ3 S3 H3 fp3 ok3 a4 => q σ3 S3 H3 fp3 ok3 (a3.trans a4)
        | rt o ρ3 => cases e2; exact fun σ3 v3 S3 H3 fo fp3 ok3 r3 nd3 a4 => q σ3 v3 S3 H3 fo fp3 ok3 r3 nd3 (a3.trans a4)

/-! ### what is walked: ranges, lists, tuples -/
def iRange (f : XD) : XI := fun ρ => match f ρ with
  | some (.int n, ρ1) => if -(2 ^ 62) ≤ n ∧ n < 2 ^ 62 then some (⟨(List.range n.toNat).map fun k => .int (k : Nat), none⟩, ρ1) else none
  | _ => none
theorem aft0 : Aft [] S H [] S H := Aft.refl fun _ h => h
theorem itOk_range {lo : Int} {n : Nat} {anc : Nat → Option V} {S0 : Hp} : ItOk K (Itr lo n) ⟨(List.range n).map fun k => .int (lo + (k : Nat)), none⟩ anc S0 := fun k S H ρ σ fp ok _ _ => by
  refine ⟨fun h => (by show n ≤ k; simpa using h), fun d hd => ?_⟩
  rw [List.getElem?_map] at hd
  by_cases hk : k < n
  · rw [List.getElem?_range hk] at hd
    cases hd
    refine ⟨hk, fun v H' hy => ?_⟩
    obtain ⟨rfl, rfl⟩ := hy
    exact ⟨S, ok.sub, .int _, aft0⟩
  · rw [List.getElem?_eq_none (by simpa using hk)] at hd; cases hd
theorem iRange_some {f : XD} {ρ ρ1 : Ev} {x : ItD} (e : iRange f ρ = some (x, ρ1)) : ∃ n : Int, f ρ = some (.int n, ρ1) ∧ -(2 ^ 62) ≤ n ∧ n < 2 ^ 62 ∧ x = ⟨(List.range n.toNat).map fun k => .int (k : Nat), none⟩ := by
  unfold iRange at e
  split at e
  · split at e
    · rename_i h; cases e; exact ⟨_, by assumption, h.1, h.2, rfl⟩
    · cases e
  · cases e
theorem snd_range {t : TE} {f : XD} (h : SndD K t f) : SndI K (iRng1 (tCons t tNil)) (iRange f) := fun anc ρ x ρ1 e σ S H fp ok R q => by
  obtain ⟨n, e1, h1, h2, rfl⟩ := iRange_some e
  refine h anc ρ _ ρ1 e1 σ S H fp ok _ fun v S' H' fp' ok' r a => ?_
  refine ⟨n, by rw [r.int_inv], h1, h2, q _ S' H' fp' none ok' a ?_ trivial trivial⟩
  have := itOk_range (K := K) (lo := 0) (n := n.toNat) (anc := anc) (S0 := S')
  simp only [Int.zero_add] at this
  exact this
theorem KpI.range {f : XD} (k : Kp f) : KpI (iRange f) := fun ρ x ρ1 e => by
  obtain ⟨n, e1, h1, h2, rfl⟩ := iRange_some e
  exact ⟨trivial, fun i b hb hf => .inr ⟨fun c z => (by cases z), k _ _ _ e1 i b hb hf⟩⟩
def iRange2 (f g : XD) : XI := fun ρ => match f ρ with
  | some (.int m, ρ1) => match g ρ1 with
    | some (.int n, ρ2) => if -(2 ^ 62) ≤ m ∧ m < 2 ^ 62 ∧ -(2 ^ 62) ≤ n ∧ n < 2 ^ 62 then some (⟨(List.range (n - m).toNat).map fun k => .int (m + (k : Nat)), none⟩, ρ2) else none
    | _ => none
  | _ => none
theorem iRange2_some {f g : XD} {ρ ρ2 : Ev} {x : ItD} (e : iRange2 f g ρ = some (x, ρ2)) : ∃ (m n : Int) (ρ1 : Ev), f ρ = some (.int m, ρ1) ∧ g ρ1 = some (.int n, ρ2) ∧ (-(2 ^ 62) ≤ m ∧ m < 2 ^ 62 ∧ -(2 ^ 62) ≤ n ∧ n < 2 ^ 62) ∧ x = ⟨(List.range (n - m).toNat).map fun k => .int (m + (k : Nat)), none⟩ := by
  unfold iRange2 at e
  split at e
  · split at e
    · split at e
      · rename_i h; cases e; exact ⟨_, _, _, by assumption, by assumption, h, rfl⟩
      · cases e
    · cases e
  · cases e
theorem snd_range2 {t u : TE} {f g : XD} (h : SndD K t f) (h' : SndD K u g) : SndI K (iRng2 (tCons t (tCons u tNil))) (iRange2 f g) := fun anc ρ x ρ2 e σ S H fp ok R q => by
  obtain ⟨m, n, ρ1, e1, e2, hb, rfl⟩ := iRange2_some e
  refine h anc ρ _ ρ1 e1 σ S H fp ok _ fun v S1 H1 fp1 ok1 r1 a1 => ?_
  refine h' anc ρ1 _ ρ2 e2 σ S1 H1 fp1 ok1 _ fun w S' H' fp' ok' r2 a2 => ?_
  exact ⟨m, n, by rw [r1.int_inv, r2.int_inv], hb, q _ S' H' fp' none ok' (a1.trans a2) itOk_range trivial trivial⟩
theorem KpI.range2 {f g : XD} (k : Kp f) (k' : Kp g) : KpI (iRange2 f g) := fun ρ x ρ1 e => by
  obtain ⟨m, n, ρ1, e1, e2, hb, rfl⟩ := iRange2_some e
  exact ⟨trivial, fun i b hb hf => .inr ⟨fun c z => (by cases z), k' _ _ _ e2 i b (k _ _ _ e1 i b hb hf) hf⟩⟩
/-- a list or a tuple that is walked -/
def iSeqT (K : Frag) (tl : TE) : TI := fun σ H R => tl σ H fun x H1 => ∃ a, x = .ref a ∧ ((∃ xs, SqL K H1 a xs ∧ R (Itl K a) H1) ∨ (∃ xs, SqT K H1 a xs ∧ R (Itt K a) H1))
theorem pi_seq {X : Cx} {tg l : Expr} {tl : TE} (hl : PE X l tl) : PI X tg l (iSeqT X.K tl) := by
  refine ⟨fun pins s σ H R I h => ?_⟩
  refine thn (hl.run pins s σ H _ I h) fun v s1 ⟨x, H1, I1, r1, q1⟩ => ?_
  obtain ⟨a, e, ⟨xs, hq, q⟩ | ⟨xs, hq, q⟩⟩ := q1
  · subst e
    cases r1
    obtain ⟨its, rv, p, hz⟩ := I1.list hq
    refine wpAny_pyIter_list p.isList ?_
    refine ⟨s1.heap.objs.size, [s1.heap.objs.size], _, _, H1, rfl, I1.kept (t' := s1.toks) fun b o e => Heap.get?_push_of_some _ e, turn_list a _, ⟨_, Heap.get?_push_size _ rfl, rfl, rfl⟩, fun b hb => ?_, q⟩
    have e : b = s1.heap.objs.size := by simpa using hb
    subst e
    exact I1.fpOk (Nat.le_refl _) (I1.hok.fresh (Nat.le_refl _))
  · subst e
    cases r1
    obtain ⟨its, rv, p, hz⟩ := I1.tuple hq
    refine wpAny_pyIter_tuple (show s1.heap.IsTuple a its.toArray from p) ?_
    refine ⟨s1.heap.objs.size, [s1.heap.objs.size], _, _, H1, rfl, I1.kept (t' := s1.toks) fun b o e => Heap.get?_push_of_some _ e, turn_tuple a _, ⟨_, Heap.get?_push_size _ rfl, rfl, rfl⟩, fun b hb => ?_, q⟩
    have e : b = s1.heap.objs.size := by simpa using hb
    subst e
    exact I1.fpOk (Nat.le_refl _) (I1.hok.fresh (Nat.le_refl _))
theorem itOk_list {a : Addr} {vs : List V} {ds : List D} {lk : Option (Nat × Bd)} {anc : Nat → Option V} {S0 : Hp} (h1 : SqL K S0 a vs) (h2 : Reps K S0 ds vs) : ItOk K (Itl K a) ⟨ds, lk⟩ anc S0 := fun k S H ρ σ fp ok sub _ => by
  have hq : SqL K H a vs := sqL_mono (sub.trans ok.sub) h1
  refine ⟨fun h => ⟨vs, hq, by rw [← h2.length]; exact h⟩, fun d hd => ?_⟩
  obtain ⟨v, e1, r⟩ := h2.get hd
  refine ⟨⟨vs, v, hq, e1⟩, fun x H' hy => ?_⟩
  obtain ⟨rfl, hy⟩ := hy
  have : x = v := by have := hy vs hq; rw [e1] at this; cases this; rfl
  subst this
  exact ⟨S, ok.sub, r.mono sub, aft0⟩
theorem itOk_tup {a : Addr} {vs : List V} {ds : List D} {lk : Option (Nat × Bd)} {anc : Nat → Option V} {S0 : Hp} (h1 : SqT K S0 a vs) (h2 : Reps K S0 ds vs) : ItOk K (Itt K a) ⟨ds, lk⟩ anc S0 := fun k S H ρ σ fp ok sub _ => by
  have hq : SqT K H a vs := sqT_mono (sub.trans ok.sub) h1
  refine ⟨fun h => ⟨vs, hq, by rw [← h2.length]; exact h⟩, fun d hd => ?_⟩
  obtain ⟨v, e1, r⟩ := h2.get hd
  refine ⟨⟨vs, v, hq, e1⟩, fun x H' hy => ?_⟩
  obtain ⟨rfl, hy⟩ := hy
  have : x = v := by have := hy vs hq; rw [e1] at this; cases this; rfl
  subst this
  exact ⟨S, ok.sub, r.mono sub, aft0⟩
/-- data that stay as they are -/
def iSeq (f : XD) : XI := fun ρ => match f ρ with
  | some (.list ds, ρ1) => some (⟨ds, none⟩, ρ1)
  | some (.tuple ds, ρ1) => some (⟨ds, none⟩, ρ1)
  | _ => none
theorem iSeq_some {f : XD} {ρ ρ1 : Ev} {x : ItD} (e : iSeq f ρ = some (x, ρ1)) : ∃ ds, (f ρ = some (.list ds, ρ1) ∨ f ρ = some (.tuple ds, ρ1)) ∧ x = ⟨ds, none⟩ := by
  unfold iSeq at e
  split at e
  · cases e; exact ⟨_, .inl (by assumption), rfl⟩
  · cases e; exact ⟨_, .inr (by assumption), rfl⟩
  · cases e
theorem snd_seqI {t : TE} {f : XD} (h : SndD K t f) : SndI K (iSeqT K t) (iSeq f) := fun anc ρ x ρ1 e σ S H fp ok R q => by
  obtain ⟨ds, e1 | e1, rfl⟩ := iSeq_some e
  · refine h anc ρ _ ρ1 e1 σ S H fp ok _ fun v S' H' fp' ok' r a => ?_
    obtain ⟨l, vs, rfl, h1, h2⟩ := r.lst_inv
    exact ⟨l, rfl, .inl ⟨vs, sqL_mono ok'.sub h1, q _ S' H' fp' none ok' a (itOk_list h1 h2) trivial trivial⟩⟩
  · refine h anc ρ _ ρ1 e1 σ S H fp ok _ fun v S' H' fp' ok' r a => ?_
    obtain ⟨l, vs, rfl, h1, h2⟩ := r.tup_inv
    exact ⟨l, rfl, .inr ⟨vs, sqT_mono ok'.sub h1, q _ S' H' fp' none ok' a (itOk_tup h1 h2) trivial trivial⟩⟩
theorem KpI.seq {f : XD} (k : Kp f) : KpI (iSeq f) := fun ρ x ρ1 e => by
  obtain ⟨n, e1 | e1, rfl⟩ := iSeq_some e
  · exact ⟨trivial, fun i b hb hf => .inr ⟨fun c z => (by cases z), k _ _ _ e1 i b hb hf⟩⟩
  · exact ⟨trivial, fun i b hb hf => .inr ⟨fun c z => (by cases z), k _ _ _ e1 i b hb hf⟩⟩
/-- a name's list or tuple; one that is owned is locked while it is walked -/
def iVar (i : Nat) : XI := fun ρ => match ρ[i]? with
  | some (some b) => match b.o with
    | .ol os => (O.shs os).map fun ds => (⟨ds, some (i, b)⟩, ρ.set i (some (.lk (.ol os))))
    | .sh (.list ds) => some (⟨ds, none⟩, ρ)
    | .sh (.tuple ds) => some (⟨ds, none⟩, ρ)
    | _ => none
  | _ => none
theorem iVar_some {i : Nat} {ρ ρ1 : Ev} {x : ItD} (e : iVar i ρ = some (x, ρ1)) : ∃ b ds, ρ[i]? = some (some b) ∧ ((b.o = .ol (ds.map .sh) ∧ x = ⟨ds, some (i, b)⟩ ∧ ρ1 = ρ.set i (some (.lk b.o))) ∨ ((b.o = .sh (.list ds) ∨ b.o = .sh (.tuple ds)) ∧ x = ⟨ds, none⟩ ∧ ρ1 = ρ)) := by
  unfold iVar at e
  split at e
  · rename_i b hb
    split at e
    · rename_i os ho
      rw [Option.map_eq_some_iff] at e
      obtain ⟨ds, e1, e2⟩ := e
      cases e2
      exact ⟨b, ds, hb, .inl ⟨by rw [ho, O.shs_some e1], rfl, by rw [ho]⟩⟩
    · rename_i ds ho
      cases e
      exact ⟨b, ds, hb, .inr ⟨.inl ho, rfl, rfl⟩⟩
    · rename_i ds ho
      cases e
      exact ⟨b, ds, hb, .inr ⟨.inr ho, rfl, rfl⟩⟩
    · cases e
  · cases e
theorem KpI.var (i : Nat) : KpI (iVar i) := fun ρ x ρ1 e => by
  obtain ⟨b, ds, hb, ⟨h1, rfl, rfl⟩ | ⟨h1, rfl, rfl⟩⟩ := iVar_some e
  · have hl : i < ρ.length := (List.getElem?_eq_some_iff.mp hb).1
    refine ⟨by show (ρ.set i _)[i]? = _; rw [List.getElem?_set_self hl], fun j c hc hf => ?_⟩
    by_cases z : i = j
    · subst z
      rw [hb] at hc; cases hc
      exact .inl rfl
    · exact .inr ⟨fun c' w => (by cases w; exact z rfl), by rw [List.getElem?_set_ne z]; exact hc⟩
  · exact ⟨trivial, fun j c hc hf => .inr ⟨fun c' w => (by cases w), hc⟩⟩
theorem snd_varI (i : Nat) : SndI K (iSeqT K (tVar i)) (iVar i) := fun anc ρ x ρ1 e σ S H fp ok R q => by
  obtain ⟨b, ds, hb, ⟨h1, rfl, rfl⟩ | ⟨h1, rfl, rfl⟩⟩ := iVar_some e
  · have hl : i < ρ.length := (List.getElem?_eq_some_iff.mp hb).1
    obtain ⟨v, fi, g, e1, e2, e3, e4⟩ := ok.take hb
    rw [h1] at e3
    cases e3 with
    | ol g1 g2 g3 =>
      rename_i a vs f
      refine ⟨.ref a, e2, a, rfl, .inl ⟨vs, .inl (.inl g1), ?_⟩⟩
      have okL : StOk K S H (ancL anc (some (i, b)) (some (.ref a))) (ρ.set i (some (.lk b.o))) σ fp := by
        have ok1 : StOk K S H (ancL anc (some (i, b)) (some (.ref a))) (ρ.set i none) σ g := by
          refine ⟨e4.sub, e4.rep, e4.nd, fun j b' hj hb' => ?_⟩
          obtain ⟨u, q1, q2⟩ := e4.pa j b' hj hb'
          refine ⟨u, q1, ?_⟩
          have hne : j ≠ i := by
            rintro rfl
            rw [List.getElem?_set_self hl] at hj; cases hj
          simpa [ancL, hne] using q2
        have ok2 := ok1.put (b := .lk b.o) (v := .ref a) (by rw [List.getElem?_set_self hl]) (by show RepO K S H b.o _ _; rw [h1]; exact .ol g1 g2 g3) (e1.nodup_iff.mp ok.nd) (fun _ => by simp [ancL])
        rw [set_none_some, set_self e2] at ok2
        exact ok2.perm e1
      refine q (Itl K a) S H fp _ okL (Aft.refl fun _ h => h) ?_ (fun hb' => ?_) (by show (ρ.set i _)[i]? = _; rw [List.getElem?_set_self hl])
      · intro k S2 H2 ρ2 σ2 fp2 ok2 sub hL
        have hL' : ρ2[i]? = some (some (.lk b.o)) := hL
        obtain ⟨v2, fi2, g2', p1, p2, p3, p4⟩ := ok2.take hL'
        obtain ⟨u, u1, u2⟩ := ok2.pa i _ hL' rfl
        have hv : v2 = .ref a := by
          rw [p2] at u1; cases u1
          have : some (V.ref a) = some v2 := by simpa [ancL] using u2
          cases this; rfl
        subst hv
        have p3' : RepO K S2 H2 b.o (.ref a) fi2 := p3
        rw [h1] at p3'
        cases p3' with
        | ol n1 n2 n3 =>
          rename_i vs2 f2
          obtain ⟨_, r2⟩ := n3.sh_inv
          have hq : SqL K H2 a vs2 := .inl (.inl n1)
          refine ⟨fun h => ⟨vs2, hq, by rw [← r2.length]; exact h⟩, fun d hd => ?_⟩
          obtain ⟨w, w1, w2⟩ := r2.get hd
          refine ⟨⟨vs2, w, hq, w1⟩, fun y H' hy => ?_⟩
          obtain ⟨rfl, hy⟩ := hy
          have : y = w := by have := hy vs2 hq; rw [w1] at this; cases this; rfl
          subst this
          exact ⟨S2, ok2.sub, w2, aft0⟩
      · obtain ⟨u, u1, u2⟩ := ok.pa i b hb hb'
        rw [e2] at u1; cases u1
        exact u2
  · obtain ⟨v, fi, g, e1, e2, e3, e4⟩ := ok.take hb
    rcases h1 with h1 | h1
    · rw [h1] at e3
      cases e3 with
      | sh h =>
        obtain ⟨l, vs, rfl, g1, g2⟩ := h.lst_inv
        exact ⟨_, e2, l, rfl, .inl ⟨vs, sqL_mono ok.sub g1, q _ S H fp none ok (Aft.refl fun _ h => h) (itOk_list g1 g2) trivial trivial⟩⟩
    · rw [h1] at e3
      cases e3 with
      | sh h =>
        obtain ⟨l, vs, rfl, g1, g2⟩ := h.tup_inv
        exact ⟨_, e2, l, rfl, .inr ⟨vs, sqT_mono ok.sub g1, q _ S H fp none ok (Aft.refl fun _ h => h) (itOk_tup g1 g2) trivial trivial⟩⟩
end PL

namespace PL
open PySem PySem.Spec PyProof.Rows L2
variable {K : Frag} {S S' S1 S2 H H' H1 H2 : Hp}

def wipeE (ρ : Ev) : List Nat → Ev
  | [] => ρ
  | v :: vs => (wipeE ρ vs).set v none
/-- the block's names as they were ahead, where that is plain data -/
def unwipe (ρ0 : Ev) : List Nat → Ev → Ev
  | [], ρ => ρ
  | v :: vs, ρ => match ρ0[v]? with
    | some (some (.ow (.sh d))) => (unwipe ρ0 vs ρ).set v (some (.ow (.sh d)))
    | _ => unwipe ρ0 vs ρ
theorem wipeE_out {ρ : Ev} {i : Nat} : ∀ {vs : List Nat}, i ∉ vs → (wipeE ρ vs)[i]? = ρ[i]?
  | [], _ => rfl
  | v :: vs, h => by
    unfold wipeE
    rw [List.getElem?_set_ne (fun e => h (by simp [e]))]
    exact wipeE_out fun m => h (List.mem_cons_of_mem _ m)
theorem wipeE_length (ρ : Ev) : ∀ vs : List Nat, (wipeE ρ vs).length = ρ.length
  | [] => rfl
  | v :: vs => by unfold wipeE; rw [List.length_set, wipeE_length ρ vs]
theorem wipeE_in {ρ : Ev} {i : Nat} : ∀ {vs : List Nat}, i ∈ vs → (wipeE ρ vs)[i]? = none ∨ (wipeE ρ vs)[i]? = some none
  | v :: vs, h => by
    unfold wipeE
    by_cases e : v = i
    · subst e
      by_cases hl : v < (wipeE ρ vs).length
      · right; rw [List.getElem?_set_self hl]
      · left; rw [List.getElem?_eq_none (by simpa using hl)]
    · rw [List.getElem?_set_ne e]
      rcases List.mem_cons.mp h with h | h
      · exact absurd h.symm e
      · exact wipeE_in h
theorem wipe_length' (σ : L2.St) (vs : List Nat) : (wipe σ vs).length = σ.length := L2.wipe_length σ vs
theorem StOk.wiped {anc : Nat → Option V} {ρ : Ev} {σ : L2.St} {fp : List Addr} (h : StOk K S H anc ρ σ fp) : ∀ vs : List Nat, ∃ g, (∀ b ∈ g, b ∈ fp) ∧ StOk K S H anc (wipeE ρ vs) (wipe σ vs) g
  | [] => ⟨fp, fun _ h => h, h⟩
  | v :: vs => by
    obtain ⟨g, h1, h2⟩ := h.wiped vs
    obtain ⟨g', k, e1, e2⟩ := h2.drop v none
    exact ⟨g', fun b hb => h1 b (e1.mem_iff.mpr (List.mem_append_right _ hb)), e2⟩
/-- the slots that hold nothing may be any -/
theorem RepL.other : ∀ {ρ : Ev} {σ σ' : L2.St} {f : List Addr}, RepL K S H ρ σ f → σ'.length = σ.length → (∀ (j : Nat) (b : Bd), ρ[j]? = some (some b) → σ'[j]? = σ[j]?) → RepL K S H ρ σ' f
  | _, _, [], _, .nil, _, _ => .nil
  | _, _, _ :: _, _, .nil, l, _ => by simp at l
  | _, _, [], _, .no r, l, _ => by simp at l
  | _, _, y :: yr, _, .no r, l, h => .no (RepL.other r (by simpa using l) fun j b hb => by simpa using h (j + 1) b (by simpa using hb))
  | _, _, [], _, .ys h1 r, l, _ => by simp at l
  | _, _, y :: yr, _, .ys (b := b) (v := v) h1 r, l, h => by
    have e : some y = some (some v) := by simpa using h 0 b (by simp)
    cases e
    exact .ys h1 (RepL.other r (by simpa using l) fun j b hb => by simpa using h (j + 1) b (by simpa using hb))
theorem StOk.other {anc : Nat → Option V} {ρ : Ev} {σ σ' : L2.St} {fp : List Addr} (h : StOk K S H anc ρ σ fp) (hl : σ'.length = σ.length) (he : ∀ (j : Nat) (b : Bd), ρ[j]? = some (some b) → σ'[j]? = σ[j]?) : StOk K S H anc ρ σ' fp := by
  obtain ⟨f, r, q⟩ := h.rep
  refine ⟨h.sub, ⟨f, r.other hl he, q⟩, h.nd, fun i b hb ha => ?_⟩
  obtain ⟨v, h1, h2⟩ := h.pa i b hb ha
  exact ⟨v, (he i b hb).trans h1, h2⟩
theorem StOk.unwiped {anc anc' : Nat → Option V} {ρ0 ρ : Ev} {σ : L2.St} {S0 : Hp} {fp0 fp : List Addr} (h0 : ∀ (j : Nat) (d : D), ρ0[j]? = some (some (.ow (.sh d))) → ∃ v, σ[j]? = some (some v) ∧ Rep K S d v) : ∀ {vs : List Nat}, StOk K S H anc ρ σ fp → (∀ v ∈ vs, ρ[v]? = none ∨ ρ[v]? = some none) → vs.Nodup → StOk K S H anc (unwipe ρ0 vs ρ) σ fp
  | [], h, _, _ => h
  | v :: vs, h, hn, nd => by
    have ih := StOk.unwiped (vs := vs) (anc' := anc') (S0 := S0) (fp0 := fp0) h0 h (fun w hw => hn w (List.mem_cons_of_mem _ hw)) (List.nodup_cons.mp nd).2
    unfold unwipe
    split
    · rename_i d hd
      obtain ⟨w, e1, r⟩ := h0 v d hd
      have hlen : v < ρ.length := by
        rw [h.len]
        exact (List.getElem?_eq_some_iff.mp e1).1
      have keep : ∀ {us : List Nat}, v ∉ us → (unwipe ρ0 us ρ)[v]? = ρ[v]? := by
        intro us
        induction us with
        | nil => intro _; rfl
        | cons u us ihu =>
          intro hu
          unfold unwipe
          split
          · rw [List.getElem?_set_ne (fun z => hu (by simp [z]))]
            exact ihu fun m => hu (List.mem_cons_of_mem _ m)
          · exact ihu fun m => hu (List.mem_cons_of_mem _ m)
      have e2 : (unwipe ρ0 vs ρ)[v]? = some none := by
        rw [keep (List.nodup_cons.mp nd).1]
        rcases hn v List.mem_cons_self with z | z
        · rw [List.getElem?_eq_getElem hlen] at z; cases z
        · exact z
      have := ih.put (b := .ow (.sh d)) (v := w) (fi := []) e2 (.sh r) (by simpa using ih.nd) (fun z => by cases z)
      rw [set_self e1] at this
      exact this
    · exact ih
theorem unwipe_out {ρ0 ρ : Ev} {i : Nat} : ∀ {vs : List Nat}, i ∉ vs → (unwipe ρ0 vs ρ)[i]? = ρ[i]?
  | [], _ => rfl
  | u :: us, h => by
    unfold unwipe
    split
    · rw [List.getElem?_set_ne (fun z => h (by simp [z]))]
      exact unwipe_out fun m => h (List.mem_cons_of_mem _ m)
    · exact unwipe_out fun m => h (List.mem_cons_of_mem _ m)

/-! ### a comprehension with one clause -/
def compF (vs : List Nat) (g : XG) (c : XB) (e : XF) : List D → Ev → Option (List O × Ev)
  | [], ρ => some ([], ρ)
  | d :: ds, ρ => (g (.sh d) ρ).bind fun ρ1 => (c ρ1).bind fun x => if x.1 then (e x.2).bind fun y => (compF vs g c e ds (wipeE y.2 vs)).map fun z => (y.1 :: z.1, z.2)
    else compF vs g c e ds (wipeE x.2 vs)
/-- the block's names hold nothing that must stay -/
def compOk (vs : List Nat) (lk : Option (Nat × Bd)) (ρ : Ev) : Bool := (vs.all fun v => match ρ[v]? with | some (some b) => !b.fixed | _ => true) && (match lk with | none => true | some (i, _) => !vs.contains i)
def sComp (it : XI) (vs : List Nat) (g : XG) (c : XB) (e : XF) : XF := fun ρ => (it ρ).bind fun x => if compOk vs x.1.lk x.2 && decide (x.1.ds.length < 16777216) then
  (compF vs g c e x.1.ds (wipeE x.2 vs)).map fun z => (.ol z.1, unlock x.1.lk (unwipe x.2 vs z.2)) else none
theorem sComp_some {it : XI} {vs : List Nat} {g : XG} {c : XB} {e : XF} {ρ ρ' : Ev} {o : O} (h : sComp it vs g c e ρ = some (o, ρ')) : ∃ x ρ1 os ρ2, it ρ = some (x, ρ1) ∧ compOk vs x.lk ρ1 = true ∧ x.ds.length < 16777216 ∧ compF vs g c e x.ds (wipeE ρ1 vs) = some (os, ρ2) ∧ o = .ol os ∧ ρ' = unlock x.lk (unwipe ρ1 vs ρ2) := by
  unfold sComp at h
  rw [Option.bind_eq_some_iff] at h
  obtain ⟨⟨x, ρ1⟩, h1, h2⟩ := h
  split at h2
  · rename_i hc
    rw [Bool.and_eq_true, decide_eq_true_eq] at hc
    rw [Option.map_eq_some_iff] at h2
    obtain ⟨⟨os, ρ2⟩, h3, h4⟩ := h2
    cases h4
    exact ⟨x, ρ1, os, ρ2, h1, hc.1, hc.2, h3, rfl, rfl⟩
  · cases h2
theorem compF_kp {vs : List Nat} {g : XG} {c : XB} {e : XF} (kg : KpG g) (kc : Kp c) (ke : Kp e) : ∀ (ds : List D) (ρ : Ev) (os : List O) (ρ' : Ev), compF vs g c e ds ρ = some (os, ρ') → ∀ (i : Nat) (b : Bd), i ∉ vs → ρ[i]? = some (some b) → b.fixed = true → ρ'[i]? = some (some b)
  | [], ρ, os, ρ', h, i, b, hv, hb, hf => by cases h; exact hb
  | d :: ds, ρ, os, ρ', h, i, b, hv, hb, hf => by
    simp only [compF, Option.bind_eq_some_iff] at h
    obtain ⟨ρ1, h1, ⟨k, ρ2⟩, h2, h3⟩ := h
    have b1 := kc _ _ _ h2 i b (kg _ _ _ h1 i b hb hf) hf
    cases k with
    | true =>
      simp only [if_true, Option.bind_eq_some_iff, Option.map_eq_some_iff] at h3
      obtain ⟨⟨o, ρ3⟩, h4, ⟨os2, ρ4⟩, h5, h6⟩ := h3
      cases h6
      exact compF_kp kg kc ke ds _ _ _ h5 i b hv (by rw [wipeE_out hv]; exact ke _ _ _ h4 i b b1 hf) hf
    | false =>
      exact compF_kp kg kc ke ds _ _ _ h3 i b hv (by rw [wipeE_out hv]; exact b1) hf
theorem compOk_out {vs : List Nat} {lk : Option (Nat × Bd)} {ρ : Ev} (h : compOk vs lk ρ = true) {i : Nat} {b : Bd} (hb : ρ[i]? = some (some b)) (hf : b.fixed = true) : i ∉ vs := fun hi => by
  unfold compOk at h
  rw [Bool.and_eq_true, List.all_eq_true] at h
  have := h.1 i hi
  rw [hb] at this
  simp [hf] at this
theorem Kp.comp {it : XI} {vs : List Nat} {g : XG} {c : XB} {e : XF} (ki : KpI it) (kg : KpG g) (kc : Kp c) (ke : Kp e) : Kp (sComp it vs g c e) := fun ρ o ρ' h i b hb hf => by
  obtain ⟨x, ρ1, os, ρ2, h1, h2, h3, h4, rfl, rfl⟩ := sComp_some h
  obtain ⟨k1, k2⟩ := ki ρ x ρ1 h1
  refine unlock_kp k1 k2 (fun j c hc hf => ?_) i b hb hf
  have hv := compOk_out h2 hc hf
  rw [unwipe_out hv]
  exact compF_kp kg kc ke _ _ _ _ h4 j c hv (by rw [wipeE_out hv]; exact hc) hf
/-- the wiped slots stay so -/
theorem compF_wiped {vs : List Nat} {g : XG} {c : XB} {e : XF} : ∀ (ds : List D) (ρ : Ev) (os : List O) (ρ' : Ev), compF vs g c e ds ρ = some (os, ρ') → (∀ v ∈ vs, ρ[v]? = none ∨ ρ[v]? = some none) → ∀ v ∈ vs, ρ'[v]? = none ∨ ρ'[v]? = some none
  | [], ρ, os, ρ', h, hw => by cases h; exact hw
  | d :: ds, ρ, os, ρ', h, hw => by
    simp only [compF, Option.bind_eq_some_iff] at h
    obtain ⟨ρ1, h1, ⟨k, ρ2⟩, h2, h3⟩ := h
    cases k with
    | true =>
      simp only [if_true, Option.bind_eq_some_iff, Option.map_eq_some_iff] at h3
      obtain ⟨⟨o, ρ3⟩, h4, ⟨os2, ρ4⟩, h5, h6⟩ := h3
      cases h6
      exact compF_wiped ds _ _ _ h5 fun v hv => wipeE_in hv
    | false => exact compF_wiped ds _ _ _ h3 fun v hv => wipeE_in hv
theorem compF_len {vs : List Nat} {g : XG} {c : XB} {e : XF} : ∀ (ds : List D) (ρ : Ev) (os : List O) (ρ' : Ev), compF vs g c e ds ρ = some (os, ρ') → os.length ≤ ds.length
  | [], ρ, os, ρ', h => by cases h; simp
  | d :: ds, ρ, os, ρ', h => by
    simp only [compF, Option.bind_eq_some_iff] at h
    obtain ⟨ρ1, h1, ⟨k, ρ2⟩, h2, h3⟩ := h
    cases k with
    | true =>
      simp only [if_true, Option.bind_eq_some_iff, Option.map_eq_some_iff] at h3
      obtain ⟨⟨o, ρ3⟩, h4, ⟨os2, ρ4⟩, h5, h6⟩ := h3
      cases h6
      have := compF_len ds _ _ _ h5
      simp only [List.length_cons]; omega
    | false =>
      have := compF_len ds _ _ _ h3
      simp only [List.length_cons]; omega
theorem wipe_eq {σ σ' : L2.St} {vs tg : List Nat} (ht : ∀ j ∈ tg, j ∈ vs) (he : ∀ j, j ∉ tg → σ'[j]? = (wipe σ vs)[j]?) (hl : σ'.length = (wipe σ vs).length) : wipe σ' vs = wipe σ vs := by
  apply List.ext_getElem?
  intro j
  have inside : ∀ (τ : L2.St) {us : List Nat}, j ∈ us → (wipe τ us)[j]? = if j < τ.length then some none else none := by
    intro τ us
    induction us with
    | nil => intro h; simp at h
    | cons u us ih =>
      intro h
      unfold wipe
      by_cases e : u = j
      · subst e
        by_cases hl : u < τ.length
        · rw [List.getElem?_set_self (by rw [L2.wipe_length]; exact hl), if_pos hl]
        · rw [List.getElem?_eq_none (by rw [List.length_set, L2.wipe_length]; omega), if_neg hl]
      · rw [List.getElem?_set_ne e]
        rcases List.mem_cons.mp h with h | h
        · exact absurd h.symm e
        · exact ih h
  by_cases hj : j ∈ vs
  · rw [inside σ' hj, inside σ hj, hl, L2.wipe_length]
  · rw [L2.wipe_out hj, he j fun z => hj (ht j z)]
/-- the accumulated list beside the state -/
theorem snd_comp {wi : TI} {t : TG} {tt : TT} {te : TE} {it : XI} {vs tg : List Nat} {g : XG} {c : XB} {e : XF} (hi : SndI K wi it) (hg : SndG K tg t g) (ht : ∀ j ∈ tg, j ∈ vs) (kg : KpG g) (hc : SndB K tt c) (kc : Kp c) (he : Snd K te e) (ke : Kp e) (ndv : vs.Nodup) :
    Snd K (tLc wi t tt te vs) (sComp it vs g c e) := fun anc ρ o ρ' h σ S H fp ok Q q => by
  obtain ⟨x, ρ1, osf, ρf, h1, h2, h3, h4, rfl, rfl⟩ := sComp_some h
  refine hi anc ρ x ρ1 h1 σ S H fp ok _ fun J S1 H1 fp1 w ok1 a1 hJ hA hL => ?_
  intro D hD
  have hSD : S1 D = none := ok1.sub.free hD
  obtain ⟨fw, subw, okw⟩ := ok1.wiped vs
  have nfp1 : ∀ b ∈ fp1, b ≠ D := fun b hb z => by
    obtain ⟨⟨u, hu⟩, _⟩ := ok1.there b hb
    rw [z, hD] at hu; cases hu
  have sameD : ∀ (vv : List V), Same S1 (upd H1 D (.lst vv)) := fun vv b o hb => by rw [upd_ne (ne_of_none hb hSD)]; exact ok1.sub b o hb
  -- the start: D is new
  have okw' : StOk K S1 (upd H1 D (.lst [])) (ancL anc x.lk w) (wipeE ρ1 vs) (wipe σ vs) fw := by
    obtain ⟨f, r, p⟩ := okw.rep
    exact ⟨sameD _, ⟨f, r.keep (Same.refl S1) fun a ha => ⟨upd_ne (nfp1 a (subw a (p.mem_iff.mpr ha))), (r.there a ha).2⟩, p⟩, okw.nd, okw.pa⟩
  have lockW : lockAt x.lk (wipeE ρ1 vs) := by
    cases hx : x.lk with
    | none => trivial
    | some p =>
      obtain ⟨i, b⟩ := p
      rw [hx] at hL
      have hL' : ρ1[i]? = some (some (.lk b.o)) := hL
      show (wipeE ρ1 vs)[i]? = _
      rw [wipeE_out (compOk_out h2 hL' rfl)]
      exact hL'
  have aD : Aft fp1 S1 H1 (D :: fw) S1 (upd H1 D (.lst [])) := ⟨Same.refl S1, fun b o hb _ => by rw [upd_ne (ne_of_none hb hD)]; exact hb, fun b hb => .inl hb, fun b hb => by
    rcases List.mem_cons.mp hb with rfl | hb
    · exact .inr hD
    · exact .inl (subw b hb)⟩
  refine ⟨fun i m H' => m = x.ds.length - i ∧ i ≤ x.ds.length ∧ ∃ ρi Si fi os accv f, StOk K Si H' (ancL anc x.lk w) ρi (wipe σ vs) fi ∧ H' D = some (.lst accv) ∧ Si D = none ∧ RepOs K Si H' os accv f ∧ ((D :: f) ++ fi).Nodup ∧
      Aft fp1 S1 H1 ((D :: f) ++ fi) Si H' ∧ os.length ≤ i ∧ lockAt x.lk ρi ∧ (∀ v ∈ vs, ρi[v]? = none ∨ ρi[v]? = some none) ∧ ∃ os2, compF vs g c e (x.ds.drop i) ρi = some (os2, ρf) ∧ os ++ os2 = osf,
    ⟨_, rfl, Nat.zero_le _, wipeE ρ1 vs, S1, fw, [], [], [], okw', upd_same, hSD, .nil, ?_, aD, Nat.le_refl _, lockW, fun v hv => wipeE_in hv, osf, by simpa using h4, rfl⟩, fun i m Hi hW => ?_⟩
  · refine List.nodup_cons.mpr ⟨fun hb => nfp1 D (subw D hb) rfl, okw.nd⟩
  obtain ⟨rfl, hile, ρi, Si, fi, os, accv, f, oki, hDi, hSDi, ro, ndi, ai, hlen, hLi, hwi, os2, hrun, hsum⟩ := hW
  obtain ⟨j1, j2⟩ := hJ i Si Hi ρi _ fi oki ai.sub hLi
  have thD : ∀ a ∈ D :: f, (∃ u, Hi a = some u) ∧ Si a = none := fun a ha => by
    rcases List.mem_cons.mp ha with rfl | ha
    · exact ⟨⟨_, hDi⟩, hSDi⟩
    · exact ro.there a ha
  by_cases hlt : i < x.ds.length
  · have hd : x.ds[i]? = some x.ds[i] := List.getElem?_eq_getElem hlt
    have hdr : x.ds.drop i = x.ds[i] :: x.ds.drop (i + 1) := List.drop_eq_getElem_cons hlt
    rw [hdr] at hrun
    simp only [compF, Option.bind_eq_some_iff] at hrun
    obtain ⟨ρ2, e1, ⟨k, ρ3⟩, e2, e3⟩ := hrun
    obtain ⟨go, yl⟩ := j2 _ hd
    -- what a turn is to reach
    refine .inr ⟨go, fun H' => ∃ ρi Si fi os accv f, StOk K Si H' (ancL anc x.lk w) ρi (wipe σ vs) fi ∧ H' D = some (.lst accv) ∧ Si D = none ∧ RepOs K Si H' os accv f ∧ ((D :: f) ++ fi).Nodup ∧
      Aft fp1 S1 H1 ((D :: f) ++ fi) Si H' ∧ os.length ≤ i + 1 ∧ lockAt x.lk ρi ∧ (∀ v ∈ vs, ρi[v]? = none ∨ ρi[v]? = some none) ∧ ∃ os2, compF vs g c e (x.ds.drop (i + 1)) ρi = some (os2, ρf) ∧ os ++ os2 = osf, fun H' hn => ⟨x.ds.length - (i + 1), by omega, rfl, hlt, hn⟩, fun v Hy hy => ?_⟩
    obtain ⟨Sy, sy, ry, ay⟩ := yl v Hy hy
    have oky : StOk K Sy Hy (ancL anc x.lk w) ρi (wipe σ vs) fi := oki.along ay sy fun _ _ => by simp
    have fr : ∀ b ∈ D :: f, Hy b = Hi b ∧ Sy b = none := ay.frame (fun _ _ => by simp) thD
    refine hg _ ρi _ ρ2 e1 v _ Sy Hy fi [] oky (.sh ry) (by simpa using oky.nd) _ fun σ2 fp2 ok2 sub2 eq2 len2 => ⟨wipe_eq ht eq2 len2, ?_⟩
    have sub2' : ∀ b ∈ fp2, b ∈ fi := fun b hb => by simpa using sub2 b hb
    refine hc _ ρ2 k ρ3 e2 σ2 Sy Hy fp2 ok2 _ fun S3 H3 fp3 ok3 a3 => ?_
    have weq : wipe σ2 vs = wipe σ vs := wipe_eq ht eq2 len2
    -- D and what it holds, behind the test
    have dis2 : ∀ b ∈ D :: f, b ∉ fp2 := fun b hb z => nd_apart' ndi b hb (sub2' b z)
    have thy : ∀ a ∈ D :: f, (∃ u, Hy a = some u) ∧ Sy a = none := fun a ha => by
      obtain ⟨⟨u, hu⟩, _⟩ := thD a ha
      exact ⟨⟨u, (fr a ha).1.trans hu⟩, (fr a ha).2⟩
    have fr3 := a3.frame dis2 thy
    have ap3 := a3.apart dis2 thy
    have roy : RepOs K Sy Hy os accv f := ro.keep ay.sub fun a ha => fr a (List.mem_cons_of_mem _ ha)
    have ro3 : RepOs K S3 H3 os accv f := roy.keep a3.sub fun a ha => fr3 a (List.mem_cons_of_mem _ ha)
    have hD3 : H3 D = some (.lst accv) := (fr3 D List.mem_cons_self).1.trans ((fr D List.mem_cons_self).1.trans hDi)
    have nd0 := (List.nodup_append.mp ndi).1
    -- the step from fp1 up to here
    have big3 : Aft fp1 S1 H1 ((D :: f) ++ fp3) S3 H3 := by
      have s1 : Aft fp1 S1 H1 ((D :: f) ++ fi) Sy Hy := ai.trans (ay.wide (by simp) fun b hb => .inr hb)
      have s2 : Aft ((D :: f) ++ fi) Sy Hy ((D :: f) ++ fp3) S3 H3 := a3.wide (fun b hb => List.mem_append_right _ (sub2' b hb)) fun b hb => (List.mem_append.mp hb).elim (fun z => .inr (List.mem_append_left _ z)) .inl
      exact s1.trans s2
    have lk3 : lockAt x.lk ρ3 := lockAt_kp (lockAt_kp hLi fun i b hb hf => kg _ _ _ e1 i b hb hf) fun i b hb hf => kc _ _ _ e2 i b hb hf
    have lkw : ∀ {ρx : Ev}, lockAt x.lk ρx → lockAt x.lk (wipeE ρx vs) := fun {ρx} hx => by
      cases hxl : x.lk with
      | none => trivial
      | some p =>
        obtain ⟨j, b⟩ := p
        rw [hxl] at hx hL
        have hL' : ρ1[j]? = some (some (.lk b.o)) := hL
        show (wipeE ρx vs)[j]? = _
        rw [wipeE_out (compOk_out h2 hL' rfl)]
        exact hx
    cases k with
    | false =>
      show ∃ ρi Si fi os accv f, _
      obtain ⟨fw3, subw3, okw3⟩ := ok3.wiped vs
      rw [weq] at okw3
      refine ⟨wipeE ρ3 vs, S3, fw3, os, accv, f, okw3, hD3, (fr3 D List.mem_cons_self).2, ro3, ?_, big3.wide (fun _ h => h) fun b hb => .inl ?_, by omega, lkw lk3, fun v hv => wipeE_in hv, os2, e3, hsum⟩
      · exact List.nodup_append.mpr ⟨nd0, okw3.nd, fun a ha b hb z => ap3 a ha (subw3 a (z ▸ hb))⟩
      · exact (List.mem_append.mp hb).elim (List.mem_append_left _) fun z => List.mem_append_right _ (subw3 b z)
    | true =>
      show te σ2 H3 _
      simp only [if_true, Option.bind_eq_some_iff, Option.map_eq_some_iff] at e3
      obtain ⟨⟨oe, ρ4⟩, e4, ⟨os3, ρ5⟩, e5, e6⟩ := e3
      cases e6
      refine he _ ρ3 oe ρ4 e4 σ2 S3 H3 fp3 ok3 _ fun y S4 H4 fo fp4 ok4 r4 nd4 a4 => ?_
      have th3 : ∀ a ∈ D :: f, (∃ u, H3 a = some u) ∧ S3 a = none := fun a ha => by
        obtain ⟨⟨u, hu⟩, _⟩ := thy a ha
        exact ⟨⟨u, (fr3 a ha).1.trans hu⟩, (fr3 a ha).2⟩
      have fr4 := a4.frame ap3 th3
      have ap4 := a4.apart ap3 th3
      have ro4 : RepOs K S4 H4 os accv f := ro3.keep a4.sub fun a ha => fr4 a (List.mem_cons_of_mem _ ha)
      have hD4 : H4 D = some (.lst accv) := (fr4 D List.mem_cons_self).1.trans hD3
      have hSD4 : S4 D = none := (fr4 D List.mem_cons_self).2
      refine ⟨accv, hD4, ?_, ?_⟩
      · rw [← ro.length, sizeLine_eq]; omega
      have nf : D ∉ f := (List.nodup_cons.mp nd0).1
      have nfo : D ∉ fo := fun z => ap4 D List.mem_cons_self (List.mem_append_left _ z)
      have nfp4 : D ∉ fp4 := fun z => ap4 D List.mem_cons_self (List.mem_append_right _ z)
      obtain ⟨fw4, subw4, okw4⟩ := ok4.wiped vs
      rw [weq] at okw4
      have up : ∀ (b : Addr), b ≠ D → (upd H4 D (.lst (accv ++ [y]))) b = H4 b := fun b hb => upd_ne hb
      have hs4 : Same S4 (upd H4 D (.lst (accv ++ [y]))) := fun b o hb => by rw [upd_ne (ne_of_none hb hSD4)]; exact ok4.sub b o hb
      refine ⟨wipeE ρ4 vs, S4, fw4, os ++ [oe], accv ++ [y], f ++ fo, ?_, upd_same, hSD4, ?_, ?_, ?_, ?_, lkw (lockAt_kp lk3 fun i b hb hf => ke _ _ _ e4 i b hb hf), fun v hv => wipeE_in hv, os3, e5, by rw [List.append_assoc]; exact hsum⟩
      · obtain ⟨f', r, p⟩ := okw4.rep
        exact ⟨hs4, ⟨f', r.keep (Same.refl S4) fun a ha => ⟨up a fun z => nfp4 (subw4 D (p.mem_iff.mpr (z ▸ ha))), (r.there a ha).2⟩, p⟩, okw4.nd, okw4.pa⟩
      · have r1 : RepOs K S4 (upd H4 D (.lst (accv ++ [y]))) os accv f := ro4.keep (Same.refl S4) fun a ha => ⟨up a fun z => nf (z ▸ ha), (ro4.there a ha).2⟩
        have r2 : RepO K S4 (upd H4 D (.lst (accv ++ [y]))) oe y fo := r4.keep (Same.refl S4) fun a ha => ⟨up a fun z => nfo (z ▸ ha), (r4.there a ha).2⟩
        have := r1.append (.cons r2 .nil)
        simpa using this
      · refine List.nodup_append.mpr ⟨List.nodup_cons.mpr ⟨fun z => (List.mem_append.mp z).elim nf nfo, List.nodup_append.mpr ⟨(List.nodup_cons.mp nd0).2, (List.nodup_append.mp nd4).1, fun a ha b hb z => ap4 a (List.mem_cons_of_mem _ ha) (List.mem_append_left _ (z ▸ hb))⟩⟩, okw4.nd, fun a ha b hb z => ?_⟩
        subst z
        rcases List.mem_cons.mp ha with rfl | ha
        · exact nfp4 (subw4 a hb)
        · rcases List.mem_append.mp ha with ha | ha
          · exact ap4 a (List.mem_cons_of_mem _ ha) (List.mem_append_right _ (subw4 a hb))
          · exact nd_apart' nd4 a ha (subw4 a hb)
      · have s4 : Aft fp1 S1 H1 ((D :: f) ++ (fo ++ fp4)) S4 H4 := big3.trans (a4.wide (fun b hb => List.mem_append_right _ hb) fun b hb => (List.mem_append.mp hb).elim (fun z => .inr (List.mem_append_left _ z)) .inl)
        have s5 : Aft ((D :: f) ++ (fo ++ fp4)) S4 H4 ((D :: (f ++ fo)) ++ fw4) S4 (upd H4 D (.lst (accv ++ [y]))) := ⟨Same.refl S4, fun b o hb hn => by
            rw [up b fun z => hn (by simp [z])]; exact hb, fun b hb => .inl hb, fun b hb => .inl (by
            rcases List.mem_append.mp hb with hb | hb
            · rcases List.mem_cons.mp hb with rfl | hb
              · simp
              · rcases List.mem_append.mp hb with hb | hb <;> simp [hb]
            · simp [subw4 b hb])⟩
        exact s4.trans s5
      · rw [List.length_append, List.length_singleton]; omega
  · have hn : x.ds.length ≤ i := Nat.le_of_not_lt hlt
    rw [List.drop_of_length_le hn] at hrun
    cases hrun
    rw [List.append_nil] at hsum
    subst hsum
    refine .inl ⟨j1 hn, ?_⟩
    -- the whole state again
    have okσ : StOk K Si Hi (ancL anc x.lk w) ρf σ fi := oki.other (by rw [L2.wipe_length]) fun j b hb => by
      by_cases hj : j ∈ vs
      · rcases hwi j hj with z | z <;> rw [z] at hb <;> cases hb
      · rw [L2.wipe_out hj]
    have okU : StOk K Si Hi (ancL anc x.lk w) (unwipe ρ1 vs ρf) σ fi := StOk.unwiped (anc' := anc) (S0 := S) (fp0 := fp) (fun j d hj => by
      obtain ⟨v, f', g', e1, e2, e3, e4⟩ := ok1.take hj
      have e3' : RepO K S1 H1 (.sh d) v f' := e3
      cases e3' with
      | sh r => exact ⟨v, e2, r.mono ai.sub⟩) okσ hwi ndv
    have lkU : lockAt x.lk (unwipe ρ1 vs ρf) := by
      cases hxl : x.lk with
      | none => trivial
      | some p =>
        obtain ⟨j, b⟩ := p
        rw [hxl] at hLi hL
        have hL' : ρ1[j]? = some (some (.lk b.o)) := hL
        show (unwipe ρ1 vs ρf)[j]? = _
        rw [unwipe_out (compOk_out h2 hL' rfl)]
        exact hLi
    exact q (.ref D) Si Hi (D :: f) fi (unlock_ok okU lkU hA) (.ol hDi hSDi ro) ndi (a1.trans ai)
end PL

namespace PL
open PySem PySem.Spec PyProof.Rows L2
variable {K : Frag} {S S' S1 S2 H H' H1 H2 : Hp}

/-! ### an owned list in a slot, changed -/
theorem StOk.own {anc : Nat → Option V} {ρ : Ev} {σ : L2.St} {fp : List Addr} {i : Nat} {b : Bd} {os : List O} (ok : StOk K S H anc ρ σ fp) (hb : ρ[i]? = some (some b)) (ho : b.o = .ol os) :
    ∃ a vs f g, σ[i]? = some (some (.ref a)) ∧ H a = some (.lst vs) ∧ S a = none ∧ RepOs K S H os vs f ∧ fp.Perm ((a :: f) ++ g) ∧ StOk K S H anc (ρ.set i none) σ g := by
  obtain ⟨v, fi, g, e1, e2, e3, e4⟩ := ok.take hb
  rw [ho] at e3
  cases e3 with
  | ol h1 h2 h3 => exact ⟨_, _, _, g, e2, h1, h2, h3, e1, e4⟩
theorem StOk.write {anc : Nat → Option V} {ρ : Ev} {σ : L2.St} {fp fo f f' g : List Addr} {i : Nat} {b : Bd} {os' : List O} {a : Addr} {vs vs' : List V} (ok : StOk K S H anc ρ σ fp) (hb : ρ[i]? = some (some b))
    (hσ : σ[i]? = some (some (.ref a))) (hH : H a = some (.lst vs)) (hS : S a = none) (hp : fp.Perm ((a :: f) ++ g)) (hg : StOk K S H anc (ρ.set i none) σ g) (nd : (fo ++ fp).Nodup)
    (r : RepOs K S H os' vs' f') (hf : ∀ x ∈ f', x ∈ f ∨ x ∈ fo) (ndf : f'.Nodup) :
    StOk K S (upd H a (.lst vs')) anc (ρ.set i (some (b.put (.ol os')))) σ ((a :: f') ++ g) ∧ Aft (fo ++ fp) S H ((a :: f') ++ g) S (upd H a (.lst vs')) := by
  have ndp := hp.nodup_iff.mp ok.nd
  have haf : a ∉ f := fun z => (List.nodup_cons.mp (List.nodup_append.mp ndp).1).1 z
  have hag : a ∉ g := fun z => nd_apart' ndp a List.mem_cons_self z
  have hafp : a ∈ fp := hp.mem_iff.mpr (by simp)
  have hafo : a ∉ fo := fun z => nd_apart' nd a z hafp
  have haf' : a ∉ f' := fun z => (hf a z).elim haf hafo
  have hl : i < ρ.length := (List.getElem?_eq_some_iff.mp hb).1
  have up : ∀ x, x ≠ a → (upd H a (.lst vs')) x = H x := fun x hx => upd_ne hx
  have hs : Same S (upd H a (.lst vs')) := fun x o hx => by rw [upd_ne (ne_of_none hx hS)]; exact ok.sub x o hx
  have okg : StOk K S (upd H a (.lst vs')) anc (ρ.set i none) σ g := by
    obtain ⟨f0, r0, p0⟩ := hg.rep
    exact ⟨hs, ⟨f0, r0.keep (Same.refl S) fun x hx => ⟨up x fun z => hag (p0.mem_iff.mpr (z ▸ hx)), (r0.there x hx).2⟩, p0⟩, hg.nd, hg.pa⟩
  have r' : RepOs K S (upd H a (.lst vs')) os' vs' f' := r.keep (Same.refl S) fun x hx => ⟨up x fun z => haf' (z ▸ hx), (r.there x hx).2⟩
  have nd' : ((a :: f') ++ g).Nodup := by
    refine List.nodup_append.mpr ⟨List.nodup_cons.mpr ⟨haf', ndf⟩, hg.nd, fun x hx y hy z => ?_⟩
    subst z
    rcases List.mem_cons.mp hx with rfl | hx
    · exact hag hy
    · rcases hf x hx with h | h
      · exact nd_apart' ndp x (List.mem_cons_of_mem _ h) hy
      · exact nd_apart' nd x h (hp.mem_iff.mpr (List.mem_append_right _ hy))
  have ok2 := okg.put (b := b.put (.ol os')) (v := .ref a) (by rw [List.getElem?_set_self hl]) (by rw [Bd.put_o]; exact .ol upd_same hS r') nd' (fun hb' => by
    rw [Bd.put_anch] at hb'
    obtain ⟨u, h1, h2⟩ := ok.pa i b hb hb'
    rw [hσ] at h1; cases h1
    exact h2)
  rw [set_none_some, set_self hσ] at ok2
  refine ⟨ok2, Same.refl S, fun x o hx hn => ?_, fun x hx => .inl hx, fun x hx => .inl ?_⟩
  · rw [up x fun z => hn (List.mem_append_right _ (z ▸ hafp))]; exact hx
  · rcases List.mem_append.mp hx with hx | hx
    · rcases List.mem_cons.mp hx with rfl | hx
      · exact List.mem_append_right _ hafp
      · rcases hf x hx with h | h
        · exact List.mem_append_right _ (hp.mem_iff.mpr (by simp [h]))
        · exact List.mem_append_left _ h
    · exact List.mem_append_right _ (hp.mem_iff.mpr (by simp [hx]))
/-- the owned list in a slot, if it may be changed -/
def mutAt (i : Nat) (ρ : Ev) : Option (Bd × List O) := match ρ[i]? with
  | some (some b) => if b.fixed then none else match b.o with
    | .ol os => some (b, os)
    | _ => none
  | _ => none
theorem mutAt_some {i : Nat} {ρ : Ev} {b : Bd} {os : List O} (h : mutAt i ρ = some (b, os)) : ρ[i]? = some (some b) ∧ b.fixed = false ∧ b.o = .ol os := by
  unfold mutAt at h
  split at h
  · rename_i b' hb
    split at h
    · cases h
    · rename_i hf
      split at h
      · rename_i os' ho
        cases h
        exact ⟨hb, by simpa using hf, ho⟩
      · cases h
  · cases h
theorem kp_put {ρ : Ev} {i : Nat} {b c : Bd} (hb : ρ[i]? = some (some b)) (hf : b.fixed = false) (j : Nat) (d : Bd) (hd : ρ[j]? = some (some d)) (hfd : d.fixed = true) : (ρ.set i (some c))[j]? = some (some d) := by
  by_cases z : i = j
  · subst z
    rw [hb] at hd; cases hd
    rw [hf] at hfd; cases hfd
  · rw [List.getElem?_set_ne z]; exact hd

/-! ### x.append(e) -/
def sApp (i : Nat) (f : XF) : XF := fun ρ => (mutAt i ρ).bind fun _ => (f ρ).bind fun x => (mutAt i x.2).bind fun y => if y.2.length < 16777216 then some (.sh .none, x.2.set i (some (y.1.put (.ol (y.2 ++ [x.1]))))) else none
theorem sApp_some {i : Nat} {f : XF} {ρ ρ' : Ev} {o : O} (h : sApp i f ρ = some (o, ρ')) : ∃ p o1 ρ1 b os, mutAt i ρ = some p ∧ f ρ = some (o1, ρ1) ∧ mutAt i ρ1 = some (b, os) ∧ os.length < 16777216 ∧ o = .sh .none ∧ ρ' = ρ1.set i (some (b.put (.ol (os ++ [o1])))) := by
  unfold sApp at h
  simp only [Option.bind_eq_some_iff] at h
  obtain ⟨p, h1, ⟨o1, ρ1⟩, h2, ⟨b, os⟩, h3, h4⟩ := h
  split at h4
  · rename_i hl
    cases h4
    exact ⟨p, o1, ρ1, b, os, h1, h2, h3, hl, rfl, rfl⟩
  · cases h4
theorem snd_app {i : Nat} {te : TE} {f : XF} (hf : Snd K te f) : Snd K (tBM K "list" rAppend (tVar i) (tCons te tNil)) (sApp i f) := fun anc ρ o ρ' h σ S H fp ok Q q => by
  obtain ⟨⟨b0, os0⟩, o1, ρ1, b, os, h1, h2, h3, hl, rfl, rfl⟩ := sApp_some h
  obtain ⟨hb0, _, ho0⟩ := mutAt_some h1
  obtain ⟨a0, vs0, f0, g0, s1, s2, _⟩ := ok.own hb0 ho0
  refine ⟨.ref a0, s1, .inl ⟨rfl, _, .inl (.inl s2)⟩, ?_⟩
  refine hf anc ρ o1 ρ1 h2 σ S H fp ok _ fun v S1 H1 fo fp1 ok1 r1 nd1 a1 => ?_
  obtain ⟨hb, hfx, ho⟩ := mutAt_some h3
  obtain ⟨a, vs, f1, g, t1, t2, t3, t4, t5, t6⟩ := ok1.own hb ho
  have ea : a = a0 := by rw [s1] at t1; cases t1; rfl
  subst ea
  have ndf : (f1 ++ fo).Nodup := by
    have n1 := (List.nodup_append.mp (t5.nodup_iff.mp ok1.nd)).1
    refine List.nodup_append.mpr ⟨(List.nodup_cons.mp n1).2, (List.nodup_append.mp nd1).1, fun x hx y hy z => ?_⟩
    subst z
    exact nd_apart' nd1 x hy (t5.mem_iff.mpr (by simp [hx]))
  have rr : RepOs K S1 H1 (os ++ [o1]) (vs ++ [v]) (f1 ++ fo) := by
    have := t4.append (.cons r1 .nil)
    simpa using this
  obtain ⟨w1, w2⟩ := ok1.write hb t1 t2 t3 t5 t6 nd1 rr (fun x hx => List.mem_append.mp hx) ndf
  refine ⟨a, vs, v, rfl, rfl, t2, by rw [← t4.length, sizeLine_eq]; exact hl, q .non S1 _ [] _ w1 (.sh .non) (by simpa using w1.nd) ?_⟩
  rw [List.nil_append]
  exact a1.trans w2
theorem Kp.app {i : Nat} {f : XF} (k : Kp f) : Kp (sApp i f) := fun ρ o ρ' h j c hc hfc => by
  obtain ⟨p, o1, ρ1, b, os, h1, h2, h3, hl, rfl, rfl⟩ := sApp_some h
  obtain ⟨hb, hfx, ho⟩ := mutAt_some h3
  exact kp_put hb hfx j c (k _ _ _ h2 j c hc hfc) hfc

/-! ### the other methods: operands in, data out -/
def MtOk (K : Frag) (r : V → List V → Hp → VK → Prop) (u : List O → List O → Option (D × List O)) : Prop := ∀ (os args : List O) (d : D) (os' : List O), u os args = some (d, os') → ∀ (a : Addr) (vs avs : List V) (S H : Hp) (f : List Addr), Same S H → H a = some (.lst vs) → RepOs K S H os vs f → Views K S H args avs →
  ∃ vs' f', RepOs K S H os' vs' f' ∧ (∀ x ∈ f', x ∈ f) ∧ (f.Nodup → f'.Nodup) ∧ ∀ Q : VK, (∀ v, Rep K S d v → Q v (upd H a (.lst vs'))) → r (.ref a) avs H Q
def sMt (i : Nat) (u : List O → List O → Option (D × List O)) (f : XA) : XF := fun ρ => (mutAt i ρ).bind fun _ => (f ρ).bind fun x => (opds x.2 x.1).bind fun args => (mutAt i x.2).bind fun y => (u y.2 args).map fun z => (.sh z.1, x.2.set i (some (y.1.put (.ol z.2))))
theorem sMt_some {i : Nat} {u : List O → List O → Option (D × List O)} {f : XA} {ρ ρ' : Ev} {o : O} (h : sMt i u f ρ = some (o, ρ')) : ∃ p ps ρ1 args b os d os', mutAt i ρ = some p ∧ f ρ = some (ps, ρ1) ∧ opds ρ1 ps = some args ∧ mutAt i ρ1 = some (b, os) ∧ u os args = some (d, os') ∧ o = .sh d ∧ ρ' = ρ1.set i (some (b.put (.ol os'))) := by
  unfold sMt at h
  simp only [Option.bind_eq_some_iff, Option.map_eq_some_iff] at h
  obtain ⟨p, h1, ⟨ps, ρ1⟩, h2, args, h3, ⟨b, os⟩, h4, ⟨d, os'⟩, h5, h6⟩ := h
  cases h6
  exact ⟨p, ps, ρ1, args, b, os, d, os', h1, h2, h3, h4, h5, rfl, rfl⟩
theorem snd_mt_core {i : Nat} {r : V → List V → Hp → VK → Prop} {u : List O → List O → Option (D × List O)} (hu : MtOk K r u) {anc : Nat → Option V} {ρ1 : Ev} {ps : List Opd} {args : List O} {b : Bd} {os os' : List O} {d : D} (h3 : opds ρ1 ps = some args) (h4 : mutAt i ρ1 = some (b, os)) (h5 : u os args = some (d, os'))
    {σ : L2.St} {fp fp1 : List Addr} {Q : VK} {avs : List V} {a0 : Addr} (s1 : σ[i]? = some (some (.ref a0)))
    (q : ∀ (v : V) (S' H' : Hp) (fo fp' : List Addr), StOk K S' H' anc (ρ1.set i (some (b.put (.ol os')))) σ fp' → RepO K S' H' (.sh d) v fo → (fo ++ fp').Nodup → Aft fp S H (fo ++ fp') S' H' → Q v H')
    (ok1 : StOk K S1 H1 anc ρ1 σ fp1) (r1 : Paired (OpdR K S1 σ) ps avs) (a1 : Aft fp S H fp1 S1 H1) : r (.ref a0) avs H1 Q := by
  obtain ⟨hb, hfx, ho⟩ := mutAt_some h4
  obtain ⟨a, vs, f1, g, t1, t2, t3, t4, t5, t6⟩ := ok1.own hb ho
  have ea : a = a0 := by rw [s1] at t1; cases t1; rfl
  subst ea
  obtain ⟨vs', f', w1, w2, w3, w4⟩ := hu os args d os' h5 a vs avs S1 H1 f1 ok1.sub t2 t4 (opds_view ok1 r1 h3)
  have n1 := (List.nodup_append.mp (t5.nodup_iff.mp ok1.nd)).1
  obtain ⟨x1, x2⟩ := ok1.write (fo := []) hb t1 t2 t3 t5 t6 (by simpa using ok1.nd) w1 (fun x hx => .inl (w2 x hx)) (w3 (List.nodup_cons.mp n1).2)
  refine w4 Q fun v hv => q v S1 _ [] _ x1 (.sh hv) (by simpa using x1.nd) ?_
  rw [List.nil_append] at x2 ⊢
  exact a1.trans x2
theorem snd_mt {i : Nat} {ta : TA} {f : XA} {r : V → List V → Hp → VK → Prop} {u : List O → List O → Option (D × List O)} (ha : SndA K ta f) (hu : MtOk K r u) : Snd K (tBM K "list" r (tVar i) ta) (sMt i u f) := fun anc ρ o ρ' h σ S H fp ok Q q => by
  obtain ⟨⟨b0, os0⟩, ps, ρ1, args, b, os, d, os', h1, h2, h3, h4, h5, rfl, rfl⟩ := sMt_some h
  obtain ⟨hb0, _, ho0⟩ := mutAt_some h1
  obtain ⟨a0, vs0, f0, g0, s1, s2, _⟩ := ok.own hb0 ho0
  refine ⟨.ref a0, s1, .inl ⟨rfl, _, .inl (.inl s2)⟩, ?_⟩
  exact ha anc ρ ps ρ1 h2 σ S H fp ok _ fun avs S1 H1 fp1 ok1 r1 a1 => snd_mt_core hu h3 h4 h5 s1 q ok1 r1 a1
theorem snd_mt0 {i : Nat} {r : V → List V → Hp → VK → Prop} {u : List O → List O → Option (D × List O)} (hu : MtOk K r u) : Snd K (tBM0 K "list" r (tVar i)) (sMt i u aNil) := fun anc ρ o ρ' h σ S H fp ok Q q => by
  obtain ⟨⟨b0, os0⟩, ps, ρ1, args, b, os, d, os', h1, h2, h3, h4, h5, rfl, rfl⟩ := sMt_some h
  cases h2
  obtain ⟨hb0, _, ho0⟩ := mutAt_some h1
  obtain ⟨a0, vs0, f0, g0, s1, s2, _⟩ := ok.own hb0 ho0
  refine ⟨.ref a0, s1, .inl ⟨rfl, _, .inl (.inl s2)⟩, ?_⟩
  exact snd_mt_core hu h3 h4 h5 s1 q ok .nil (Aft.refl fun _ h => h)
theorem Kp.mt {i : Nat} {u : List O → List O → Option (D × List O)} {f : XA} (k : Kp f) : Kp (sMt i u f) := fun ρ o ρ' h j c hc hfc => by
  obtain ⟨p, ps, ρ1, args, b, os, d, os', h1, h2, h3, h4, h5, rfl, rfl⟩ := sMt_some h
  obtain ⟨hb, hfx, ho⟩ := mutAt_some h4
  exact kp_put hb hfx j c (k _ _ _ h2 j c hc hfc) hfc
/-! elements, by place -/
theorem RepOs.getSh : ∀ {os : List O} {vs : List V} {f : List Addr} {k : Nat} {d : D}, RepOs K S H os vs f → os[k]? = some (.sh d) → ∃ v, vs[k]? = some v ∧ Rep K S d v
  | _, _, _, _, _, .nil, e => by simp at e
  | _, _, _, 0, d, .cons h r, e => by
    simp at e; subst e
    cases h with
    | sh h => exact ⟨_, rfl, h⟩
  | _, _, _, k + 1, d, .cons h r, e => by
    obtain ⟨v, h1, h2⟩ := RepOs.getSh (k := k) r (by simpa using e)
    exact ⟨v, by simpa using h1, h2⟩
theorem RepOs.erase : ∀ {os : List O} {vs : List V} {f : List Addr} (k : Nat), RepOs K S H os vs f → ∃ f', RepOs K S H (os.eraseIdx k) (vs.eraseIdx k) f' ∧ f'.Sublist f
  | _, _, _, _, .nil => ⟨[], .nil, List.Sublist.refl _⟩
  | _, _, _, 0, .cons (f := f) (g := g) h r => ⟨g, r, List.sublist_append_right f g⟩
  | _, _, _, k + 1, .cons (f := f) (g := g) h r => by
    obtain ⟨f', h1, h2⟩ := RepOs.erase k r
    exact ⟨f ++ f', .cons h h1, List.Sublist.append (List.Sublist.refl f) h2⟩
theorem RepOs.setO {o : O} {v : V} {fo : List Addr} (ho : RepO K S H o v fo) : ∀ {os : List O} {vs : List V} {f : List Addr} (k : Nat), RepOs K S H os vs f → (fo ++ f).Nodup → ∃ f', RepOs K S H (os.set k o) (vs.set k v) f' ∧ (∀ x ∈ f', x ∈ f ∨ x ∈ fo) ∧ f'.Nodup
  | _, _, _, _, .nil, nd => ⟨[], .nil, fun x hx => by simp at hx, .nil⟩
  | _, _, _, 0, .cons (f := f) (g := g) h r, nd => by
    refine ⟨fo ++ g, .cons ho r, fun x hx => (List.mem_append.mp hx).elim .inr fun z => .inl (List.mem_append_right _ z), ?_⟩
    rw [List.nodup_append] at nd ⊢
    exact ⟨nd.1, (List.nodup_append.mp nd.2.1).2.1, fun x hx y hy => nd.2.2 x hx y (List.mem_append_right _ hy)⟩
  | _, _, _, k + 1, .cons (f := f) (g := g) h r, nd => by
    have nd' := List.nodup_append.mp nd
    have ndg := List.nodup_append.mp nd'.2.1
    obtain ⟨f', h1, h2, h3⟩ := RepOs.setO ho k r (List.nodup_append.mpr ⟨nd'.1, ndg.2.1, fun x hx y hy => nd'.2.2 x hx y (List.mem_append_right _ hy)⟩)
    refine ⟨f ++ f', .cons h h1, fun x hx => ?_, List.nodup_append.mpr ⟨ndg.1, h3, fun x hx y hy z => ?_⟩⟩
    · rcases List.mem_append.mp hx with hx | hx
      · exact .inl (List.mem_append_left _ hx)
      · exact (h2 x hx).elim (fun z => .inl (List.mem_append_right _ z)) .inr
    · subst z
      rcases h2 x hy with hy | hy
      · exact ndg.2.2 x hx x hy rfl
      · exact nd'.2.2 x hy x (List.mem_append_left _ hx) rfl
theorem RepOs.reverse : ∀ {os : List O} {vs : List V} {f : List Addr}, RepOs K S H os vs f → ∃ f', RepOs K S H os.reverse vs.reverse f' ∧ f'.Perm f
  | _, _, _, .nil => ⟨[], .nil, .refl _⟩
  | _, _, _, .cons (f := f) (g := g) h r => by
    obtain ⟨f', h1, h2⟩ := RepOs.reverse r
    refine ⟨f' ++ f, ?_, (List.Perm.append_right f h2).trans List.perm_append_comm⟩
    simp only [List.reverse_cons]
    have := h1.append (.cons h .nil)
    simpa using this
/-- pop() -/
def uPop : List O → List O → Option (D × List O) := fun os args => match args, os[os.length - 1]? with
  | [], some (.sh d) => some (d, os.dropLast)
  | _, _ => none
theorem dropLast_erase {α : Type} (l : List α) : l.dropLast = l.eraseIdx (l.length - 1) := by
  rw [List.eraseIdx_eq_take_drop_succ]
  cases l with
  | nil => rfl
  | cons a r =>
    rw [List.dropLast_eq_take, List.drop_of_length_le (by simp), List.append_nil]
theorem mt_popO : MtOk K rPop uPop := fun os args d os' e a vs avs S H f hs hH r ra => by
  unfold uPop at e
  split at e
  · rename_i d' e1
    cases e
    obtain ⟨v, h1, h2⟩ := r.getSh e1
    obtain ⟨f', h3, h4⟩ := r.erase (os.length - 1)
    rw [← dropLast_erase] at h3
    have hl := r.length
    rw [hl, ← dropLast_erase] at h3
    refine ⟨vs.dropLast, f', h3, fun x hx => h4.subset hx, fun nd => nd.sublist h4, fun Q q => ?_⟩
    exact ⟨a, vs, v, rfl, views0 ra, hH, by rw [← hl]; exact h1, q v h2⟩
  · cases e
/-- pop(k) -/
def uPopAt : List O → List O → Option (D × List O) := fun os args => match args with
  | [.sh (.int i)] => match ixN os.length i with
    | some k => if os.length ≤ 16777216 then match os[k]? with
      | some (.sh d) => some (d, os.eraseIdx k)
      | _ => none
      else none
    | none => none
  | _ => none
theorem mt_popAtO : MtOk K rPopAt uPopAt := fun os args d os' e a vs avs S H f hs hH r ra => by
  unfold uPopAt at e
  split at e
  · rename_i i
    split at e
    · rename_i k e1
      split at e
      · rename_i hle
        split at e
        · rename_i d' e2
          cases e
          obtain ⟨v, h1, h2⟩ := r.getSh e2
          obtain ⟨f', h3, h4⟩ := r.erase k
          obtain ⟨w, fw, rfl, hw⟩ := views_one ra
          have hl := r.length
          refine ⟨vs.eraseIdx k, f', h3, fun x hx => h4.subset hx, fun nd => nd.sublist h4, fun Q q => ?_⟩
          obtain ⟨z1, z2, z3, z4⟩ := ixN_seq e1
          exact ⟨a, vs, i, k, v, rfl, by rw [int_view hw], hH, by omega, by omega, by rw [← hl]; exact z1, h1, q v h2⟩
        · cases e
      · cases e
    · cases e
  · cases e
/-- reverse() -/
def uReverse : List O → List O → Option (D × List O) := fun os args => match args with
  | [] => some (.none, os.reverse)
  | _ => none
theorem mt_reverseO : MtOk K rReverse uReverse := fun os args d os' e a vs avs S H f hs hH r ra => by
  unfold uReverse at e
  split at e
  · cases e
    obtain ⟨f', h1, h2⟩ := r.reverse
    exact ⟨vs.reverse, f', h1, fun x hx => h2.mem_iff.mp hx, fun nd => h2.nodup_iff.mpr nd, fun Q q => ⟨a, vs, rfl, views0 ra, hH, q .non .non⟩⟩
  · cases e
/-- extend(a list) -/
def rExtR (K : Frag) : V → List V → Hp → VK → Prop := fun x vs H Q => ∃ l b xs zs, x = .ref l ∧ vs = [.ref b] ∧ H l = some (.lst xs) ∧ SqL K H b zs ∧ xs.length + zs.length ≤ sizeLine ∧ Q .non (upd H l (.lst (xs ++ zs)))
theorem mt_extR {X : Cx} : MtM X "list.extend" (rExtR X.K) := by
  intro pins s σ H x vs v us Q I rx rv h
  obtain ⟨l, b, xs, zs, rfl, rfl, hH, hB, hz, q⟩ := h
  cases rx
  obtain ⟨u, rfl, ru⟩ := rv.one
  cases ru
  obtain ⟨z, its, n, r, hl, e⟩ := I.lstM hH
  obtain ⟨z2, its2, n2, sm, r2, hl2, e2⟩ := rdM I hB
  have hsz : its.toArray.size + its2.toArray.size ≤ sizeLine := by rw [List.size_toArray, List.size_toArray]; omega
  have hlong : ¬ (!its.toArray.isEmpty && Builtin.List.listTooLong (its.toArray.size + its2.toArray.size)) = true := by
    rw [notLongL hsz, Bool.and_false]
    exact Bool.false_ne_true
  refine call_meets F.slot_list_extend ⟨_, e, rfl⟩ F.entry_list_extend (F.args_list_extend_2 _ _)
    (plListExt l its.toArray n b its2.toArray n2 sm hlong (by rw [List.size_toArray]; omega) (by omega)) ⟨e, e2, ?_⟩
  refine ⟨.non, _, I.lset (its' := its ++ its2) hH e (by simp) (r.append r2) ?_, rfl, q⟩
  rw [List.length_append]
  omega
def uExt : List O → List O → Option (D × List O) := fun os args => match args with
  | [o] => match o.lst with
    | some ds => if os.length + ds.length ≤ 16777216 then some (.none, os ++ ds.map .sh) else none
    | none => none
  | _ => none
theorem mt_extO : MtOk K (rExtR K) uExt := fun os args d os' e a vs avs S H f hs hH r ra => by
  unfold uExt at e
  split at e
  · split at e
    · rename_i ds e1
      split at e
      · rename_i hl
        cases e
        obtain ⟨w, fw, rfl, hw⟩ := views_one ra
        obtain ⟨b, ws, rfl, h1, h2⟩ := O.lst_view e1 hw hs
        refine ⟨vs ++ ws, f, ?_, fun x hx => hx, fun nd => nd, fun Q q => ⟨a, b, vs, ws, rfl, rfl, hH, h1, by rw [← r.length, ← h2.length, sizeLine_eq]; exact hl, q .non .non⟩⟩
        have := r.append (RepOs.of_sh (H := H) h2)
        simpa using this
      · cases e
    · cases e
  · cases e

/-! ### x[k] = e -/
def xSet (i : Nat) (fi : XD) (f : XF) : XS := fun ρ => (f ρ).bind fun x => (mutAt i x.2).bind fun _ => match fi x.2 with
  | some (.int k, ρ2) => (mutAt i ρ2).bind fun y => (ixN y.2.length k).map fun j => .nx (ρ2.set i (some (y.1.put (.ol (y.2.set j x.1)))))
  | _ => none
theorem xSet_some {i : Nat} {fi : XD} {f : XF} {ρ : Ev} {r : Res} (h : xSet i fi f ρ = some r) : ∃ o ρ1 p k ρ2 b os j, f ρ = some (o, ρ1) ∧ mutAt i ρ1 = some p ∧ fi ρ1 = some (.int k, ρ2) ∧ mutAt i ρ2 = some (b, os) ∧ ixN os.length k = some j ∧ r = .nx (ρ2.set i (some (b.put (.ol (os.set j o))))) := by
  unfold xSet at h
  rw [Option.bind_eq_some_iff] at h
  obtain ⟨⟨o, ρ1⟩, h1, h2⟩ := h
  rw [Option.bind_eq_some_iff] at h2
  obtain ⟨p, h0, h2⟩ := h2
  split at h2
  · rename_i k ρ2 h3
    simp only [Option.bind_eq_some_iff, Option.map_eq_some_iff] at h2
    obtain ⟨⟨b, os⟩, h4, j, h5, rfl⟩ := h2
    exact ⟨o, ρ1, p, k, ρ2, b, os, j, h1, h0, h3, h4, h5, rfl⟩
  · cases h2
theorem snd_set {i : Nat} {te ti : TE} {fi : XD} {f : XF} (hf : Snd K te f) (hi : SndD K ti fi) : SndS K (tAsg te (gSub (tVar i) ti rSetL)) (xSet i fi f) := fun anc ρ r h σ S H fp ok De q => by
  obtain ⟨o, ρ1, ⟨b0, os0⟩, k, ρ2, b, os, j, h1, h0, h2, h3, h4, rfl⟩ := xSet_some h
  refine hf anc ρ o ρ1 h1 σ S H fp ok _ fun v S1 H1 fo fp1 ok1 r1 nd1 a1 => ?_
  obtain ⟨hb, hfx, ho⟩ := mutAt_some h3
  -- the slot holds the same list ahead of the index
  obtain ⟨hb0, _, ho0⟩ := mutAt_some h0
  obtain ⟨a0, vs0, f0, g0, hw, _⟩ := ok1.own hb0 ho0
  refine ⟨.ref a0, hw, ?_⟩
  refine hi anc ρ1 _ ρ2 h2 σ S1 H1 fp1 ok1 _ fun v' S2 H2 fp2 ok2 r2 a2 => ?_
  obtain ⟨a, vs, f1, g, t1, t2, t3, t4, t5, t6⟩ := ok2.own hb ho
  have ea : a = a0 := by rw [hw] at t1; cases t1; rfl
  subst ea
  have ro : RepO K S2 H2 o v fo := r1.along a2 fun b hb => nd_apart' nd1 b hb
  have nd2 : (fo ++ fp2).Nodup := List.nodup_append.mpr ⟨(List.nodup_append.mp nd1).1, ok2.nd, fun x hx y hy z => keep_part (fp2 := fp1) nd1 r1.there a2 x hx (z ▸ hy)⟩
  have n1 := List.nodup_append.mp (t5.nodup_iff.mp ok2.nd)
  have ndf : (fo ++ f1).Nodup := List.nodup_append.mpr ⟨(List.nodup_append.mp nd1).1, (List.nodup_cons.mp n1.1).2, fun x hx y hy z => nd_apart' nd2 x hx (t5.mem_iff.mpr (by simp [z, hy]))⟩
  obtain ⟨f', w1, w2, w3⟩ := RepOs.setO ro j t4 ndf
  obtain ⟨x1, x2⟩ := ok2.write hb t1 t2 t3 t5 t6 nd2 w1 w2 w3
  refine ⟨a, vs, k, j, rfl, r2.int_inv, t2, by rw [← t4.length]; exact h4, q σ S2 _ _ x1 ?_⟩
  have a3 : Aft (fo ++ fp1) S1 H1 (fo ++ fp2) S2 H2 := a2.wide (fun b hb => List.mem_append_right _ hb) fun b hb => (List.mem_append.mp hb).elim (fun z => .inr (List.mem_append_left _ z)) .inl
  exact (a1.trans a3).trans x2
theorem KpS.set {i : Nat} {fi : XD} {f : XF} (k : Kp f) (k' : Kp fi) : KpS (xSet i fi f) := fun ρ r h j c hc hf => by
  obtain ⟨o, ρ1, p, k1, ρ2, b, os, j1, h1, h0, h2, h3, h4, rfl⟩ := xSet_some h
  obtain ⟨hb, hfx, ho⟩ := mutAt_some h3
  exact kp_put hb hfx j c (k' _ _ _ h2 j c (k _ _ _ h1 j c hc hf) hf) hf
end PL

namespace PL
open PySem PySem.Spec PyProof.Rows L2
variable {K : Frag} {S S' S1 S2 H H' H1 H2 : Hp}

/-! ### what a def does: the arguments in, the result and the arguments behind it out -/
/-- how a parameter is taken: as data that others may hold; read alone; changed -/
inductive Md where
  | sh | br | io
  deriving DecidableEq
structure FS where
  ms : List Md
  f : List O → Option (O × List O)
  /-- what is only read goes back as it was -/
  ok : ∀ (os : List O) (r : O) (fins : List O), f os = some (r, fins) → fins.length = os.length ∧ ∀ k : Nat, ms[k]? ≠ some Md.io → fins[k]? = os[k]?
/-- the promise of a def that does F -/
def spF (K : Frag) (F : FS) : Sp := fun vs H Q _ => ∃ (S : Hp) (os : List O) (fp : List Addr) (r : O) (fins : List O), Same S H ∧ RepOs K S H os vs fp ∧ fp.Nodup ∧ os.length = F.ms.length ∧ F.f os = some (r, fins) ∧
  ∀ (v : V) (S' H' : Hp) (fo fp' : List Addr), Same S' H' → RepO K S' H' r v fo → RepOs K S' H' fins vs fp' → (fo ++ fp').Nodup → Aft fp S H (fo ++ fp') S' H' → Q v H'

abbrev PutI := Option (Nat × Bd × Bool)
/-- the operands as arguments: owned ones go out of their slots -/
def takeO : List Opd → List Md → Ev → Option (List O × List PutI × Ev)
  | [], _, ρ => some ([], [], ρ)
  | .vl _ :: _, [], _ => none
  | .vl d :: ps, _ :: ms, ρ => (takeO ps ms ρ).map fun x => (.sh d :: x.1, none :: x.2.1, x.2.2)
  | .sl _ :: _, [], _ => none
  | .sl i :: ps, m :: ms, ρ => match ρ[i]? with
    | some (some b) => match b.o with
      | .sh d => (takeO ps ms ρ).map fun x => (.sh d :: x.1, none :: x.2.1, x.2.2)
      | .ol os => match m with
        | .io => if b.fixed then none else (takeO ps ms (ρ.set i none)).map fun x => (.ol os :: x.1, some (i, b, true) :: x.2.1, x.2.2)
        | .br => (takeO ps ms (ρ.set i none)).map fun x => (.ol os :: x.1, some (i, b, false) :: x.2.1, x.2.2)
        | .sh => none
    | _ => none
def putO : List PutI → List O → Ev → Ev
  | [], _, ρ => ρ
  | some _ :: _, [], ρ => ρ
  | none :: _, [], ρ => ρ
  | some (i, b, io) :: is, o :: os, ρ => putO is os (ρ.set i (some (if io then b.put o else b)))
  | none :: is, _ :: os, ρ => putO is os ρ
inductive Ins (σ : L2.St) (anc : Nat → Option V) : Ev → List PutI → List V → Prop
  | nil {ρ : Ev} : Ins σ anc ρ [] []
  | no {ρ : Ev} {is : List PutI} {v : V} {vs : List V} : Ins σ anc ρ is vs → Ins σ anc ρ (none :: is) (v :: vs)
  | ys {ρ : Ev} {i : Nat} {b : Bd} {io : Bool} {is : List PutI} {v : V} {vs : List V} : ρ[i]? = some none → σ[i]? = some (some v) → (b.anch = true → anc i = some v) → (∀ p ∈ is, ∀ j c k, p = some (j, c, k) → j ≠ i) → Ins σ anc ρ is vs → Ins σ anc ρ (some (i, b, io) :: is) (v :: vs)
/-- what stays none in the end was none: the slots that are taken later were held -/
theorem takeO_held : ∀ {ms : List Md} {ρ : Ev} {ps : List Opd} {os : List O} {is : List PutI} {ρ' : Ev}, takeO ps ms ρ = some (os, is, ρ') → (∀ p ∈ is, ∀ j c k, p = some (j, c, k) → ρ[j]? = some (some c)) ∧ ∀ j : Nat, ρ[j]? = some none → ρ'[j]? = some none
  | _, ρ, [], os, is, ρ', h => by cases h; exact ⟨fun p hp => by simp at hp, fun j h => h⟩
  | [], ρ, .vl _ :: _, os, is, ρ', h => by cases h
  | [], ρ, .sl _ :: _, os, is, ρ', h => by cases h
  | m :: ms, ρ, .vl d :: ps, os, is, ρ', h => by
    simp only [takeO, Option.map_eq_some_iff] at h
    obtain ⟨⟨a, b, c⟩, h1, h2⟩ := h
    cases h2
    obtain ⟨k1, k2⟩ := takeO_held h1
    exact ⟨fun p hp j c k e => by
      rcases List.mem_cons.mp hp with rfl | hp
      · cases e
      · exact k1 p hp j c k e, k2⟩
  | m :: ms, ρ, .sl i :: ps, os, is, ρ', h => by
    simp only [takeO] at h
    split at h
    · rename_i b hb
      have step : ∀ {x : O} {io : Bool} {y : List O × List PutI × Ev}, takeO ps ms (ρ.set i none) = some y → (∀ p ∈ (some (i, b, io) :: y.2.1), ∀ j c k, p = some (j, c, k) → ρ[j]? = some (some c)) ∧ ∀ j : Nat, ρ[j]? = some none → y.2.2[j]? = some none := fun {x io y} hy => by
        obtain ⟨k1, k2⟩ := takeO_held hy
        refine ⟨fun p hp j c k e => ?_, fun j hj => k2 j ?_⟩
        · rcases List.mem_cons.mp hp with rfl | hp
          · cases e; exact hb
          · have := k1 p hp j c k e
            by_cases z : i = j
            · subst z
              rw [List.getElem?_set_self (List.getElem?_eq_some_iff.mp hb).1] at this; cases this
            · rw [List.getElem?_set_ne z] at this; exact this
        · by_cases z : i = j
          · subst z; rw [hb] at hj; cases hj
          · rw [List.getElem?_set_ne z]; exact hj
      split at h
      · rw [Option.map_eq_some_iff] at h
        obtain ⟨⟨a, b, c⟩, h1, h2⟩ := h
        cases h2
        obtain ⟨k1, k2⟩ := takeO_held h1
        exact ⟨fun p hp j c k e => by
          rcases List.mem_cons.mp hp with rfl | hp
          · cases e
          · exact k1 p hp j c k e, k2⟩
      · split at h
        · split at h
          · cases h
          · rw [Option.map_eq_some_iff] at h
            obtain ⟨y, h1, h2⟩ := h
            cases h2
            exact step (x := .ol []) h1
        · rw [Option.map_eq_some_iff] at h
          obtain ⟨y, h1, h2⟩ := h
          cases h2
          exact step (x := .ol []) h1
        · cases h
    · cases h
theorem takeO_ok {anc : Nat → Option V} {σ : L2.St} : ∀ {ms : List Md} {ρ : Ev} {ps : List Opd} {os : List O} {is : List PutI} {ρ' : Ev} {vs : List V} {fp : List Addr}, takeO ps ms ρ = some (os, is, ρ') → StOk K S H anc ρ σ fp → Paired (OpdR K S σ) ps vs →
    ∃ fa g, fp.Perm (fa ++ g) ∧ RepOs K S H os vs fa ∧ StOk K S H anc ρ' σ g ∧ Ins σ anc ρ' is vs
  | _, ρ, [], os, is, ρ', _, fp, h, ok, .nil => by
    cases h
    exact ⟨[], fp, .refl _, .nil, ok, .nil⟩
  | [], ρ, .vl _ :: _, os, is, ρ', _, fp, h, ok, _ => by cases h
  | [], ρ, .sl _ :: _, os, is, ρ', _, fp, h, ok, _ => by cases h
  | m :: ms, ρ, .vl d :: ps, os, is, ρ', _, fp, h, ok, .cons r rs => by
    simp only [takeO, Option.map_eq_some_iff] at h
    obtain ⟨⟨a, b, c⟩, h1, h2⟩ := h
    cases h2
    obtain ⟨fa, g, e1, e2, e3, e4⟩ := takeO_ok h1 ok rs
    exact ⟨fa, g, e1, .cons (f := []) (.sh r) e2, e3, .no e4⟩
  | m :: ms, ρ, .sl i :: ps, os, is, ρ', _, fp, h, ok, .cons (b := v) r rs => by
    simp only [takeO] at h
    split at h
    · rename_i b hb
      obtain ⟨w, fi, g0, p1, p2, p3, p4⟩ := ok.take hb
      have hw : w = v := by
        have r' : σ[i]? = some (some v) := r
        rw [p2] at r'; cases r'; rfl
      subst hw
      have step : ∀ {x : List O} {io : Bool} {y : List O × List PutI × Ev}, b.o = .ol x → takeO ps ms (ρ.set i none) = some y → ∃ fa g, fp.Perm (fa ++ g) ∧ RepOs K S H (.ol x :: y.1) (w :: _) fa ∧ StOk K S H anc y.2.2 σ g ∧ Ins σ anc y.2.2 (some (i, b, io) :: y.2.1) (w :: _) := fun {x io y} ho hy => by
        obtain ⟨fa, g, e1, e2, e3, e4⟩ := takeO_ok (os := y.1) (is := y.2.1) (ρ' := y.2.2) hy p4 rs
        obtain ⟨k1, k2⟩ := takeO_held (os := y.1) (is := y.2.1) (ρ' := y.2.2) hy
        have hl : i < ρ.length := (List.getElem?_eq_some_iff.mp hb).1
        refine ⟨fi ++ fa, g, ?_, .cons (by rw [← ho]; exact p3) e2, e3, .ys (k2 i (by rw [List.getElem?_set_self hl])) p2 (fun hb' => ?_) (fun p hp j c k e z => ?_) e4⟩
        · rw [List.append_assoc]
          exact p1.trans (List.Perm.append_left fi e1)
        · obtain ⟨u, u1, u2⟩ := ok.pa i b hb hb'
          rw [p2] at u1; cases u1
          exact u2
        · subst z
          have := k1 p hp j c k e
          rw [List.getElem?_set_self hl] at this; cases this
      split at h
      · rename_i d ho
        rw [Option.map_eq_some_iff] at h
        obtain ⟨⟨a, b', c⟩, h1, h2⟩ := h
        cases h2
        obtain ⟨fa, g, e1, e2, e3, e4⟩ := takeO_ok h1 ok rs
        rw [ho] at p3
        cases p3 with
        | sh p3 => exact ⟨fa, g, e1, .cons (f := []) (.sh p3) e2, e3, .no e4⟩
      · rename_i x ho
        split at h
        · split at h
          · cases h
          · rw [Option.map_eq_some_iff] at h
            obtain ⟨y, h1, h2⟩ := h
            cases h2
            exact step ho h1
        · rw [Option.map_eq_some_iff] at h
          obtain ⟨y, h1, h2⟩ := h
          cases h2
          exact step ho h1
        · cases h
    · cases h
/-- which arguments come back as they were -/
theorem takeO_same : ∀ {ms : List Md} {ρ : Ev} {ps : List Opd} {os : List O} {is : List PutI} {ρ' : Ev}, takeO ps ms ρ = some (os, is, ρ') → ∀ (k i : Nat) (b : Bd) (io : Bool), is[k]? = some (some (i, b, io)) → os[k]? = some b.o ∧ (io = false → ms[k]? ≠ some Md.io) ∧ (io = true → b.fixed = false)
  | _, ρ, [], os, is, ρ', h, k, i, b, io, e => by cases h; simp at e
  | [], ρ, .vl _ :: _, os, is, ρ', h, k, i, b, io, e => by cases h
  | [], ρ, .sl _ :: _, os, is, ρ', h, k, i, b, io, e => by cases h
  | m :: ms, ρ, .vl d :: ps, os, is, ρ', h, k, i, b, io, e => by
    simp only [takeO, Option.map_eq_some_iff] at h
    obtain ⟨⟨a, b', c⟩, h1, h2⟩ := h
    cases h2
    cases k with
    | zero => simp at e
    | succ k => simpa using takeO_same h1 k i b io (by simpa using e)
  | m :: ms, ρ, .sl j :: ps, os, is, ρ', h, k, i, b, io, e => by
    simp only [takeO] at h
    split at h
    · rename_i b0 hb
      split at h
      · rw [Option.map_eq_some_iff] at h
        obtain ⟨⟨a, b', c⟩, h1, h2⟩ := h
        cases h2
        cases k with
        | zero => simp at e
        | succ k => simpa using takeO_same h1 k i b io (by simpa using e)
      · rename_i x ho
        split at h
        · split at h
          · cases h
          · rename_i hfx
            rw [Option.map_eq_some_iff] at h
            obtain ⟨⟨a, b', c⟩, h1, h2⟩ := h
            cases h2
            cases k with
            | zero =>
              simp only [List.getElem?_cons_zero, Option.some.injEq, Prod.mk.injEq] at e
              obtain ⟨rfl, rfl, rfl⟩ := e
              exact ⟨by simp [ho], fun z => (by cases z), fun _ => by simpa using hfx⟩
            | succ k => simpa using takeO_same h1 k i b io (by simpa using e)
        · rw [Option.map_eq_some_iff] at h
          obtain ⟨⟨a, b', c⟩, h1, h2⟩ := h
          cases h2
          cases k with
          | zero =>
            simp only [List.getElem?_cons_zero, Option.some.injEq, Prod.mk.injEq] at e
            obtain ⟨rfl, rfl, rfl⟩ := e
            exact ⟨by simp [ho], fun _ => by simp, fun z => (by cases z)⟩
          | succ k => simpa using takeO_same h1 k i b io (by simpa using e)
        · cases h
    · cases h
/-- put back -/
theorem putO_ok {anc : Nat → Option V} {σ : L2.St} : ∀ {is : List PutI} {fins : List O} {ρ : Ev} {vs : List V} {fa g : List Addr}, Ins σ anc ρ is vs → RepOs K S H fins vs fa → StOk K S H anc ρ σ g → (fa ++ g).Nodup → (∀ (k i : Nat) (b : Bd), is[k]? = some (some (i, b, false)) → fins[k]? = some b.o) →
    ∃ fp, StOk K S H anc (putO is fins ρ) σ fp ∧ ∀ x ∈ fp, x ∈ fa ++ g
  | [], _, ρ, _, _, g, .nil, .nil, ok, nd, _ => ⟨g, by unfold putO; exact ok, fun x hx => List.mem_append_right _ hx⟩
  | none :: is, _, ρ, _, _, g, .no hi, .cons (o := o) (os := os) (f := f1) (g := f2) h1 h2, ok, nd, hs => by
    have nd2 : (f2 ++ g).Nodup := by
      rw [List.append_assoc] at nd
      exact (List.nodup_append.mp nd).2.1
    obtain ⟨fp, e1, e2⟩ := putO_ok hi h2 ok nd2 fun k i b e => by simpa using hs (k + 1) i b (by simpa using e)
    refine ⟨fp, by unfold putO; exact e1, fun x hx => ?_⟩
    rw [List.append_assoc]
    exact List.mem_append_right _ (e2 x hx)
  | some (i, b, io) :: is, _, ρ, _, _, g, .ys (v := v) hn hσ ha hd hi, .cons (o := o) (os := os) (f := f1) (g := f2) h1 h2, ok, nd, hs => by
    rw [List.append_assoc] at nd
    have n0 := List.nodup_append.mp nd
    have n1 := List.nodup_append.mp n0.2.1
    have ndg : (f1 ++ g).Nodup := List.nodup_append.mpr ⟨n0.1, n1.2.1, fun x hx y hy => n0.2.2 x hx y (List.mem_append_right _ hy)⟩
    have hb : RepO K S H (if io then b.put o else b).o v f1 := by
      cases io with
      | true => simp only [if_true, Bd.put_o]; exact h1
      | false =>
        have e := hs 0 i b (by simp)
        simp only [List.getElem?_cons_zero, Option.some.injEq] at e
        rw [e] at h1
        simpa using h1
    have ok1 := ok.put (i := i) (b := if io then b.put o else b) hn hb ndg (fun z => ha (by
      cases io with
      | true => simpa [Bd.put_anch] using z
      | false => simpa using z))
    rw [set_self hσ] at ok1
    have hi' : ∀ {is : List PutI} {vs : List V}, Ins σ anc ρ is vs → (∀ p ∈ is, ∀ j c k, p = some (j, c, k) → j ≠ i) → Ins σ anc (ρ.set i (some (if io then b.put o else b))) is vs := by
      intro is vs h
      induction h with
      | nil => intro _; exact .nil
      | no _ ih => intro q; exact .no (ih fun p hp => q p (List.mem_cons_of_mem _ hp))
      | ys a1 a2 a3 a4 _ ih =>
        intro q
        refine .ys ?_ a2 a3 a4 (ih fun p hp => q p (List.mem_cons_of_mem _ hp))
        rw [List.getElem?_set_ne (Ne.symm (q _ List.mem_cons_self _ _ _ rfl))]
        exact a1
    have nd2 : (f2 ++ (f1 ++ g)).Nodup := by
      refine List.nodup_append.mpr ⟨n1.1, ndg, fun x hx y hy z => ?_⟩
      subst z
      rcases List.mem_append.mp hy with hy | hy
      · exact n0.2.2 x hy x (List.mem_append_left _ hx) rfl
      · exact n1.2.2 x hx x hy rfl
    obtain ⟨fp, e1, e2⟩ := putO_ok (hi' hi hd) h2 ok1 nd2 fun k i b e => by simpa using hs (k + 1) i b (by simpa using e)
    refine ⟨fp, by unfold putO; exact e1, fun x hx => ?_⟩
    rcases List.mem_append.mp (e2 x hx) with z | z
    · simp [z]
    · rcases List.mem_append.mp z with z | z <;> simp [z]
theorem putO_kp : ∀ {is : List PutI} {fins : List O} {ρ : Ev} (j : Nat) (c : Bd), ρ[j]? = some (some c) → (∀ p ∈ is, ∀ i b k, p = some (i, b, k) → i ≠ j) → (putO is fins ρ)[j]? = some (some c)
  | [], _, ρ, j, c, h, _ => by unfold putO; exact h
  | none :: is, [], ρ, j, c, h, _ => by unfold putO; exact h
  | none :: is, o :: os, ρ, j, c, h, hd => by
    unfold putO
    exact putO_kp j c h fun p hp => hd p (List.mem_cons_of_mem _ hp)
  | some (i, b, io) :: is, [], ρ, j, c, h, hd => by unfold putO; exact h
  | some (i, b, io) :: is, o :: os, ρ, j, c, h, hd => by
    unfold putO
    refine putO_kp j c ?_ fun p hp => hd p (List.mem_cons_of_mem _ hp)
    rw [List.getElem?_set_ne (hd _ List.mem_cons_self i b io rfl)]
    exact h

/-! ### a call of a def of the program -/
def callF (F : FS) (a : XA) : XF := fun ρ => (a ρ).bind fun x => (takeO x.1 F.ms x.2).bind fun y => if y.1.length = F.ms.length then (F.f y.1).map fun z => (z.1, putO y.2.1 z.2 y.2.2) else none
theorem callF_some {F : FS} {a : XA} {ρ ρ' : Ev} {o : O} (h : callF F a ρ = some (o, ρ')) : ∃ ps ρ1 os is ρ2 fins, a ρ = some (ps, ρ1) ∧ takeO ps F.ms ρ1 = some (os, is, ρ2) ∧ os.length = F.ms.length ∧ F.f os = some (o, fins) ∧ ρ' = putO is fins ρ2 := by
  unfold callF at h
  simp only [Option.bind_eq_some_iff] at h
  obtain ⟨⟨ps, ρ1⟩, h1, ⟨os, is, ρ2⟩, h2, h3⟩ := h
  split at h3
  · rename_i hl
    rw [Option.map_eq_some_iff] at h3
    obtain ⟨⟨r, fins⟩, h4, h5⟩ := h3
    cases h5
    exact ⟨ps, ρ1, os, is, ρ2, fins, h1, h2, hl, h4, rfl⟩
  · cases h3
theorem callF_core {F : FS} {anc : Nat → Option V} {ρ1 ρ2 : Ev} {ps : List Opd} {os fins : List O} {is : List PutI} {o : O} (h2 : takeO ps F.ms ρ1 = some (os, is, ρ2)) (hl : os.length = F.ms.length) (h3 : F.f os = some (o, fins)) {σ : L2.St} {fp fp1 : List Addr} {Q : VK} {vs : List V} {E : XK}
    (ok1 : StOk K S1 H1 anc ρ1 σ fp1) (r1 : Paired (OpdR K S1 σ) ps vs) (a1 : Aft fp S H fp1 S1 H1)
    (q : ∀ (v : V) (S' H' : Hp) (fo fp' : List Addr), StOk K S' H' anc (putO is fins ρ2) σ fp' → RepO K S' H' o v fo → (fo ++ fp').Nodup → Aft fp S H (fo ++ fp') S' H' → Q v H') : spF K F vs H1 Q E := by
  obtain ⟨fa, g, p1, p2, p3, p4⟩ := takeO_ok h2 ok1 r1
  have nd0 := p1.nodup_iff.mp ok1.nd
  refine ⟨S1, os, fa, o, fins, ok1.sub, p2, (List.nodup_append.mp nd0).1, hl, h3, fun v S' H' fo fp' hs ro rf nd a => ?_⟩
  have dg : ∀ b ∈ g, b ∉ fa := nd_apart nd0
  have okg : StOk K S' H' anc ρ2 σ g := p3.along a hs dg
  have apg := a.apart dg p3.there
  have ndp := List.nodup_append.mp nd
  have ndg : (fp' ++ g).Nodup := List.nodup_append.mpr ⟨ndp.2.1, p3.nd, fun x hx y hy z => apg y hy (List.mem_append_right _ (z ▸ hx))⟩
  have same := takeO_same h2
  obtain ⟨k1, k2⟩ := F.ok os o fins h3
  obtain ⟨fp2, e1, e2⟩ := putO_ok p4 rf okg ndg fun k i b e => by
    obtain ⟨s1, s2, _⟩ := same k i b false e
    rw [k2 k (s2 rfl)]; exact s1
  refine q v S' H' fo fp2 e1 ro (List.nodup_append.mpr ⟨ndp.1, e1.nd, fun x hx y hy z => ?_⟩) (a1.trans ((a.wide (gp := fp1) (gp' := fo ++ (fp' ++ g)) (fun b hb => p1.mem_iff.mpr (List.mem_append_left _ hb)) fun b hb => ?_).wide (fun _ h => h) fun b hb => ?_))
  · subst z
    rcases List.mem_append.mp (e2 x hy) with z | z
    · exact ndp.2.2 x hx x z rfl
    · exact apg x z (List.mem_append_left _ hx)
  · rcases List.mem_append.mp hb with hb | hb
    · exact .inl (List.mem_append_left _ hb)
    · rcases List.mem_append.mp hb with hb | hb
      · exact .inl (List.mem_append_right _ hb)
      · exact .inr (p1.mem_iff.mpr (List.mem_append_right _ hb))
  · rcases List.mem_append.mp hb with hb | hb
    · exact .inl (List.mem_append_left _ hb)
    · exact .inl (List.mem_append_right _ (e2 b hb))
theorem snd_callF {F : FS} {ta : TA} {a : XA} {E : XK} (ha : SndA K ta a) : Snd K (tCall (spF K F) [] E ta) (callF F a) := fun anc ρ o ρ' h σ S H fp ok Q q => by
  obtain ⟨ps, ρ1, os, is, ρ2, fins, h1, h2, hl, h3, rfl⟩ := callF_some h
  refine ha anc ρ ps ρ1 h1 σ S H fp ok _ fun vs S1 H1 fp1 ok1 r1 a1 => ?_
  rw [List.append_nil]
  exact callF_core h2 hl h3 ok1 r1 a1 q
theorem putO_at : ∀ {is : List PutI} {fins : List O} {ρ ρ' : Ev} (j : Nat), ρ.length = ρ'.length → ρ[j]? = ρ'[j]? → (putO is fins ρ)[j]? = (putO is fins ρ')[j]?
  | [], _, ρ, ρ', j, _, h => by unfold putO; exact h
  | none :: is, [], ρ, ρ', j, _, h => by unfold putO; exact h
  | some _ :: is, [], ρ, ρ', j, _, h => by unfold putO; exact h
  | none :: is, o :: os, ρ, ρ', j, l, h => by unfold putO; exact putO_at j l h
  | some (i, b, io) :: is, o :: os, ρ, ρ', j, l, h => by
    unfold putO
    refine putO_at j (by simp [l]) ?_
    by_cases z : i = j
    · subst z
      by_cases hl : i < ρ.length
      · rw [List.getElem?_set_self hl, List.getElem?_set_self (l ▸ hl)]
      · rw [List.getElem?_eq_none (by simpa using Nat.le_of_not_lt hl), List.getElem?_eq_none (by simpa using (show ρ'.length ≤ i by omega))]
    · rw [List.getElem?_set_ne z, List.getElem?_set_ne z]; exact h
theorem takeO_kp : ∀ {ps : List Opd} {ms : List Md} {ρ : Ev} {os : List O} {is : List PutI} {ρ' : Ev}, takeO ps ms ρ = some (os, is, ρ') → ∀ (fins : List O), fins.length = os.length → ∀ (j : Nat) (c : Bd), ρ[j]? = some (some c) → c.fixed = true → (putO is fins ρ')[j]? = some (some c)
  | [], _, ρ, os, is, ρ', h, fins, hl, j, c, hc, hf => by
    cases h
    unfold putO; exact hc
  | .vl _ :: _, [], ρ, os, is, ρ', h, fins, hl, j, c, hc, hf => by cases h
  | .sl _ :: _, [], ρ, os, is, ρ', h, fins, hl, j, c, hc, hf => by cases h
  | .vl d :: ps, m :: ms, ρ, os, is, ρ', h, fins, hl, j, c, hc, hf => by
    simp only [takeO, Option.map_eq_some_iff] at h
    obtain ⟨⟨a, b, e⟩, h1, h2⟩ := h
    cases h2
    cases fins with
    | nil => simp at hl
    | cons f fs =>
      unfold putO
      exact takeO_kp h1 fs (by simpa using hl) j c hc hf
  | .sl i :: ps, m :: ms, ρ, os, is, ρ', h, fins, hl, j, c, hc, hf => by
    simp only [takeO] at h
    split at h
    · rename_i b hb
      have hli : i < ρ.length := (List.getElem?_eq_some_iff.mp hb).1
      have step : ∀ {x : O} {io : Bool} {y : List O × List PutI × Ev}, (io = true → b.fixed = false) → takeO ps ms (ρ.set i none) = some y → fins.length = (x :: y.1).length → (putO (some (i, b, io) :: y.2.1) fins y.2.2)[j]? = some (some c) := fun {x io y} hio hy hl' => by
        cases fins with
        | nil => simp at hl'
        | cons f fs =>
          obtain ⟨held, stay⟩ := takeO_held (os := y.1) (is := y.2.1) (ρ' := y.2.2) hy
          have hsi := stay i (by rw [List.getElem?_set_self hli])
          have hl2 : i < y.2.2.length := (List.getElem?_eq_some_iff.mp hsi).1
          unfold putO
          by_cases z : i = j
          · subst z
            rw [hb] at hc; cases hc
            have hio' : io = false := by
              cases io with
              | false => rfl
              | true => rw [hio rfl] at hf; cases hf
            subst hio'
            refine putO_kp i c ?_ fun p hp k d q e z => ?_
            · simp only [Bool.false_eq_true, if_false]
              rw [List.getElem?_set_self hl2]
            · subst z
              have := held p hp k d q e
              rw [List.getElem?_set_self hli] at this; cases this
          · rw [putO_at (ρ' := y.2.2) j (by simp) (by rw [List.getElem?_set_ne z])]
            exact takeO_kp (os := y.1) (is := y.2.1) (ρ' := y.2.2) hy fs (by simpa using hl') j c (by rw [List.getElem?_set_ne z]; exact hc) hf
      split at h
      · rw [Option.map_eq_some_iff] at h
        obtain ⟨⟨a, b', e⟩, h1, h2⟩ := h
        cases h2
        cases fins with
        | nil => simp at hl
        | cons f fs =>
          unfold putO
          exact takeO_kp h1 fs (by simpa using hl) j c hc hf
      · rename_i x ho
        split at h
        · split at h
          · cases h
          · rename_i hfx
            rw [Option.map_eq_some_iff] at h
            obtain ⟨y, h1, h2⟩ := h
            cases h2
            exact step (x := .ol x) (fun _ => by simpa using hfx) h1 hl
        · rw [Option.map_eq_some_iff] at h
          obtain ⟨y, h1, h2⟩ := h
          cases h2
          exact step (x := .ol x) (fun z => by cases z) h1 hl
        · cases h
    · cases h
theorem Kp.callF {F : FS} {a : XA} (k : Kp a) : Kp (callF F a) := fun ρ o ρ' h j c hc hf => by
  obtain ⟨ps, ρ1, os, is, ρ2, fins, h1, h2, hl, h3, rfl⟩ := callF_some h
  exact takeO_kp h2 fins (F.ok os o fins h3).1 j c (k _ _ _ h1 j c hc hf) hf

/-! ### with keywords: the operands in another order -/
def reord {α : Type} (π : List Nat) (xs : List α) : List α := π.filterMap (xs[·]?)
theorem paired_reord {α β : Type} {G : α → β → Prop} {xs : List α} {ys : List β} (h : Paired G xs ys) : ∀ π : List Nat, Paired G (reord π xs) (reord π ys)
  | [] => .nil
  | k :: π => by
    unfold reord
    cases e : xs[k]? with
    | none =>
      have e2 : ys[k]? = none := by
        have := h.length
        rw [List.getElem?_eq_none_iff] at e ⊢
        omega
      rw [List.filterMap_cons_none e, List.filterMap_cons_none e2]
      exact paired_reord h π
    | some x =>
      obtain ⟨y, e2, g⟩ := L2.paired_get h e
      rw [List.filterMap_cons_some e, List.filterMap_cons_some e2]
      exact .cons g (paired_reord h π)
def aReord (π : List Nat) (a : XA) : XA := fun ρ => (a ρ).map fun x => (reord π x.1, x.2)
def tCallK0 (n : Nat) (sp : Sp) (π : List Nat) (E : XK) (tk : TA) : TE := fun σ H Q => tk σ H fun zs H2 => zs.length = n ∧ sp (reord π zs) H2 Q E
theorem snd_callK {F : FS} {ta : TA} {a : XA} {E : XK} {n : Nat} {π : List Nat} (ha : SndA K ta a) (hn : ∀ ρ ps ρ', a ρ = some (ps, ρ') → ps.length = n) : Snd K (tCallK0 n (spF K F) π E ta) (callF F (aReord π a)) := fun anc ρ o ρ' h σ S H fp ok Q q => by
  obtain ⟨ps, ρ1, os, is, ρ2, fins, h1, h2, hl, h3, rfl⟩ := callF_some h
  unfold aReord at h1
  rw [Option.map_eq_some_iff] at h1
  obtain ⟨⟨ps0, ρ0⟩, h0, h1⟩ := h1
  cases h1
  refine ha anc ρ ps0 _ h0 σ S H fp ok _ fun vs S1 H1 fp1 ok1 r1 a1 => ⟨?_, ?_⟩
  · rw [← hn _ _ _ h0]; exact r1.length.symm
  · exact callF_core h2 hl h3 ok1 (paired_reord r1 π) a1 q
theorem Kp.areord {π : List Nat} {a : XA} (k : Kp a) : Kp (aReord π a) := fun ρ ps ρ' h j c hc hf => by
  unfold aReord at h
  rw [Option.map_eq_some_iff] at h
  obtain ⟨⟨ps0, ρ0⟩, h0, h1⟩ := h
  cases h1
  exact k _ _ _ h0 j c hc hf
/-- f(k = v, ..): no positional value -/
theorem pe_callK0 {X : Cx} {CX : CXT} {k : Nat} {f : Addr} {fd : FuncData} {ps ks : List Str} {sp : Sp} {E : XK} {x : Str} {p pos : Pos} {kws : List Keyword} {tk : TA} {π : List Nat} (F : FnOk X.prog X.w X.K X.mg X.base CX k f fd ps sp) (hr : Room k X.A) (hg : Gl X x) (hm : X.mg x = some (.ref f)) (hk : PySem.W.keepIn X.K (.ref f) = true)
    (hb : KBn X.K fd ps 0 ks (fun _ ws => reord π ws) (fun _ zs => reord π zs)) (hx : Passes CX X E)
    (hkw : PK X kws tk) (hall : (backToKw pos (keywordEach kws X.env)).all (·.1.isSome) = true) (hks : (backToKw pos (keywordEach kws X.env)).filterMap (·.1) = ks)
    (hdb : (x == ("__debug__" : Str)) = false)
    (hpl : ((backTo pos (starEach [] X.env)).any (·.1) || (backToKw pos (keywordEach kws X.env)).any (·.1.isNone)) = false) :
    PE X (.Call (.Name x p) [] kws pos) (tCallK0 ks.length sp π E tk) := by
  refine ⟨fun pins s σ H Q I h => ?_⟩
  refine wpAny_Call_Name_kw (ld_glob I hg hm ?_ hdb)
  refine PySem.W.callWith_KW0 (h₀ := X.base) I.ok.mod.kin hk hall ?_ hpl
  refine thn (hkw.run pos pins s σ H _ I h) fun ws s2 ⟨zs, H2, I2, rz, l2, q2⟩ => ⟨I2.kIn, ?_⟩
  rw [hks]
  exact run_fnN (vs := []) F hr hb hx I2 .nil rz rfl l2 q2
end PL

namespace PL
open PySem PySem.Spec PyProof.Rows L2
variable {K : Frag} {S S' S1 S2 H H' H1 H2 : Hp}

/-! ### a def, by its body -/
def entryB : List Md → List O → Option Ev
  | [], [] => some []
  | .sh :: ms, .sh d :: os => (entryB ms os).map fun r => some (.ow (.sh d)) :: r
  | .br :: ms, o :: os => (entryB ms os).map fun r => some (.pa false o) :: r
  | .io :: ms, o :: os => (entryB ms os).map fun r => some (.pa true o) :: r
  | _, _ => none
def finF : List Md → List O → Ev → Option (List O)
  | [], [], _ => some []
  | .sh :: ms, o :: os, _ :: ρ => (finF ms os ρ).map (o :: ·)
  | .br :: ms, o :: os, _ :: ρ => (finF ms os ρ).map (o :: ·)
  | .io :: ms, _ :: os, some (.pa true o') :: ρ => (finF ms os ρ).map (o' :: ·)
  | _, _, _ => none
def runF (ms : List Md) (n : Nat) (body : XS) (os : List O) : Option (O × List O) := (entryB ms os).bind fun ρ0 => match body (ρ0 ++ List.replicate n none) with
  | some (.rt r ρ') => (finF ms os ρ').map fun fins => (r, fins)
  | some (.nx ρ') => (finF ms os ρ').map fun fins => (.sh .none, fins)
  | _ => none
theorem finF_ok : ∀ {ms : List Md} {os : List O} {ρ : Ev} {fins : List O}, finF ms os ρ = some fins → fins.length = os.length ∧ ∀ k : Nat, ms[k]? ≠ some Md.io → fins[k]? = os[k]?
  | [], [], ρ, fins, h => by cases h; exact ⟨rfl, fun _ _ => rfl⟩
  | .sh :: ms, o :: os, _ :: ρ, fins, h => by
    simp only [finF, Option.map_eq_some_iff] at h
    obtain ⟨r, h1, rfl⟩ := h
    obtain ⟨h2, h3⟩ := finF_ok h1
    refine ⟨by simp [h2], fun k hk => ?_⟩
    cases k with
    | zero => rfl
    | succ k => simpa using h3 k (by simpa using hk)
  | .br :: ms, o :: os, _ :: ρ, fins, h => by
    simp only [finF, Option.map_eq_some_iff] at h
    obtain ⟨r, h1, rfl⟩ := h
    obtain ⟨h2, h3⟩ := finF_ok h1
    refine ⟨by simp [h2], fun k hk => ?_⟩
    cases k with
    | zero => rfl
    | succ k => simpa using h3 k (by simpa using hk)
  | .io :: ms, o :: os, some (.pa true o') :: ρ, fins, h => by
    simp only [finF, Option.map_eq_some_iff] at h
    obtain ⟨r, h1, rfl⟩ := h
    obtain ⟨h2, h3⟩ := finF_ok h1
    refine ⟨by simp [h2], fun k hk => ?_⟩
    cases k with
    | zero => simp at hk
    | succ k => simpa using h3 k (by simpa using hk)
  | [], _ :: _, ρ, fins, h => by simp [finF] at h
  | .sh :: _, [], ρ, fins, h => by simp [finF] at h
  | .br :: _, [], ρ, fins, h => by simp [finF] at h
  | .io :: _, [], ρ, fins, h => by simp [finF] at h
  | .sh :: _, _ :: _, [], fins, h => by simp [finF] at h
  | .br :: _, _ :: _, [], fins, h => by simp [finF] at h
  | .io :: _, _ :: _, [], fins, h => by simp [finF] at h
  | .io :: _, _ :: _, none :: _, fins, h => by simp [finF] at h
  | .io :: _, _ :: _, some (.ow _) :: _, fins, h => by simp [finF] at h
  | .io :: _, _ :: _, some (.lk _) :: _, fins, h => by simp [finF] at h
  | .io :: _, _ :: _, some (.pa false _) :: _, fins, h => by simp [finF] at h
theorem runF_some {ms : List Md} {n : Nat} {body : XS} {os fins : List O} {r : O} (h : runF ms n body os = some (r, fins)) : ∃ ρ0 ρ', entryB ms os = some ρ0 ∧ finF ms os ρ' = some fins ∧ (body (ρ0 ++ List.replicate n none) = some (.rt r ρ') ∨ (body (ρ0 ++ List.replicate n none) = some (.nx ρ') ∧ r = .sh .none)) := by
  unfold runF at h
  rw [Option.bind_eq_some_iff] at h
  obtain ⟨ρ0, h1, h2⟩ := h
  split at h2
  · rename_i r' ρ' e
    rw [Option.map_eq_some_iff] at h2
    obtain ⟨f, h3, h4⟩ := h2
    cases h4
    exact ⟨ρ0, ρ', h1, h3, .inl e⟩
  · rename_i ρ' e
    rw [Option.map_eq_some_iff] at h2
    obtain ⟨f, h3, h4⟩ := h2
    cases h4
    exact ⟨ρ0, ρ', h1, h3, .inr ⟨e, rfl⟩⟩
  · cases h2
def mkFS (ms : List Md) (n : Nat) (body : XS) : FS := ⟨ms, runF ms n body, fun os r fins h => by
  obtain ⟨ρ0, ρ', h1, h2, _⟩ := runF_some h
  exact finF_ok h2⟩
theorem repL_none : ∀ n : Nat, RepL K S H (List.replicate n none) (List.replicate n none) []
  | 0 => .nil
  | n + 1 => .no (repL_none n)
theorem entry_ok (n : Nat) : ∀ {ms : List Md} {os : List O} {vs : List V} {fp : List Addr} {ρ0 : Ev}, RepOs K S H os vs fp → entryB ms os = some ρ0 → RepL K S H (ρ0 ++ List.replicate n none) (vs.map some ++ List.replicate n none) fp ∧ ρ0.length = vs.length
  | [], _, _, _, ρ0, .nil, h => by
    cases h
    exact ⟨repL_none n, rfl⟩
  | [], _, _, _, ρ0, .cons _ _, h => by cases h
  | .sh :: ms, _, _, _, ρ0, .nil, h => by cases h
  | .br :: ms, _, _, _, ρ0, .nil, h => by cases h
  | .io :: ms, _, _, _, ρ0, .nil, h => by cases h
  | .sh :: ms, _, _, _, ρ0, .cons (o := o) h1 r, h => by
    cases h1 with
    | sh h1 =>
      simp only [entryB, Option.map_eq_some_iff] at h
      obtain ⟨ρ1, e1, rfl⟩ := h
      obtain ⟨e2, e3⟩ := entry_ok n r e1
      exact ⟨.ys (b := .ow (.sh _)) (.sh h1) e2, by simp [e3]⟩
    | ol _ _ _ => simp [entryB] at h
  | .br :: ms, _, _, _, ρ0, .cons (o := o) h1 r, h => by
    simp only [entryB, Option.map_eq_some_iff] at h
    obtain ⟨ρ1, e1, rfl⟩ := h
    obtain ⟨e2, e3⟩ := entry_ok n r e1
    exact ⟨.ys (b := .pa false o) h1 e2, by simp [e3]⟩
  | .io :: ms, _, _, _, ρ0, .cons (o := o) h1 r, h => by
    simp only [entryB, Option.map_eq_some_iff] at h
    obtain ⟨ρ1, e1, rfl⟩ := h
    obtain ⟨e2, e3⟩ := entry_ok n r e1
    exact ⟨.ys (b := .pa true o) h1 e2, by simp [e3]⟩
theorem entry_br : ∀ {ms : List Md} {os : List O} {ρ0 : Ev} (k : Nat), entryB ms os = some ρ0 → ms[k]? = some .br → ∃ o, os[k]? = some o ∧ ρ0[k]? = some (some (.pa false o))
  | [], os, ρ0, k, h, e => by simp at e
  | m :: ms, [], ρ0, k, h, e => by cases m <;> simp [entryB] at h
  | .sh :: ms, .ol _ :: os, ρ0, k, h, e => by simp [entryB] at h
  | .sh :: ms, .sh d :: os, ρ0, k, h, e => by
    simp only [entryB, Option.map_eq_some_iff] at h
    obtain ⟨ρ1, e1, rfl⟩ := h
    cases k with
    | zero => simp at e
    | succ k => simpa using entry_br k e1 (by simpa using e)
  | .br :: ms, o :: os, ρ0, k, h, e => by
    simp only [entryB, Option.map_eq_some_iff] at h
    obtain ⟨ρ1, e1, rfl⟩ := h
    cases k with
    | zero => exact ⟨o, rfl, rfl⟩
    | succ k => simpa using entry_br k e1 (by simpa using e)
  | .io :: ms, o :: os, ρ0, k, h, e => by
    simp only [entryB, Option.map_eq_some_iff] at h
    obtain ⟨ρ1, e1, rfl⟩ := h
    cases k with
    | zero => simp at e
    | succ k => simpa using entry_br k e1 (by simpa using e)
/-- the parameters' objects, behind the body -/
theorem fin_ok (hS : Same S S') : ∀ {ms : List Md} {os : List O} {vs : List V} {fp : List Addr} {ρ0 ρ' : Ev} {σ' : L2.St} {f' : List Addr} {fins : List O}, RepOs K S H os vs fp → entryB ms os = some ρ0 → RepL K S' H' ρ' σ' f' → (∀ (i : Nat) (b : Bd), ρ'[i]? = some (some b) → b.anch = true → ∃ v, σ'[i]? = some (some v) ∧ vs[i]? = some v) →
    (∀ (k : Nat) (o : O), ms[k]? = some .br → os[k]? = some o → ρ'[k]? = some (some (.pa false o))) → finF ms os ρ' = some fins → ∃ g, g.Sublist f' ∧ RepOs K S' H' fins vs g
  | [], _, _, _, ρ0, ρ', σ', f', fins, .nil, _, _, _, _, h => by
    simp only [finF, Option.some.injEq] at h
    subst h
    exact ⟨[], List.nil_sublist _, .nil⟩
  | [], _, _, _, ρ0, ρ', σ', f', fins, .cons _ _, h, _, _, _, _ => by cases h
  | .sh :: ms, _, _, _, ρ0, ρ', σ', f', fins, .nil, h, _, _, _, _ => by cases h
  | .br :: ms, _, _, _, ρ0, ρ', σ', f', fins, .nil, h, _, _, _, _ => by cases h
  | .io :: ms, _, _, _, ρ0, ρ', σ', f', fins, .nil, h, _, _, _, _ => by cases h
  | m :: ms, _, _, _, ρ0, _, _, _, fins, .cons _ _, _, .nil, _, _, h => by cases m <;> simp [finF] at h
  | .sh :: ms, _, _, _, ρ0, _ :: ρ', x :: σ', f', fins, .cons (o := o) h1 r, h, rl, ha, hb, hf => by
    simp only [finF, Option.map_eq_some_iff] at hf
    obtain ⟨fr, e1, rfl⟩ := hf
    cases h1 with
    | ol _ _ _ => simp [entryB] at h
    | sh h1 =>
      simp only [entryB, Option.map_eq_some_iff] at h
      obtain ⟨ρ1, e2, rfl⟩ := h
      have rest : ∀ {g0 : List Addr}, RepL K S' H' ρ' σ' g0 → ∃ g, g.Sublist g0 ∧ RepOs K S' H' fr _ g := fun {g0} rl' => fin_ok hS r e2 rl' (fun i b hi hb' => by simpa using ha (i + 1) b (by simpa using hi) hb') (fun k o hk ho => by simpa using hb (k + 1) o (by simpa using hk) (by simpa using ho)) e1
      cases rl with
      | no rl' =>
        obtain ⟨g, g1, g2⟩ := rest rl'
        exact ⟨g, g1, .cons (f := []) (.sh (h1.mono hS)) g2⟩
      | ys hh rl' =>
        obtain ⟨g, g1, g2⟩ := rest rl'
        exact ⟨g, g1.trans (List.sublist_append_right _ _), .cons (f := []) (.sh (h1.mono hS)) g2⟩
  | .br :: ms, _, _, _, ρ0, _ :: ρ', x :: σ', f', fins, .cons (o := o) (v := v) h1 r, h, rl, ha, hb, hf => by
    simp only [finF, Option.map_eq_some_iff] at hf
    obtain ⟨fr, e1, rfl⟩ := hf
    simp only [entryB, Option.map_eq_some_iff] at h
    obtain ⟨ρ1, e2, rfl⟩ := h
    have rest : ∀ {g0 : List Addr}, RepL K S' H' ρ' σ' g0 → ∃ g, g.Sublist g0 ∧ RepOs K S' H' fr _ g := fun {g0} rl' => fin_ok hS r e2 rl' (fun i b hi hb' => by simpa using ha (i + 1) b (by simpa using hi) hb') (fun k o hk ho => by simpa using hb (k + 1) o (by simpa using hk) (by simpa using ho)) e1
    have h0 := hb 0 o rfl rfl
    cases rl with
    | no rl' => simp at h0
    | ys hh rl' =>
      simp only [List.getElem?_cons_zero, Option.some.injEq] at h0
      subst h0
      obtain ⟨w, w1, w2⟩ := ha 0 _ rfl rfl
      simp only [List.getElem?_cons_zero, Option.some.injEq] at w1 w2
      subst w1 w2
      obtain ⟨g, g1, g2⟩ := rest rl'
      exact ⟨_ ++ g, List.Sublist.append (List.Sublist.refl _) g1, .cons hh g2⟩
  | .io :: ms, _, _, _, ρ0, y :: ρ', x :: σ', f', fins, .cons (o := o) (v := v) h1 r, h, rl, ha, hb, hf => by
    have rest : ∀ {g0 : List Addr} {fr : List O}, finF ms _ ρ' = some fr → RepL K S' H' ρ' σ' g0 → ∃ g, g.Sublist g0 ∧ RepOs K S' H' fr _ g := fun {g0 fr} e1 rl' => by
      simp only [entryB, Option.map_eq_some_iff] at h
      obtain ⟨ρ1, e2, rfl⟩ := h
      exact fin_ok hS r e2 rl' (fun i b hi hb' => by simpa using ha (i + 1) b (by simpa using hi) hb') (fun k o hk ho => by simpa using hb (k + 1) o (by simpa using hk) (by simpa using ho)) e1
    cases rl with
    | no rl' => simp [finF] at hf
    | ys hh rl' =>
      rename_i b v0 f0 g0
      cases b with
      | ow _ => simp [finF] at hf
      | lk _ => simp [finF] at hf
      | pa io o' =>
        cases io with
        | false => simp [finF] at hf
        | true =>
          simp only [finF, Option.map_eq_some_iff] at hf
          obtain ⟨fr, e1, rfl⟩ := hf
          obtain ⟨w, w1, w2⟩ := ha 0 _ rfl rfl
          simp only [List.getElem?_cons_zero, Option.some.injEq] at w1 w2
          subst w1 w2
          obtain ⟨g, g1, g2⟩ := rest e1 rl'
          exact ⟨_ ++ g, List.Sublist.append (List.Sublist.refl _) g1, .cons hh g2⟩
/-- the promise at the body's entry, for a body that is sound -/
theorem body_ok {ms : List Md} {n : Nat} {body : XS} {t : TS} {N : List Str} (hs : SndS K t body) (kb : KpS body) {vs : List V} {Q : VK} {E : XK} (hn : N.length = ms.length + n) (h : spF K (mkFS ms n body) vs H Q E) :
    t { nx := fun _ H' => Q .non H', rt := Q } (start N vs) H := by
  obtain ⟨S, os, fp, r, fins, hsub, hro, hnd, hlen, hrun, q⟩ := h
  obtain ⟨ρ0, ρ', e1, e2, e3⟩ := runF_some hrun
  obtain ⟨e4, e5⟩ := entry_ok (K := K) (S := S) (H := H) n hro e1
  have hvl : vs.length = ms.length := hro.length.symm.trans hlen
  have hst : start N vs = vs.map some ++ List.replicate n none := by
    unfold L2.start
    rw [hn, hvl, Nat.add_sub_cancel_left]
  have ok : StOk K S H (fun i => vs[i]?) (ρ0 ++ List.replicate n none) (start N vs) fp := by
    refine ⟨hsub, ⟨fp, by rw [hst]; exact e4, .refl _⟩, hnd, fun i b hb ha => ?_⟩
    have hi : i < vs.length := by
      by_cases hi : i < ρ0.length
      · omega
      · rw [List.getElem?_append_right (by omega), List.getElem?_replicate] at hb
        split at hb <;> cases hb
    refine ⟨vs[i], ?_, List.getElem?_eq_getElem hi⟩
    rw [hst, List.getElem?_append_left (by simpa using hi), List.getElem?_map, List.getElem?_eq_getElem hi]; rfl
  have ends : ∀ {σ' : L2.St} {v : V} {S' H' : Hp} {fo fp' : List Addr}, (∀ (k : Nat) (o : O), ms[k]? = some Md.br → os[k]? = some o → ρ'[k]? = some (some (.pa false o))) → StOk K S' H' (fun i => vs[i]?) ρ' σ' fp' → RepO K S' H' r v fo → (fo ++ fp').Nodup → Aft fp S H (fo ++ fp') S' H' → Q v H' := fun {σ' v S' H' fo fp'} hbr ok' ro nd a => by
    obtain ⟨f', rl, p⟩ := ok'.rep
    obtain ⟨g, g1, g2⟩ := fin_ok a.sub hro e1 rl (fun i b hi hb => ok'.pa i b hi hb) hbr e2
    have sub : ∀ x ∈ g, x ∈ fp' := fun x hx => p.mem_iff.mpr (g1.subset hx)
    have ndp := List.nodup_append.mp nd
    refine q v S' H' fo g ok'.sub ro g2 (List.nodup_append.mpr ⟨ndp.1, (p.nodup_iff.mp ok'.nd).sublist g1, fun x hx y hy => ndp.2.2 x hx y (sub y hy)⟩) (a.wide (fun _ h => h) fun b hb => .inl ?_)
    rcases List.mem_append.mp hb with hb | hb
    · exact List.mem_append_left _ hb
    · exact List.mem_append_right _ (sub b hb)
  have keep : ∀ {res : Res}, body (ρ0 ++ List.replicate n none) = some res → ∀ (k : Nat) (o : O), ms[k]? = some Md.br → os[k]? = some o → res.ρ[k]? = some (some (.pa false o)) := fun {res} hres k o hk ho => by
    obtain ⟨o', o1, o2⟩ := entry_br k e1 hk
    rw [ho] at o1; cases o1
    refine kb _ _ hres k _ ?_ rfl
    rw [List.getElem?_append_left (List.getElem?_eq_some_iff.mp o2).1]
    exact o2
  rcases e3 with e3 | ⟨e3, rfl⟩
  · refine hs _ _ _ e3 _ S H fp ok _ ?_
    exact fun σ' v S' H' fo fp' ok' ro nd a => ends (keep e3) ok' ro nd a
  · refine hs _ _ _ e3 _ S H fp ok _ ?_
    exact fun σ' S' H' fp' ok' a => ends (v := .non) (fo := []) (keep e3) ok' (.sh .non) (by simpa using ok'.nd) (by simpa using a)
/-- a def of the text does what its body does -/
theorem fs_ok {P : Program} {w : World} {mg : Str → Option Value} {base : Heap} {x qual : Str} {st : Stmt} {f : Addr} {fd : FuncData} {N ps : List Str} {k n : Nat} {ms : List Md} {body : XS} (F : Fun K x qual st f fd) (Sc : FnScope N ps (defScope st)) (hp : ps.length = ms.length) (hn : N.length = ms.length + n) (kb : KpS body)
    (hbody : ∀ (cdv : Value) (A : Around) (outer : List Env) (s : Shared) (H : Hp) (E : XK), Room k (A.deeper (envOfC qual (defScope st) s.heap.objs.size f cdv)) → ∃ t, PSs (cxOf CX0 P w K mg base N qual (defScope st) f cdv A outer s H E).nox (defBody st) t ∧ SndS K t body) :
    FnOk P w K mg base CX0 (k + 1) f fd ps (spF K (mkFS ms n body)) := by
  refine F.ok Sc (fun vs H Q E h => ?_) (fun cdv A outer s H vs Q E hr h => ?_)
  · obtain ⟨S, os, fp, r, fins, _, hro, _, hlen, _⟩ := h
    rw [hp, ← hro.length]; exact hlen
  · obtain ⟨t, h1, h2⟩ := hbody cdv A outer s H E hr
    exact ⟨t, h1, body_ok h2 kb hn h⟩
end PL

namespace PL
open PySem PySem.Spec PyProof.Rows L2

/-! ### where code stands: what is known ahead of it -/
structure Wd where
  P : Program
  w : World
  K : Frag
  mg : Str → Option Value
  base : Heap
  k : Nat
structure Sc where
  N : List Str
  sc : Scope
  df : Bool := true
def Sc.sub (s : Sc) (scope : Scope) : Sc := { s with sc := relS scope s.sc, df := false }
structure Stat (W : Wd) (s : Sc) (X : Cx) : Prop where
  prog : X.prog = W.P
  w : X.w = W.w
  K : X.K = W.K
  mg : X.mg = W.mg
  base : X.base = W.base
  N : X.N = s.N
  sc : X.env.scope = s.sc
  room : Room W.k X.A
  calm : X.calm = true
  xe : X.xe = fun _ _ => False
  fn : s.df = true → ∀ x, X.fn x = true
variable {W : Wd} {s : Sc}
theorem Stat.sub {X : Cx} (h : Stat W s X) (scope : Scope) (t : Shared) (H : Hp) (C : Addr) (cl : List (Str × Addr)) (fp : List Addr) : Stat W (s.sub scope) (X.blk t H scope (compEnvC scope cl C X.env) fp) :=
  ⟨h.prog, h.w, h.K, h.mg, h.base, h.N, by show relS scope X.env.scope = relS scope s.sc; rw [h.sc], h.room, h.calm, rfl, fun z => by cases z⟩
def isK (s : Sc) (x : Str) (k : NameKind) : Bool := decide (s.sc.names.lookup x = some k)
def visB (s : Sc) (i : Nat) (x : Str) : Bool := decide (s.N[i]? = some x) && (isK s x .local || isK s x .cell || isK s x .free) && !(x == ("__debug__" : Str)) && !(x == ("__classdict__" : Str))
def locB (s : Sc) (i : Nat) (x : Str) : Bool := decide (s.N[i]? = some x) && isK s x .local
def setB (s : Sc) (i : Nat) (x : Str) : Bool := decide (s.N[i]? = some x) && (isK s x .local || isK s x .cell)
def glB (s : Sc) (x : Str) : Bool := isK s x .globalImplicit && !(x == ("__debug__" : Str)) && !(x == ("__name__" : Str))
theorem isK_eq {x : Str} {k : NameKind} (h : isK s x k = true) : s.sc.names.lookup x = some k := of_decide_eq_true h
theorem visB_ok {i : Nat} {x : Str} {X : Cx} (h : visB s i x = true) (st : Stat W s X) : X.N[i]? = some x ∧ Vis X.env.scope x ∧ (x == ("__debug__" : Str)) = false ∧ (x == ("__classdict__" : Str)) = false := by
  unfold visB at h
  simp only [Bool.and_eq_true, Bool.or_eq_true, Bool.not_eq_true', decide_eq_true_eq] at h
  obtain ⟨⟨⟨h1, h2⟩, h3⟩, h4⟩ := h
  refine ⟨by rw [st.N]; exact h1, ?_, h3, h4⟩
  unfold Vis
  rw [st.sc]
  rcases h2 with (h2 | h2) | h2
  · exact .inl (isK_eq h2)
  · exact .inr (.inl (isK_eq h2))
  · exact .inr (.inr (isK_eq h2))
theorem glB_ok {x : Str} {X : Cx} (h : glB s x = true) (st : Stat W s X) : Gl X x ∧ (x == ("__debug__" : Str)) = false ∧ x ≠ "__name__" := by
  unfold glB at h
  simp only [Bool.and_eq_true, Bool.not_eq_true'] at h
  obtain ⟨⟨h1, h2⟩, h3⟩ := h
  refine ⟨?_, h2, fun z => by rw [z] at h3; simp at h3⟩
  show X.env.scope.names.lookup x = some .globalImplicit
  rw [st.sc]; exact isK_eq h1

/-! ### plain forms -/
def noStar : Expr → Bool
  | .Starred _ _ => false
  | _ => true
theorem star_ok {e : Expr} (h : noStar e = true) (es : List Expr) (env : Env) : starEach (e :: es) env = (false, eval e env) :: starEach es env := by
  cases e <;> first | rfl | cases h
theorem asgE_ok {e : Expr} (h : noStar e = true) (es : List Expr) (env : Env) : assignEach (e :: es) env = (false, assign e env) :: assignEach es env := by
  cases e <;> first | rfl | cases h
theorem star_none : ∀ {es : List Expr} (env : Env), es.all noStar = true → ∀ p ∈ starEach es env, p.1 = false
  | [], env, _, p, hp => by simp [starEach] at hp
  | e :: es, env, h, p, hp => by
    simp only [List.all_cons, Bool.and_eq_true] at h
    rw [star_ok h.1] at hp
    rcases List.mem_cons.mp hp with rfl | hp
    · rfl
    · exact star_none env h.2 p hp
theorem backTo_none {pos : Pos} : ∀ {l : List (Bool × Sem Value)}, (∀ p ∈ l, p.1 = false) → ∀ p ∈ backTo pos l, p.1 = false
  | [], h, p, hp => by simp [backTo] at hp
  | (b, v) :: l, h, p, hp => by
    have hb : b = false := h _ List.mem_cons_self
    subst hb
    simp only [backTo, List.map_cons] at hp
    rcases List.mem_cons.mp hp with rfl | hp
    · rfl
    · exact backTo_none (l := l) (fun p hp => h p (List.mem_cons_of_mem _ hp)) p (by simpa [backTo] using hp)
theorem pl_ok {pos : Pos} {es : List Expr} (env : Env) (h : es.all noStar = true) : (backTo pos (starEach es env)).any (·.1) = false := by
  rw [List.any_eq_false]
  intro p hp
  rw [backTo_none (star_none env h) p hp]; decide
def plainT : Expr → Bool
  | .UnaryOp .Not _ _ => false
  | .BoolOp _ _ _ => false
  | .IfExp _ _ _ _ => false
  | .Compare _ _ _ _ => false
  | _ => true
theorem isT_ok {e : Expr} (h : plainT e = true) (env : Env) (whole : Sem Value) : isTrue e env whole = (do let v ← whole; standAt e.pos; holding [v] (truthy v)) := by
  cases e with
  | UnaryOp op _ _ => cases op <;> first | rfl | cases h
  | _ => first | rfl | cases h
def plainW : Expr → Bool
  | .ListComp _ _ _ _ => false
  | .SetComp _ _ _ _ => false
  | .DictComp _ _ _ _ _ => false
  | _ => true
theorem sw_ok {e : Expr} (h : plainW e = true) (t : Option Expr) (l : Nat) (env : Env) : swapsWith e t l env = pure false := by
  cases e <;> first | rfl | cases h
def plainI : Expr → Bool
  | .Set _ _ _ => false
  | _ => true
theorem fs_ok' {e : Expr} (h : plainI e = true) (env : Env) (x : Value) : foldedSetIterable e env x = pure x := by
  cases e <;> first | rfl | cases h
def plainX : Expr → Bool
  | .Slice _ _ none _ => false
  | _ => true
theorem ix_ok {e : Expr} (h : plainX e = true) : PlainIx e := by
  intro o i
  cases e with
  | Slice l u st p => cases st <;> first | rfl | cases h
  | _ => rfl

/-! ### judgements: an expression means f -/
def JF (W : Wd) (s : Sc) (e : Expr) (f : XF) : Prop := ∃ t, (∀ X, Stat W s X → PE X e t) ∧ Snd W.K t f ∧ Kp f
def JD (W : Wd) (s : Sc) (e : Expr) (f : XD) : Prop := ∃ t, (∀ X, Stat W s X → PE X e t) ∧ SndD W.K t f ∧ Kp f
def JP (W : Wd) (s : Sc) (e : Expr) (f : XP) : Prop := ∃ t, (∀ X, Stat W s X → PE X e t) ∧ SndP W.K t f ∧ Kp f
def JV (W : Wd) (s : Sc) (e : Expr) (f : XB) : Prop := ∃ t, (∀ X, Stat W s X → PE X e t) ∧ SndV W.K t f ∧ Kp f
def JB (W : Wd) (s : Sc) (e : Expr) (f : XB) : Prop := ∃ t, (∀ X, Stat W s X → PT X e t) ∧ SndB W.K t f ∧ Kp f
def JW (W : Wd) (s : Sc) (e : Expr) (f : XB) : Prop := ∃ t, (∀ X, Stat W s X → PW X e t) ∧ SndB W.K t f ∧ Kp f
def JBs (W : Wd) (s : Sc) (es : List Expr) (f : XB) : Prop := ∃ t, (∀ X, Stat W s X → PTs X es t) ∧ SndB W.K t f ∧ Kp f
def JA (W : Wd) (s : Sc) (es : List Expr) (f : XA) : Prop := es.all noStar = true ∧ ∃ t, (∀ X, Stat W s X → PA X es t) ∧ SndA W.K t f ∧ Kp f
def JL (W : Wd) (s : Sc) (es : List Expr) (f : XL) : Prop := es.all noStar = true ∧ ∃ t, (∀ X, Stat W s X → PA X es t) ∧ SndL W.K t f ∧ Kp f
def JO (W : Wd) (s : Sc) (e : Option Expr) (f : XO) : Prop := ∃ t, (∀ X, Stat W s X → PO X e t) ∧ SndO W.K t f ∧ Kp f
def JI (W : Wd) (s : Sc) (tg e : Expr) (f : XI) : Prop := plainI e = true ∧ ∃ t, (∀ X, Stat W s X → PI X tg e t) ∧ SndI W.K t f ∧ KpI f
def JG (W : Wd) (s : Sc) (e : Expr) (tg : List Nat) (f : XG) : Prop := ∃ t, (∀ X, Stat W s X → PG X e t) ∧ SndG W.K tg t f ∧ KpG f
def JGs (W : Wd) (s : Sc) (es : List Expr) (n : Nat) (tg : List Nat) (f : XGs) : Prop := es.all noStar = true ∧ es.length = n ∧ ∃ t, (∀ X, Stat W s X → PGs X es t) ∧ SndGs W.K tg t f ∧ KpGs f
def JS (W : Wd) (s : Sc) (st : Stmt) (f : XS) : Prop := ∃ t, (∀ X, Stat W s X → PS X st t) ∧ SndS W.K t f ∧ KpS f
def JSs (W : Wd) (s : Sc) (st : List Stmt) (f : XS) : Prop := ∃ t, (∀ X, Stat W s X → PSs X st t) ∧ SndS W.K t f ∧ KpS f

variable {e a b c : Expr} {es : List Expr} {pos p1 p2 : Pos}
/-! names, constants -/
theorem jp_var (i : Nat) {x : Str} (h : visB s i x = true) : JP W s (.Name x pos) (opV i) := ⟨_, fun X st => let ⟨h1, h2, h3, h4⟩ := visB_ok h st; pe_var h1 h2 h3 h4, sndP_var i, Kp.opV i⟩
theorem jd_var (i : Nat) {x : Str} (h : visB s i x = true) : JD W s (.Name x pos) (dVar i) := ⟨_, fun X st => let ⟨h1, h2, h3, h4⟩ := visB_ok h st; pe_var h1 h2 h3 h4, snd_dVar i, Kp.dVar i⟩
theorem jf_mv (i : Nat) {x : Str} (h : visB s i x = true) : JF W s (.Name x pos) (mVar i) := ⟨_, fun X st => let ⟨h1, h2, h3, h4⟩ := visB_ok h st; pe_var h1 h2 h3 h4, snd_mVar i, Kp.mVar i⟩
theorem jd_int {i : Int} {j : Nat} : JD W s (.Constant (.int i) j pos) (dC (.int i)) := ⟨_, fun X st => pe_int, snd_dC fun _ => .int i, Kp.dC _⟩
theorem jd_bl {i : Bool} {j : Nat} : JD W s (.Constant (.bool i) j pos) (dC (.bool i)) := ⟨_, fun X st => pe_bl, snd_dC fun _ => .bl i, Kp.dC _⟩
theorem jd_non {j : Nat} : JD W s (.Constant .none j pos) (dC .none) := ⟨_, fun X st => pe_non, snd_dC fun _ => .non, Kp.dC _⟩
theorem jd_str {x : Str} {j : Nat} : JD W s (.Constant (.str x) j pos) (dC (.str x)) := ⟨_, fun X st => pe_str, snd_dC fun _ => .str x, Kp.dC _⟩
theorem jd_gint {x : Str} {i : Int} (h : glB s x = true) (hm : ∃ t, W.mg x = some (.int i t)) : JD W s (.Name x pos) (dC (.int i)) := ⟨_, fun X st => by
  obtain ⟨t, hm⟩ := hm
  obtain ⟨h1, h2, h3⟩ := glB_ok h st
  exact pe_glob (v := .int i) h1 (by rw [st.mg]; exact hm) ⟨t, rfl⟩ h2, snd_dC fun _ => .int i, Kp.dC _⟩
/-! between the kinds -/
theorem jd_f {f : XF} (h : JF W s e f) : JD W s e (frD f) := let ⟨t, h1, h2, h3⟩ := h; ⟨t, h1, h2.d, h3.frD⟩
theorem jf_d {f : XD} (h : JD W s e f) : JF W s e (toO f) := let ⟨t, h1, h2, h3⟩ := h; ⟨t, h1, h2.o, h3.toO⟩
theorem jp_d {f : XD} (h : JD W s e f) : JP W s e (opE f) := let ⟨t, h1, h2, h3⟩ := h; ⟨t, h1, h2.p, h3.opE⟩
theorem jv_d {f : XD} (h : JD W s e f) : JV W s e (toB f) := let ⟨t, h1, h2, h3⟩ := h; ⟨t, h1, h2.v, h3.toB⟩
theorem jd_v {f : XB} (h : JV W s e f) : JD W s e (ofB f) := let ⟨t, h1, h2, h3⟩ := h; ⟨t, h1, h2, h3.ofB⟩
theorem jb_d {f : XD} (hp : plainT e = true) (h : JD W s e f) : JB W s e (toB f) := let ⟨t, h1, h2, h3⟩ := h; ⟨_, fun X st => pt_val (h1 X st) (isT_ok hp _), h2.b', h3.toB⟩
/-! operations -/
def OpS (W : Wd) (s : Sc) (g : Value → Value → Sem Value) (u : O → O → Option O) : Prop := ∃ r : R2, (∀ X, Stat W s X → OpR X g r) ∧ BinOk W.K r u
def UnS (W : Wd) (s : Sc) (g : Value → Sem Value) (u : O → Option O) : Prop := ∃ r : V → Hp → VK → Prop, (∀ X, Stat W s X → UnR X g r) ∧ UnOk W.K r u
def IxS (W : Wd) (s : Sc) (u : O → O → Option O) : Prop := ∃ r : R2, (∀ X, Stat W s X → IxR X r) ∧ BinOk W.K r u
def SlS (W : Wd) (s : Sc) (u : O → Option Int → Option Int → Option O) : Prop := ∃ r, (∀ X, Stat W s X → SlR X r) ∧ SlOk W.K r u
def ClS (W : Wd) (s : Sc) (v : Value) (u : List O → Option O) : Prop := ∃ r, (∀ X, Stat W s X → CallR X v r) ∧ CallOk W.K r u
theorem OpS.or {g : Value → Value → Sem Value} {u u' : O → O → Option O} (h : OpS W s g u) (h' : OpS W s g u') : OpS W s g fun a b => (u a b).or (u' a b) := let ⟨r, a1, a2⟩ := h; let ⟨r', b1, b2⟩ := h'; ⟨_, fun X st => (a1 X st).or (b1 X st), a2.or b2⟩
theorem IxS.or {u u' : O → O → Option O} (h : IxS W s u) (h' : IxS W s u') : IxS W s fun a b => (u a b).or (u' a b) := let ⟨r, a1, a2⟩ := h; let ⟨r', b1, b2⟩ := h'; ⟨_, fun X st => (a1 X st).or (b1 X st), a2.or b2⟩
theorem SlS.or {u u' : O → Option Int → Option Int → Option O} (h : SlS W s u) (h' : SlS W s u') : SlS W s fun a l k => (u a l k).or (u' a l k) := let ⟨r, a1, a2⟩ := h; let ⟨r', b1, b2⟩ := h'; ⟨_, fun X st => (a1 X st).or (b1 X st), a2.or b2⟩
theorem callR_or {X : Cx} {f : Value} {r r' : List V → Hp → VK → Prop} (h : CallR X f r) (h' : CallR X f r') : CallR X f fun xs H Q => r xs H Q ∨ r' xs H Q := fun pins s σ H vs us Q I rv q => q.elim (h pins s σ H vs us Q I rv) (h' pins s σ H vs us Q I rv)
theorem ClS.or {v : Value} {u u' : List O → Option O} (h : ClS W s v u) (h' : ClS W s v u') : ClS W s v fun a => (u a).or (u' a) := let ⟨r, a1, a2⟩ := h; let ⟨r', b1, b2⟩ := h'; ⟨_, fun X st => callR_or (a1 X st) (b1 X st), a2.or b2⟩
theorem jf_bin {op : Operator} {u : O → O → Option O} {p q : XP} (ho : OpS W s (binaryOp op) u) (ha : JP W s a p) (hb : JP W s b q) : JF W s (.BinOp a op b pos) (sBin u p q) :=
  let ⟨r, h1, h2⟩ := ho; let ⟨t, a1, a2, a3⟩ := ha; let ⟨t', b1, b2, b3⟩ := hb; ⟨_, fun X st => pe_op (h1 X st) (a1 X st) (b1 X st), snd_bin a2 b2 h2, a3.bin b3⟩
theorem jf_cmp {op : CmpOp} {u : O → O → Option O} {p q : XP} (ho : OpS W s (compareOp op) u) (ha : JP W s a p) (hb : JP W s b q) (hm : behindInMarks op b = false) : JF W s (.Compare a [op] [b] pos) (sBin u p q) :=
  let ⟨r, h1, h2⟩ := ho; let ⟨t, a1, a2, a3⟩ := ha; let ⟨t', b1, b2, b3⟩ := hb; ⟨_, fun X st => pe_cmpR (h1 X st) (a1 X st) (b1 X st) hm, snd_bin a2 b2 h2, a3.bin b3⟩
theorem jb_cmp {op : CmpOp} {u : O → O → Option O} {p q : XP} (ho : OpS W s (compareOp op) u) (ha : JP W s a p) (hb : JP W s b q) (hm : behindInMarks op b = false) : JB W s (.Compare a [op] [b] pos) (toB (frD (sBin u p q))) :=
  let ⟨r, h1, h2⟩ := ho; let ⟨t, a1, a2, a3⟩ := ha; let ⟨t', b1, b2, b3⟩ := hb; ⟨_, fun X st => pt_cmpR (h1 X st) (a1 X st) (b1 X st) hm, (snd_bin a2 b2 h2).d.b, (a3.bin b3).frD.toB⟩
theorem jf_chain {op op' : CmpOp} {u u' : O → O → Option O} {p q r : XP} (ho : OpS W s (compareOp op) u) (ho' : OpS W s (compareOp op') u') (ha : JP W s a p) (hb : JP W s b q) (hc : JP W s c r) (hm : lastMarks [op, op'] [b, c] = false) : JF W s (.Compare a [op, op'] [b, c] pos) (sChain u u' p q r) :=
  let ⟨_, h1, h2⟩ := ho; let ⟨_, g1, g2⟩ := ho'; let ⟨t, a1, a2, a3⟩ := ha; let ⟨t', b1, b2, b3⟩ := hb; let ⟨t'', c1, c2, c3⟩ := hc; ⟨_, fun X st => pe_chain (h1 X st) (g1 X st) (a1 X st) (b1 X st) (c1 X st) hm, snd_chain a2 b2 c2 h2 g2, a3.chain b3 c3⟩
theorem jb_chain {op op' : CmpOp} {u u' : O → O → Option O} {p q r : XP} (ho : OpS W s (compareOp op) u) (ho' : OpS W s (compareOp op') u') (ha : JP W s a p) (hb : JP W s b q) (hc : JP W s c r) (hm : lastMarks [op, op'] [b, c] = false) : JB W s (.Compare a [op, op'] [b, c] pos) (toB (frD (sChain u u' p q r))) :=
  let ⟨_, h1, h2⟩ := ho; let ⟨_, g1, g2⟩ := ho'; let ⟨t, a1, a2, a3⟩ := ha; let ⟨t', b1, b2, b3⟩ := hb; let ⟨t'', c1, c2, c3⟩ := hc; ⟨_, fun X st => pt_chain (h1 X st) (g1 X st) (a1 X st) (b1 X st) (c1 X st) hm, (snd_chain a2 b2 c2 h2 g2).d.b, (a3.chain b3 c3).frD.toB⟩
theorem jf_un {op : UnaryOp} {u : O → Option O} {p : XP} (ho : UnS W s (unaryOp op) u) (ha : JP W s a p) : JF W s (.UnaryOp op a pos) (sUn u p) :=
  let ⟨r, h1, h2⟩ := ho; let ⟨t, a1, a2, a3⟩ := ha; ⟨_, fun X st => pe_un (h1 X st) (a1 X st), snd_un a2 h2, a3.un⟩
theorem jf_ix {u : O → O → Option O} {p q : XP} (ho : IxS W s u) (ha : JP W s a p) (hb : JP W s b q) (hx : plainX b = true) : JF W s (.Subscript a b pos) (sBin u p q) :=
  let ⟨r, h1, h2⟩ := ho; let ⟨t, a1, a2, a3⟩ := ha; let ⟨t', b1, b2, b3⟩ := hb; ⟨_, fun X st => pe_ix (h1 X st) (a1 X st) (b1 X st) (ix_ok hx), snd_bin a2 b2 h2, a3.bin b3⟩
theorem jo_none : JO W s none oNone := ⟨_, fun X st => po_none, snd_oNone, Kp.oNone⟩
theorem jo_some {f : XD} (h : JD W s e f) : JO W s (some e) (oSome f) := let ⟨t, h1, h2, h3⟩ := h; ⟨_, fun X st => po_some (h1 X st), snd_oSome h2, h3.oSome⟩
theorem jf_sl {u : O → Option Int → Option Int → Option O} {p : XP} {lo hi : Option Expr} {l k : XO} (ho : SlS W s u) (ha : JP W s a p) (hl : JO W s lo l) (hh : JO W s hi k) : JF W s (.Subscript a (.Slice lo hi none p2) pos) (sSl u p l k) :=
  let ⟨r, h1, h2⟩ := ho; let ⟨t, a1, a2, a3⟩ := ha; let ⟨t', b1, b2, b3⟩ := hl; let ⟨t'', c1, c2, c3⟩ := hh; ⟨_, fun X st => pe_slice (h1 X st) (a1 X st) (b1 X st) (c1 X st), snd_sl a2 b2 c2 h2, a3.sl b3 c3⟩
theorem jf_rev {p : XP} {k : Nat} {q1 q2 q3 : Pos} (ha : JP W s a p) : JF W s (.Subscript a (.Slice none none (some (.UnaryOp .USub (.Constant (.int 1) k q1) q2)) q3) pos) (sUn uRev p) :=
  let ⟨t, a1, a2, a3⟩ := ha; ⟨tUn (kRev W.K) t, fun X st => by have := pe_revA (k := k) (p1 := q1) (p2 := q2) (p3 := q3) (pos := pos) (a1 X st); rw [st.K] at this; exact this, snd_un a2 un_rev, a3.un⟩
/-! tests -/
theorem jb_and1 {f : XB} (h : JB W s a f) : JW W s (.BoolOp .And [a] pos) f := let ⟨t, h1, h2, h3⟩ := h; ⟨_, fun X st => pw_and1 (h1 X st), h2, h3⟩
theorem jb_or1 {f : XB} (h : JB W s a f) : JW W s (.BoolOp .Or [a] pos) f := let ⟨t, h1, h2, h3⟩ := h; ⟨_, fun X st => pw_or1 (h1 X st), h2, h3⟩
theorem jb_andc {f g : XB} (h : JB W s a f) (h' : JW W s (.BoolOp .And (b :: es) pos) g) : JW W s (.BoolOp .And (a :: b :: es) pos) (bAnd f g) := let ⟨t, h1, h2, h3⟩ := h; let ⟨t', g1, g2, g3⟩ := h'; ⟨_, fun X st => pw_and (h1 X st) (g1 X st), snd_and h2 g2, h3.band g3⟩
theorem jb_orc {f g : XB} (h : JB W s a f) (h' : JW W s (.BoolOp .Or (b :: es) pos) g) : JW W s (.BoolOp .Or (a :: b :: es) pos) (bOr f g) := let ⟨t, h1, h2, h3⟩ := h; let ⟨t', g1, g2, g3⟩ := h'; ⟨_, fun X st => pw_or (h1 X st) (g1 X st), snd_or h2 g2, h3.bor g3⟩
theorem jb_w {f : XB} (h : JW W s e f) : JB W s e f := let ⟨t, h1, h2, h3⟩ := h; ⟨_, fun X st => (h1 X st).pt, h2, h3⟩
theorem jb_not {f : XB} (h : JB W s a f) : JB W s (.UnaryOp .Not a pos) (bNot f) := let ⟨t, h1, h2, h3⟩ := h; ⟨_, fun X st => pt_not (h1 X st), snd_not h2, h3.bnot⟩
theorem jv_1 {op : PySem.BoolOp} {f : XB} (h : JV W s a f) : JV W s (.BoolOp op [a] pos) f := let ⟨t, h1, h2, h3⟩ := h; ⟨_, fun X st => pe_one (h1 X st), h2, h3⟩
theorem jv_and {f g : XB} (h : JV W s a f) (h' : JV W s (.BoolOp .And (b :: es) pos) g) : JV W s (.BoolOp .And (a :: b :: es) pos) (bAnd f g) := let ⟨t, h1, h2, h3⟩ := h; let ⟨t', g1, g2, g3⟩ := h'; ⟨_, fun X st => pe_and (h1 X st) (g1 X st), snd_andV h2 g2, h3.band g3⟩
theorem jv_or {f g : XB} (h : JV W s a f) (h' : JV W s (.BoolOp .Or (b :: es) pos) g) : JV W s (.BoolOp .Or (a :: b :: es) pos) (bOr f g) := let ⟨t, h1, h2, h3⟩ := h; let ⟨t', g1, g2, g3⟩ := h'; ⟨_, fun X st => pe_or (h1 X st) (g1 X st), snd_orV h2 g2, h3.bor g3⟩
theorem jv_not {f : XB} (h : JV W s a f) : JV W s (.UnaryOp .Not a pos) (bNot f) := let ⟨t, h1, h2, h3⟩ := h; ⟨_, fun X st => pe_not (h1 X st), snd_notV h2, h3.bnot⟩
theorem jf_if {f g : XF} {k : XB} (hc : JB W s c k) (ha : JF W s a f) (hb : JF W s b g) : JF W s (.IfExp c a b pos) (sIf k f g) :=
  let ⟨t, c1, c2, c3⟩ := hc; let ⟨t', a1, a2, a3⟩ := ha; let ⟨t'', b1, b2, b3⟩ := hb; ⟨_, fun X st => pe_ifExp (c1 X st) (a1 X st) (b1 X st), snd_if c2 a2 b2, c3.sif a3 b3⟩
/-! arguments, displays, calls -/
theorem ja_nil : JA W s [] aNil := ⟨rfl, _, fun X st => pa_nil, snd_nil, Kp.anil⟩
theorem ja_cons {p : XP} {f : XA} (hn : noStar e = true) (h : JP W s e p) (h' : JA W s es f) : JA W s (e :: es) (aCons p f) :=
  let ⟨t, h1, h2, h3⟩ := h; let ⟨g0, t', g1, g2, g3⟩ := h'; ⟨by rw [List.all_cons, hn, g0]; rfl, _, fun X st => pa_cons (h1 X st) (g1 X st) (star_ok hn _ _), snd_cons h2 g2, h3.acons g3⟩
theorem jl_nil : JL W s [] lNil := ⟨rfl, _, fun X st => pa_nil, snd_lNil, Kp.lnil⟩
theorem jl_cons {p : XF} {f : XL} (hn : noStar e = true) (h : JF W s e p) (h' : JL W s es f) : JL W s (e :: es) (lCons p f) :=
  let ⟨t, h1, h2, h3⟩ := h; let ⟨g0, t', g1, g2, g3⟩ := h'; ⟨by rw [List.all_cons, hn, g0]; rfl, _, fun X st => pa_cons (h1 X st) (g1 X st) (star_ok hn _ _), snd_lCons h2 g2, h3.lcons g3⟩
theorem jf_tup {f : XA} {k : Nat} (h : JA W s es f) : JF W s (.Tuple es k pos) (sCall uTup f) := let ⟨_, t, h1, h2, h3⟩ := h; ⟨_, fun X st => pe_tup (h1 X st), snd_call h2 call_tupD, h3.call⟩
theorem jf_lst {f : XA} (h : JA W s es f) : JF W s (.List es pos) (sCall uLst f) := let ⟨_, t, h1, h2, h3⟩ := h; ⟨_, fun X st => pe_lst (h1 X st), snd_call h2 call_lstD, h3.call⟩
theorem jf_callB {x : Str} {id : String} {u : List O → Option O} {f : XA} (hc : ClS W s (.builtin id) u) (hx : glB s x = true) (hm : W.mg x = none) (hv : bootBuiltins x = some (.builtin id)) (ha : JA W s (e :: es) f) : JF W s (.Call (.Name x p1) (e :: es) [] pos) (sCall u f) :=
  let ⟨r, h1, h2⟩ := hc; let ⟨g0, t, a1, a2, a3⟩ := ha; ⟨_, fun X st => by
    obtain ⟨n1, n2, n3⟩ := glB_ok hx st
    simp only [List.all_cons, Bool.and_eq_true] at g0
    exact pe_callB (h1 X st) n1 (by rw [st.mg]; exact hm) hv (a1 X st) n3 n2 (star_ok g0.1 _ _) (pl_ok _ g0.2), snd_call a2 h2, a3.call⟩
theorem jf_callT {x : Str} {T : String} {u : List O → Option O} {f : XA} (hc : ClS W s (.type T) u) (hx : glB s x = true) (hm : W.mg x = none) (hv : bootBuiltins x = some (.type T)) (ha : JA W s (e :: es) f) : JF W s (.Call (.Name x p1) (e :: es) [] pos) (sCall u f) :=
  let ⟨r, h1, h2⟩ := hc; let ⟨g0, t, a1, a2, a3⟩ := ha; ⟨_, fun X st => by
    obtain ⟨n1, n2, n3⟩ := glB_ok hx st
    simp only [List.all_cons, Bool.and_eq_true] at g0
    exact pe_callTy (h1 X st) n1 (by rw [st.mg]; exact hm) hv (a1 X st) n3 n2 (star_ok g0.1 _ _) (pl_ok _ g0.2), snd_call a2 h2, a3.call⟩
/-- a def of the text, as its callers know it -/
structure FnI (W : Wd) (k : Nat) (x : Str) (F : FS) : Prop where
  ex : ∃ (f : Addr) (fd : FuncData) (ps : List Str), FnOk W.P W.w W.K W.mg W.base CX0 k f fd ps (spF W.K F) ∧ W.mg x = some (.ref f) ∧ PySem.W.keepIn W.K (.ref f) = true ∧ Binds W.K fd ps []
structure FnK (W : Wd) (k : Nat) (x : Str) (F : FS) (ks : List Str) (π : List Nat) : Prop where
  ex : ∃ (f : Addr) (fd : FuncData) (ps : List Str), FnOk W.P W.w W.K W.mg W.base CX0 k f fd ps (spF W.K F) ∧ W.mg x = some (.ref f) ∧ PySem.W.keepIn W.K (.ref f) = true ∧ KBn W.K fd ps 0 ks (fun _ ws => reord π ws) (fun _ zs => reord π zs)
theorem jf_call {k : Nat} {x : Str} {F : FS} {f : XA} (hF : FnI W k x F) (hk : k ≤ W.k) (hx : glB s x = true) (ha : JA W s (e :: es) f) : JF W s (.Call (.Name x p1) (e :: es) [] pos) (callF F f) := by
  obtain ⟨fa, fd, ps, F1, F2, F3, F4⟩ := hF.ex
  obtain ⟨g0, t, a1, a2, a3⟩ := ha
  simp only [List.all_cons, Bool.and_eq_true] at g0
  refine ⟨_, fun X st => ?_, snd_callF (E := E0) a2, a3.callF⟩
  obtain ⟨n1, n2, n3⟩ := glB_ok hx st
  exact pe_call (CX := CX0) (by rw [st.prog, st.w, st.K, st.mg, st.base]; exact F1) (st.room.mono hk) n1 (by rw [st.mg]; exact F2) (by rw [st.K]; exact F3) (by rw [st.K]; exact F4) .nil pass0 (a1 X st) n2 (star_ok g0.1 _ _) (pl_ok _ g0.2)
theorem jf_call0 {k : Nat} {x : Str} {F : FS} (hF : FnI W k x F) (hk : k ≤ W.k) (hx : glB s x = true) : JF W s (.Call (.Name x p1) [] [] pos) (callF F aNil) := by
  obtain ⟨fa, fd, ps, F1, F2, F3, F4⟩ := hF.ex
  refine ⟨_, fun X st => ?_, snd_callF (E := E0) snd_nil, Kp.anil.callF⟩
  obtain ⟨n1, n2, n3⟩ := glB_ok hx st
  exact pe_call0 (CX := CX0) (by rw [st.prog, st.w, st.K, st.mg, st.base]; exact F1) (st.room.mono hk) n1 (by rw [st.mg]; exact F2) (by rw [st.K]; exact F3) (by rw [st.K]; exact F4) .nil pass0 n2
/-! iterables -/
theorem ji_range {tg : Expr} {f : XD} (hx : glB s "range" = true) (hm : W.mg "range" = none) (hn : noStar a = true) (h : JD W s a f) : JI W s tg (.Call (.Name "range" p1) [a] [] pos) (iRange f) :=
  let ⟨t, h1, h2, h3⟩ := h; ⟨rfl, _, fun X st => pi_range1 (glB_ok hx st).1 (by rw [st.mg]; exact hm) (pa_cons (h1 X st) pa_nil (star_ok hn _ _)) (star_ok hn _ _), snd_range h2, KpI.range h3⟩
theorem ji_range2 {tg : Expr} {f g : XD} (hx : glB s "range" = true) (hm : W.mg "range" = none) (hn : noStar a = true) (hn' : noStar b = true) (h : JD W s a f) (h' : JD W s b g) : JI W s tg (.Call (.Name "range" p1) [a, b] [] pos) (iRange2 f g) :=
  let ⟨t, h1, h2, h3⟩ := h; let ⟨t', g1, g2, g3⟩ := h'; ⟨rfl, _, fun X st => pi_range2 (glB_ok hx st).1 (by rw [st.mg]; exact hm) (pa_cons (h1 X st) (pa_cons (g1 X st) pa_nil (star_ok hn' _ _)) (star_ok hn _ _)) (by rw [star_ok hn, star_ok hn']; rfl) (by rw [star_ok hn']; rfl), snd_range2 h2 g2, KpI.range2 h3 g3⟩
theorem ji_seq {tg : Expr} {f : XD} (hp : plainI e = true) (h : JD W s e f) : JI W s tg e (iSeq f) :=
  let ⟨t, h1, h2, h3⟩ := h; ⟨hp, iSeqT W.K t, fun X st => by have := pi_seq (tg := tg) (h1 X st); rw [st.K] at this; exact this, snd_seqI h2, KpI.seq h3⟩
theorem ji_var {tg : Expr} (i : Nat) {x : Str} (h : visB s i x = true) : JI W s tg (.Name x pos) (iVar i) :=
  ⟨rfl, iSeqT W.K (tVar i), fun X st => by
    obtain ⟨h1, h2, h3, h4⟩ := visB_ok h st
    have := pi_seq (tg := tg) (pe_var (pos := pos) h1 h2 h3 h4); rw [st.K] at this; exact this, snd_varI i, KpI.var i⟩
/-! targets -/
theorem jg_n (i : Nat) {x : Str} (hN : s.N.Nodup) (h : locB s i x = true) : JG W s (.Name x pos) [i] (gN i) := ⟨_, fun X st => by
  unfold locB at h
  simp only [Bool.and_eq_true, decide_eq_true_eq] at h
  have hl : X.env.scope.names.lookup x = some .local := by rw [st.sc]; exact isK_eq h.2
  exact pg_name (by rw [st.N]; exact hN) (by rw [st.N]; exact h.1) (.inl hl) (.inr hl), snd_gN i, KpG.n i⟩
theorem jg_c (i : Nat) {x : Str} (hN : s.N.Nodup) (hd : s.df = true) (h : setB s i x = true) : JG W s (.Name x pos) [i] (gN i) := ⟨_, fun X st => by
  unfold setB at h
  simp only [Bool.and_eq_true, Bool.or_eq_true, decide_eq_true_eq] at h
  refine pg_name (by rw [st.N]; exact hN) (by rw [st.N]; exact h.1) ?_ (.inl (st.fn hd x))
  unfold L2.Loc
  rw [st.sc]
  exact h.2.imp isK_eq isK_eq, snd_gN i, KpG.n i⟩
theorem jgs_nil : JGs W s [] 0 [] gsNil := ⟨rfl, rfl, _, fun X st => pgs_nil, snd_gsNil, KpGs.nil⟩
theorem jgs_cons {n : Nat} {tg tg' : List Nat} {g : XG} {f : XGs} (hn : noStar e = true) (h : JG W s e tg g) (h' : JGs W s es n tg' f) : JGs W s (e :: es) (n + 1) (tg ++ tg') (gsCons g f) :=
  let ⟨t, h1, h2, h3⟩ := h; let ⟨g0, gl, t', g1, g2, g3⟩ := h'; ⟨by rw [List.all_cons, hn, g0]; rfl, by rw [List.length_cons, gl], _, fun X st => pgs_cons (h1 X st) (g1 X st) (by rw [asgE_ok hn]; rfl), snd_gsCons h2 g2, KpGs.cons h3 g3⟩
theorem asgE_len : ∀ {es : List Expr} (env : Env), es.all noStar = true → (assignEach es env).length = es.length ∧ (assignEach es env).findIdx? (·.1) = none
  | [], _, _ => ⟨rfl, rfl⟩
  | e :: es, env, h => by
    simp only [List.all_cons, Bool.and_eq_true] at h
    obtain ⟨h1, h2⟩ := asgE_len env h.2
    rw [asgE_ok h.1]
    refine ⟨by simp [h1], ?_⟩
    rw [List.findIdx?_cons]
    simp [h2]
theorem jg_tup {n k : Nat} {tg : List Nat} {f : XGs} (h : JGs W s es n tg f) : JG W s (.Tuple es k pos) tg (gTup n f) :=
  let ⟨g0, gl, t, h1, h2, h3⟩ := h; ⟨L2.gTup W.K n t, fun X st => by
    obtain ⟨l1, l2⟩ := asgE_len X.env g0
    have := pg_tup (k := k) (pos := pos) (n := n) st.calm (h1 X st) (l1.trans gl) l2
    rw [st.K] at this; exact this, snd_gTup h2, KpG.tup h3⟩
/-! comprehensions -/
theorem jbs_nil : JBs W s [] (fun ρ => some (true, ρ)) := ⟨_, fun X st => pts_nil, fun anc ρ c ρ' e σ S H fp ok Q q => by
  cases e
  exact q S H fp ok (Aft.refl fun _ h => h), fun ρ c ρ' e i b hb hf => by cases e; exact hb⟩
theorem jbs_one {f : XB} (h : JB W s e f) : JBs W s [e] f := let ⟨t, h1, h2, h3⟩ := h; ⟨_, fun X st => pts_one (h1 X st), h2, h3⟩
theorem jf_lc {elt tg iter : Expr} {ifs : List Expr} {scope : Scope} (own : List (Str × Nat)) {it : XI} {vs tgs : List Nat} {g : XG} {f : XB} {x : XF} (hN : s.N.Nodup) (hv : vs = own.map (·.2)) (hb : blkC s.N s.sc scope own = true) (hi : JI W s tg iter it)
    (hg : JG W (s.sub scope) tg tgs g) (hc : JBs W (s.sub scope) ifs f) (he : JF W (s.sub scope) elt x) (ht : (tgs.all fun j => vs.contains j) = true) (nd : vs.Nodup) :
    JF W s (.ListComp elt [⟨tg, iter, ifs, 0⟩] scope pos) (sComp it vs g f x) := by
  subst hv
  obtain ⟨i0, ti, i1, i2, i3⟩ := hi
  obtain ⟨tg', g1, g2, g3⟩ := hg
  obtain ⟨tc, c1, c2, c3⟩ := hc
  obtain ⟨te, e1, e2, e3⟩ := he
  refine ⟨_, fun X st => pe_lc st.calm (by rw [st.N]; exact hN) (i1 X st) (blkOk_by (by rw [st.N, st.sc]; exact hb)) (fun t H C cl fp => g1 _ (st.sub scope t H C cl fp)) (fun t H C cl fp => c1 _ (st.sub scope t H C cl fp)) (fun t H C cl fp => e1 _ (st.sub scope t H C cl fp)) (fs_ok' i0 _), snd_comp i2 g2 (fun j hj => ?_) g3 c2 c3 e2 e3 nd, Kp.comp i3 g3 c3 e3⟩
  have := List.all_eq_true.mp ht j hj
  simpa using this
/-! statements -/
theorem jss_nil : JSs W s [] xNext := ⟨_, fun X st => pss_nil, snd_next, KpS.next⟩
theorem jss_one {st : Stmt} {f : XS} (h : JS W s st f) : JSs W s [st] f := let ⟨t, h1, h2, h3⟩ := h; ⟨_, fun X st => pss_one (h1 X st), h2, h3⟩
theorem jss_cons {st : Stmt} {r : List Stmt} {f g : XS} (h : JS W s st f) (h' : JSs W s r g) : JSs W s (st :: r) (xSeq f g) := let ⟨t, h1, h2, h3⟩ := h; let ⟨t', g1, g2, g3⟩ := h'; ⟨_, fun X st => pss_cons (h1 X st) (g1 X st), snd_seq h2 g2, h3.seq g3⟩
theorem js_pass : JS W s (.Pass pos) xNext := ⟨_, fun X st => ps_pass, snd_next, KpS.next⟩
theorem js_break : JS W s (.Break pos) xBreak := ⟨_, fun X st => ps_break, snd_break, KpS.break⟩
theorem js_cont : JS W s (.Continue pos) xCont := ⟨_, fun X st => ps_continue, snd_cont, KpS.cont⟩
theorem js_never {st : Stmt} : JS W s st xNever := ⟨_, fun X _ => ps_never, snd_never, KpS.never⟩
theorem js_expr {f : XF} (hw : plainW e = true) (h : JF W s e f) : JS W s (.Expr e pos) (xDrop f) := let ⟨t, h1, h2, h3⟩ := h; ⟨_, fun X st => ps_expr (h1 X st) (sw_ok hw _ _ _), snd_drop h2, KpS.drop h3⟩
theorem js_ret {f : XF} (h : JF W s e f) : JS W s (.Return (some e) pos) (xRet f) := let ⟨t, h1, h2, h3⟩ := h; ⟨_, fun X st => ps_ret (h1 X st), snd_ret h2, KpS.ret h3⟩
theorem js_retN : JS W s (.Return none pos) xRetN := ⟨_, fun X st => ps_retN, snd_retN, KpS.retN⟩
theorem js_if {x y : List Stmt} {k : XB} {f g : XS} (hc : JB W s c k) (ha : JSs W s x f) (hb : JSs W s y g) : JS W s (.If c x y pos) (xIf k f g) :=
  let ⟨t, c1, c2, c3⟩ := hc; let ⟨t', a1, a2, a3⟩ := ha; let ⟨t'', b1, b2, b3⟩ := hb; ⟨_, fun X st => ps_if (c1 X st) (a1 X st) (b1 X st), snd_ifS c2 a2 b2, KpS.ifS c3 a3 b3⟩
theorem js_set (i : Nat) {x : Str} {f : XF} (hN : s.N.Nodup) (hd : s.df = true) (hx : setB s i x = true) (hw : plainW e = true) (h : JF W s e f) : JS W s (.Assign [.Name x p1] e pos) (xAsg f (gN i)) :=
  let ⟨t, h1, h2, h3⟩ := h; ⟨_, fun X st => by
    unfold setB at hx
    simp only [Bool.and_eq_true, Bool.or_eq_true, decide_eq_true_eq] at hx
    refine ps_set (by rw [st.N]; exact hN) (by rw [st.N]; exact hx.1) ?_ (h1 X st) (sw_ok hw _ _ _) (.inl (st.fn hd x))
    unfold L2.Loc
    rw [st.sc]
    exact hx.2.imp isK_eq isK_eq, snd_asg h2 (snd_gN i), KpS.asg h3 (KpG.n i)⟩
theorem js_par {x y : Str} (i j : Nat) {px py pt : Pos} {kt k2 : Nat} {pt2 : Pos} {f : XL} (hN : s.N.Nodup) (hk : s.sc.kind = .function) (hx : locB s i x = true) (hy : locB s j y = true) (hij : i ≠ j) (h : JL W s [a, b] f)
    (hw : ∀ env : Env, env.blockKind = .function → env.kindOf x = some .local → env.kindOf y = some .local → swappedStores [.Tuple [.Name x px, .Name y py] kt pt] (.Tuple [a, b] k2 pt2) env = pure (some [x, y])) :
    JS W s (.Assign [.Tuple [.Name x px, .Name y py] kt pt] (.Tuple [a, b] k2 pt2) pos) (xPar i j f) := by
  obtain ⟨g0, t, h1, h2, h3⟩ := h
  unfold locB at hx hy
  simp only [Bool.and_eq_true, decide_eq_true_eq] at hx hy
  refine ⟨_, fun X st => ?_, snd_par h2, KpS.par h3⟩
  have lx : X.env.scope.names.lookup x = some .local := by rw [st.sc]; exact isK_eq hx.2
  have ly : X.env.scope.names.lookup y = some .local := by rw [st.sc]; exact isK_eq hy.2
  have bk : X.env.blockKind = .function := by unfold Env.blockKind; rw [st.sc, hk]; rfl
  exact ps_par st.calm (by rw [st.N]; exact hN) (by rw [st.N]; exact hx.1) (by rw [st.N]; exact hy.1) hij lx ly (h1 X st) (hw _ bk lx ly) rfl
/-- a, b = e: any other way -/
theorem js_asgT {tgs : List Nat} {k : Nat} {g : XG} {f : XF} (hw : plainW e = true) (hs : ∀ env : Env, (∀ x, env.kindOf x = s.sc.names.lookup x) → swappedStores [.Tuple es k p1] e env = pure none) (hg : JG W s (.Tuple es k p1) tgs g) (h : JF W s e f) : JS W s (.Assign [.Tuple es k p1] e pos) (xAsg f g) :=
  let ⟨t, h1, h2, h3⟩ := h; let ⟨t', g1, g2, g3⟩ := hg; ⟨_, fun X st => ps_asg (h1 X st) (g1 X st) (by unfold swapsWithSole; exact sw_ok hw _ _ _) (hs _ fun x => by show X.env.scope.names.lookup x = _; rw [st.sc]) rfl, snd_asg h2 g2, KpS.asg h3 g3⟩
theorem js_for {tg iter : Expr} {body : List Stmt} {tgs : List Nat} {it : XI} {g : XG} {f : XS} (hi : JI W s tg iter it) (hg : JG W s tg tgs g) (hb : JSs W s body f) : JS W s (.For tg iter body [] pos) (xFor it g f) :=
  let ⟨i0, t, i1, i2, i3⟩ := hi; let ⟨t', g1, g2, g3⟩ := hg; let ⟨t'', b1, b2, b3⟩ := hb; ⟨_, fun X st => ps_for (by rw [st.xe]; exact PassesOwn.never) st.calm (i1 X st) (g1 X st) (b1 X st) (fs_ok' i0 _), snd_for i2 g2 g3 b2 b3, KpS.for i3 g3 b3⟩
theorem js_while {body : List Stmt} (n : Nat) {k : XB} {f : XS} (hc : JB W s c k) (hb : JSs W s body f) : JS W s (.While c body [] pos) (xWhile n k f) :=
  let ⟨t, c1, c2, c3⟩ := hc; let ⟨t'', b1, b2, b3⟩ := hb; ⟨_, fun X st => ps_while (by rw [st.xe]; exact PassesOwn.never) (c1 X st) (b1 X st), snd_while c2 b2, KpS.while c3 b3⟩
end PL

namespace PySem
open Sem (wp)
theorem plMeetsEnum {v : Value} {o : Obj} {G : Heap → Prop} (B : Begins v o G) :
    Meets (Builtin.«enumerate.__new__» ⟨[.type "enumerate", v], []⟩) (fun _ R s => G s.heap ∧
      R (.ok (.ret (.ref (s.heap.push o).objs.size))) { s with heap := (s.heap.push o).push { cls := .type "enumerate", data := .fields #[.none, .bool false, .ref s.heap.objs.size, rawInt 0, .none, .none] } }) :=
  .of_wp fun prog w A R s h => by
    obtain ⟨hp, g, d, tk, os⟩ := s
    obtain ⟨hG, h⟩ := h
    have hsub := sub_enumerate
    have q1 : ∀ {A' : Around} {E : Value → Shared → Prop} {Q : Value → Shared → Prop}, Q (.ref hp.objs.size) ⟨(hp.push o), g, d, tk, os⟩ → wpAny (model prog w) A' (pyIter v) Q E ⟨hp, g, d, tk, os⟩ :=
      fun q => B.iter prog w _ _ ⟨hp, g, d, tk, os⟩ _ hG q
    wp_walk
    refine wpAny_stack_any fun st => wpAny_pure ?_
    split
    · rename_i c _ _ _ _ _
      cases (c == Value.type "enumerate")
      · wp_walk using q1
        exact ⟨_, rfl, h⟩
      · wp_walk using q1
        exact ⟨_, rfl, h⟩
    · wp_walk using q1
      exact ⟨_, rfl, h⟩
theorem plCallEnum {prog : Program} {w : World} {A : Around} {E : Value → Shared → Prop} {s : Shared} {v : Value} {o : Obj} {G : Heap → Prop} {Q : Value → Shared → Prop} (B : Begins v o G) (hG : G s.heap)
    (h : ∀ h', IsEnum h' (s.heap.objs.size + 1) s.heap.objs.size 0 .none → h'.get? s.heap.objs.size = some o → (∀ b o, s.heap.get? b = some o → h'.get? b = some o) → Q (.ref (s.heap.objs.size + 1)) { s with heap := h' }) :
    wpAny (model prog w) A (call (.type "enumerate") [v]) Q E s := by
  refine callType_new F.called_enumerate (by decide) (F.typeCall_enumerate_1 _) (F.newCall_enumerate_1 _) (fun obj => F.args_object_init_2 obj _) F.entry_enumerate_new (plMeetsEnum B) ⟨hG, ?_⟩
  have hz : (s.heap.push o).objs.size = s.heap.objs.size + 1 := Heap.size_push ..
  show _ ∧ _
  rw [hz]
  have he : IsEnum ((s.heap.push o).push { cls := .type "enumerate", data := .fields #[.none, .bool false, .ref s.heap.objs.size, rawInt 0, .none, .none] }) (s.heap.objs.size + 1) s.heap.objs.size 0 .none := by
    have := Heap.get?_push_size (s.heap.push o) (o := { cls := .type "enumerate", data := .fields #[.none, .bool false, .ref s.heap.objs.size, rawInt 0, .none, .none] }) rfl
    rw [hz] at this
    exact this
  exact ⟨⟨_, he, rfl⟩, h _ he (Heap.get?_push_of_some _ (Heap.get?_push_size _ B.free)) fun b o' x => Heap.get?_push_of_some _ (Heap.get?_push_of_some _ x)⟩
end PySem
namespace PL
open PySem PySem.Spec PyProof.Rows L2
variable {K : Frag} {S S' S1 S2 H H' H1 H2 : Hp}
/-- enumerate over a tuple -/
def Iteu (K : Frag) (a : Addr) : It :=
  ⟨fun i H => ∃ (xs : List V) (x : V), SqT K H a xs ∧ xs[i]? = some x, fun i H v H' => ∃ T x, v = .ref T ∧ H T = none ∧ H' = upd H T (.tup [.int (i : Nat), x]) ∧ ∀ xs, SqT K H a xs → xs[i]? = some x, fun i H => ∃ xs : List V, SqT K H a xs ∧ xs.length ≤ i⟩
theorem turn_enumT {P : Program} {w : World} {K : Frag} {elts : List Expr} {kk : Nat} {tpos : Pos} (a e it : Addr) (hne : e ≠ it) (hai : a ≠ it) :
    Turn P w K (.Tuple elts kk tpos) (Iteu K a) [e, it] e (fun i h => (∃ old, IsEnum h e it ((i : Nat) : Int) old) ∧ h.IsTupleIter it a i) where
  mem := by simp
  obj := fun i h st b hb => by
    obtain ⟨⟨old, he⟩, o, ho, hc, hd⟩ := st
    have e' : b = e ∨ b = it := by simpa using hb
    rcases e' with rfl | rfl
    · exact ⟨_, he, fun v q => nomatch q⟩
    · exact ⟨o, ho, fun v q => by rw [hd] at q; cases q⟩
  keep := fun i h h' st k => let ⟨⟨old, he⟩, hi⟩ := st; ⟨⟨old, k e (by simp) _ he⟩, hi.at fun o q => k it (by simp) o q⟩
  item := by
    intro X hP hw hK hc i pins s σ H E I hf st hg
    subst hP hw hK
    obtain ⟨⟨old, he⟩, hit⟩ := st
    obtain ⟨xs, x, hq, hx⟩ := hg
    obtain ⟨its, rv, p, hz⟩ := I.tuple hq
    obtain ⟨u, hu, ru⟩ := rv.get hx
    have hel : e < s.heap.objs.size := Heap.lt_size he
    have hil : it < s.heap.objs.size := by obtain ⟨_, q, _⟩ := hit; exact Heap.lt_size q
    have pt : s.heap.IsTuple a its.toArray := p
    have hae : a ≠ e := fun z => by
      subst z
      obtain ⟨o, ho, hcl, _⟩ := pt
      rw [he] at ho; cases ho
      exact absurd (Value.type.inj hcl) (by decide)
    have ilt : i < its.toArray.size := by
      have := (List.getElem?_eq_some_iff.mp hu).1
      simpa using this
    have D := Draws.tuple (prog := X.prog) (w := X.w) (A := X.A.in1) (I.ok.hd hc) it a hai its.toArray
    refine wpAny_pyNext_enum_itemD D he ⟨hit, pt⟩ ilt hne (by simp [hne, Ne.symm hae]) fun y h' tk hy ho st' hT hsz hk => ?_
    have hyu : y = u := by
      have h1 : its.toArray[i]? = some y := hy
      rw [List.getElem?_toArray, hu] at h1; cases h1; rfl
    subst hyu
    obtain ⟨hit', pt'⟩ := st'
    refine ⟨_, rfl, wpAny_letOwnedTupleGo_enum (s := { s with heap := h', toks := tk + 1 }) ho fun h'' he' sb => ?_⟩
    have hT2 : h''.get? s.heap.objs.size = some { cls := .type "tuple", data := .seq #[.int i tk, y] } := (sb.2 _ (Nat.ne_of_gt hel)).trans hT
    have new : ObjOk X.prog X.w (upd H s.heap.objs.size (.tup [.int (i : Nat), x])) h'' s.heap.objs.size (.tup [.int (i : Nat), x]) :=
      ⟨by show 2 ≤ sizeLine; decide, [.int i tk, y], .cons ⟨_, rfl⟩ (.cons ru .nil), ⟨_, hT2, rfl, _, rfl⟩⟩
    have I1 : Inv X pins σ (upd H s.heap.objs.size (.tup [.int (i : Nat), x])) { s with heap := h'', toks := tk + 1 } :=
      I.turnedNew (ch := [e, it]) (fun b ob hb q => (sb.2 b (fun z => hb (by simp [z]))).trans (hk b ob (fun z => hb (by simp [z])) (fun z => hb (by simp [z])) q)) hf (Nat.le_refl _) new
    refine ⟨.ref s.heap.objs.size, _, I1, rfl, ⟨_, x, rfl, I.hok.fresh (Nat.le_refl _), rfl, fun ys hy => by rw [I.tuple_inj hy hq]; exact hx⟩, ⟨⟨y, ?_⟩, hit'.at fun o q => (sb.2 it (Ne.symm hne)).trans q⟩, fun b hb => ?_⟩
    · have e1 : ((i + 1 : Nat) : Int) = (i : Int) + 1 := by omega
      rw [e1]; exact he'
    · have hb' : b < s.heap.objs.size := by
        have e' : b = e ∨ b = it := by simpa using hb
        rcases e' with rfl | rfl
        · exact hel
        · exact hil
      rw [upd_ne (Nat.ne_of_lt hb')]
      exact (hf b hb).1
  done := by
    intro X hP hw hK hc i pins s σ H E I hf st hg
    subst hP hw hK
    obtain ⟨⟨old, he⟩, hit⟩ := st
    obtain ⟨xs, hq, hx⟩ := hg
    obtain ⟨its, rv, p, hz⟩ := I.tuple hq
    obtain ⟨f0, f1, f2, f3, f4, f5⟩ := hf it (by simp)
    have hl := rv.length
    have pt : s.heap.IsTuple a its.toArray := p
    have hT : s.TypeIs (.ref e) "enumerate" := ⟨_, he, rfl⟩
    unfold pyNext
    refine wpAny_bind (wpAny_attempt (wpAny_callSpecial?_slot (name := Str.ofString "__next__") hT F.slot_enumerate_next
      (wpAny_call_entry F.slot_enumerate_next hT F.entry_enumerate_next ?_ (F.args_enumerate_next_1 _))))
    show wpAny _ _ (field (.ref e) 2 >>= _) _ _ _
    refine wpAny_bind (wpAny_field he rfl (x := .ref it) rfl ?_)
    refine wpAny_bind (wpAny_nextOf_tuple_end (I.ok.hd hc) hit pt (by simp; omega) fun h' x eb hx' => ?_)
    obtain ⟨o, ho, hc'⟩ := hx'
    refine wpAny_bind (wpAny_isInstance (T := "StopIteration") (b := true) ⟨o, ho, hc'⟩ isSubtype_stop ?_)
    refine wpAny_pure ⟨rfl, I.turned (t' := s.toks) (fun b o hb q => eb b o hb q) f0 f1 f3 f4 f5⟩
  self := fun A i s Q E st h => let ⟨⟨_, he⟩, _⟩ := st; wpAny_pyIter_enum he h
def iEnumT (K : Frag) (ta : TE) : TI := fun σ H R => ta σ H fun x H1 => ∃ a xs, x = .ref a ∧ ((SqL K H1 a xs ∧ R (Ite K a) H1) ∨ (SqT K H1 a xs ∧ R (Iteu K a) H1))
theorem pi_enumA {X : Cx} {e : Expr} {ta : TE} {p pos tpos : Pos} {elts : List Expr} {kk : Nat} (hg : Gl X "enumerate") (hm : X.mg "enumerate" = none) (ha : PE X e ta) (hn : noStar e = true) :
    PI X (.Tuple elts kk tpos) (.Call (.Name "enumerate" p) [e] [] pos) (iEnumT X.K ta) := by
  refine ⟨fun pins s σ H R I h => ?_⟩
  refine Call_ (ld_blt I hg hm boot_enumerate (PyProof.Rows.callWith_type1 (one_arg ha I h (fun v s1 x H1 I1 r1 q1 => ?_) (star_ok hn _ _)) (star_ok hn _ _) rfl))
  obtain ⟨a, xs, ex, q⟩ := q1
  subst ex
  obtain rfl : v = .ref a := r1
  have fpo : ∀ b ∈ [s1.heap.objs.size + 1, s1.heap.objs.size], FpOk X pins H1 b := fun b hb => by
    have e' : b = s1.heap.objs.size + 1 ∨ b = s1.heap.objs.size := by simpa using hb
    have hle : s1.heap.objs.size ≤ b := by omega
    exact I1.fpOk hle (I1.hok.fresh hle)
  rcases q with ⟨hq, q⟩ | ⟨hq, q⟩
  · obtain ⟨its, rv, p', hz⟩ := I1.list hq
    refine call_enumerate_list p'.isList fun h' he hit hsz hk => wpAny_pyIter_enum he ?_
    have I2 : Inv X pins σ H1 { s1 with heap := h' } := I1.kept (t' := s1.toks) hk
    exact ⟨s1.heap.objs.size + 1, [s1.heap.objs.size + 1, s1.heap.objs.size], _, _, H1, rfl, I2, turn_enum a (s1.heap.objs.size + 1) s1.heap.objs.size, ⟨⟨.none, he⟩, hit, Nat.succ_ne_self _⟩, fpo, q⟩
  · obtain ⟨its, rv, p', hz⟩ := I1.tuple hq
    have pt : s1.heap.IsTuple a its.toArray := p'
    refine plCallEnum (begins_tuple a its.toArray) pt fun h' he ho hk => wpAny_pyIter_enum he ?_
    have I2 : Inv X pins σ H1 { s1 with heap := h' } := I1.kept (t' := s1.toks) hk
    have hlt : a < s1.heap.objs.size := by obtain ⟨o, e1, _⟩ := pt; exact Heap.lt_size e1
    exact ⟨s1.heap.objs.size + 1, [s1.heap.objs.size + 1, s1.heap.objs.size], _, _, H1, rfl, I2, turn_enumT a (s1.heap.objs.size + 1) s1.heap.objs.size (Nat.succ_ne_self _) (Nat.ne_of_lt hlt), ⟨⟨.none, he⟩, ⟨_, ho, rfl, rfl⟩⟩, fpo, q⟩
def enumD : Nat → List D → List D
  | _, [] => []
  | k, d :: ds => .tuple [.int (k : Nat), d] :: enumD (k + 1) ds
theorem enumD_get : ∀ (ds : List D) (k j : Nat), (enumD k ds)[j]? = (ds[j]?).map fun d => .tuple [.int ((k + j : Nat)), d]
  | [], k, j => by simp [enumD]
  | d :: ds, k, 0 => by simp [enumD]
  | d :: ds, k, j + 1 => by
    simp only [enumD, List.getElem?_cons_succ]
    rw [enumD_get ds (k + 1) j]
    have : k + 1 + j = k + (j + 1) := by omega
    rw [this]
theorem enumD_len : ∀ (ds : List D) (k : Nat), (enumD k ds).length = ds.length
  | [], k => rfl
  | d :: ds, k => by simp [enumD, enumD_len ds]
def iEnum (f : XD) : XI := fun ρ => match f ρ with
  | some (.list ds, ρ1) => some (⟨enumD 0 ds, none⟩, ρ1)
  | some (.tuple ds, ρ1) => some (⟨enumD 0 ds, none⟩, ρ1)
  | _ => none
theorem iEnum_some {f : XD} {ρ ρ1 : Ev} {x : ItD} (e : iEnum f ρ = some (x, ρ1)) : ∃ ds, (f ρ = some (.list ds, ρ1) ∨ f ρ = some (.tuple ds, ρ1)) ∧ x = ⟨enumD 0 ds, none⟩ := by
  unfold iEnum at e
  split at e
  · cases e; exact ⟨_, .inl (by assumption), rfl⟩
  · cases e; exact ⟨_, .inr (by assumption), rfl⟩
  · cases e
theorem pair_yld {k : Nat} {d : D} {T : Addr} {w : V} (hs : Same S H) (hT : H T = none) (r : Rep K S d w) : ∃ S', Same S' (upd H T (.tup [.int (k : Nat), w])) ∧ Rep K S' (.tuple [.int (k : Nat), d]) (.ref T) ∧ Aft [] S H [] S' (upd H T (.tup [.int (k : Nat), w])) := by
  refine Gives.tup (K := K) (ds := [.int (k : Nat), d]) (Q := fun v H' => ∃ S', Same S' H' ∧ Rep K S' (.tuple [.int (k : Nat), d]) v ∧ Aft [] S H [] S' H') (fun v S' H' fo ro sm nd a => ?_) hs hT (.cons (.int _) (.cons r .nil))
  cases ro with
  | sh h => exact ⟨S', sm, h, a⟩
theorem itOk_enumL {a : Addr} {vs : List V} {ds : List D} {anc : Nat → Option V} {S0 : Hp} (h1 : SqL K S0 a vs) (h2 : Reps K S0 ds vs) : ItOk K (Ite K a) ⟨enumD 0 ds, none⟩ anc S0 := fun k S H ρ σ fp ok sub _ => by
  have hq : SqL K H a vs := sqL_mono (sub.trans ok.sub) h1
  refine ⟨fun h => ⟨vs, hq, by rw [← h2.length]; rw [← enumD_len ds 0]; exact h⟩, fun d hd => ?_⟩
  rw [enumD_get, Option.map_eq_some_iff] at hd
  obtain ⟨d0, hd0, rfl⟩ := hd
  obtain ⟨v, e1, r⟩ := h2.get hd0
  refine ⟨⟨vs, v, hq, e1⟩, fun x H' hy => ?_⟩
  obtain ⟨T, y, rfl, hT, rfl, hy⟩ := hy
  have : y = v := by have := hy vs hq; rw [e1] at this; cases this; rfl
  subst this
  rw [Nat.zero_add]
  exact pair_yld ok.sub hT (r.mono sub)
theorem itOk_enumT {a : Addr} {vs : List V} {ds : List D} {anc : Nat → Option V} {S0 : Hp} (h1 : SqT K S0 a vs) (h2 : Reps K S0 ds vs) : ItOk K (Iteu K a) ⟨enumD 0 ds, none⟩ anc S0 := fun k S H ρ σ fp ok sub _ => by
  have hq : SqT K H a vs := sqT_mono (sub.trans ok.sub) h1
  refine ⟨fun h => ⟨vs, hq, by rw [← h2.length]; rw [← enumD_len ds 0]; exact h⟩, fun d hd => ?_⟩
  rw [enumD_get, Option.map_eq_some_iff] at hd
  obtain ⟨d0, hd0, rfl⟩ := hd
  obtain ⟨v, e1, r⟩ := h2.get hd0
  refine ⟨⟨vs, v, hq, e1⟩, fun x H' hy => ?_⟩
  obtain ⟨T, y, rfl, hT, rfl, hy⟩ := hy
  have : y = v := by have := hy vs hq; rw [e1] at this; cases this; rfl
  subst this
  rw [Nat.zero_add]
  exact pair_yld ok.sub hT (r.mono sub)
theorem snd_enum {t : TE} {f : XD} (h : SndD K t f) : SndI K (iEnumT K t) (iEnum f) := fun anc ρ x ρ1 e σ S H fp ok R q => by
  obtain ⟨ds, e1 | e1, rfl⟩ := iEnum_some e
  · refine h anc ρ _ ρ1 e1 σ S H fp ok _ fun v S' H' fp' ok' r a => ?_
    obtain ⟨l, vs, rfl, h1, h2⟩ := r.lst_inv
    exact ⟨l, vs, rfl, .inl ⟨sqL_mono ok'.sub h1, q _ S' H' fp' none ok' a (itOk_enumL h1 h2) trivial trivial⟩⟩
  · refine h anc ρ _ ρ1 e1 σ S H fp ok _ fun v S' H' fp' ok' r a => ?_
    obtain ⟨l, vs, rfl, h1, h2⟩ := r.tup_inv
    exact ⟨l, vs, rfl, .inr ⟨sqT_mono ok'.sub h1, q _ S' H' fp' none ok' a (itOk_enumT h1 h2) trivial trivial⟩⟩
theorem KpI.enum {f : XD} (k : Kp f) : KpI (iEnum f) := fun ρ x ρ1 e => by
  obtain ⟨n, e1 | e1, rfl⟩ := iEnum_some e
  · exact ⟨trivial, fun i b hb hf => .inr ⟨fun c z => (by cases z), k _ _ _ e1 i b hb hf⟩⟩
  · exact ⟨trivial, fun i b hb hf => .inr ⟨fun c z => (by cases z), k _ _ _ e1 i b hb hf⟩⟩
theorem ji_enum {W : Wd} {s : Sc} {e : Expr} {p pos tpos : Pos} {elts : List Expr} {kk : Nat} {f : XD} (hx : glB s "enumerate" = true) (hm : W.mg "enumerate" = none) (hn : noStar e = true) (h : JD W s e f) : JI W s (.Tuple elts kk tpos) (.Call (.Name "enumerate" p) [e] [] pos) (iEnum f) :=
  let ⟨t, h1, h2, h3⟩ := h; ⟨rfl, iEnumT W.K t, fun X st => by have := pi_enumA (elts := elts) (kk := kk) (tpos := tpos) (p := p) (pos := pos) (glB_ok hx st).1 (by rw [st.mg]; exact hm) (h1 X st) hn; rw [st.K] at this; exact this, snd_enum h2, KpI.enum h3⟩
end PL

namespace PL
open PySem PySem.Spec PyProof.Rows L2
variable {W : Wd} {s : Sc} {e a b c : Expr} {es : List Expr} {pos p1 p2 : Pos}
def isTupE : Expr → Bool
  | .Tuple _ _ _ => true
  | _ => false
theorem swaps_val {ts : List Expr} {kt : Nat} {pt : Pos} {e : Expr} (h : isTupE e = false) (env : Env) : swappedStores [.Tuple ts kt pt] e env = pure none := by
  cases e <;> first | rfl | cases h
def nmE : Expr → Option (Str × Pos)
  | .Name x p => some (x, p)
  | _ => none
theorem swaps_cell {ts vs : List Expr} {kt kv : Nat} {pt pv : Pos} {env : Env} {x : Str} {p : Pos} (hm : Expr.Name x p ∈ ts) (hx : env.kindOf x ≠ some .local) : swappedStores [.Tuple ts kt pt] (.Tuple vs kv pv) env = pure none := by
  unfold swappedStores
  simp only []
  split
  · rfl
  · split
    · rfl
    · have key : ∀ (f : Expr → Option Str) (l : List Expr), (Expr.Name x p) ∈ l → f (.Name x p) = none → (l.filterMap f).length ≠ l.length := by
        intro f l
        induction l with
        | nil => intro h; simp at h
        | cons y l ih =>
          intro h hf
          rcases List.mem_cons.mp h with rfl | h
          · rw [List.filterMap_cons_none hf]
            have := List.length_filterMap_le f l
            simp only [List.length_cons]; omega
          · cases e : f y with
            | none =>
              rw [List.filterMap_cons_none e]
              have := List.length_filterMap_le f l
              simp only [List.length_cons]; omega
            | some z =>
              rw [List.filterMap_cons_some e]
              simp only [List.length_cons]
              have := ih h hf
              omega
      refine if_pos ?_
      simp only [Bool.or_eq_true, bne_iff_ne]
      refine .inl (key _ _ hm ?_)
      have : (env.kindOf x == some NameKind.local) = false := by simpa using hx
      simp [this]
def isStarE : Expr → Bool
  | .Starred _ _ => true
  | _ => false
def parC (vs : List Expr) : Bool := !(vs.any isStarE) && !(vs.all (foldedForSure 8)) && !(vs.all (constantsAlone 8))
theorem any_star (vs : List Expr) : (vs.any fun | .Starred .. => true | _ => false) = vs.any isStarE := by
  congr 1
theorem swaps2 {x y : Str} {px py pt p : Pos} {kt k2 : Nat} {env : Env} (hb : env.blockKind = .function) (hx : env.kindOf x = some .local) (hy : env.kindOf y = some .local) (hl : (py.line == px.line) = true) (hn : (x == y) = false) (h : parC [a, b] = true) :
    swappedStores [.Tuple [.Name x px, .Name y py] kt pt] (.Tuple [a, b] k2 p) env = pure (some [x, y]) := by
  unfold parC at h
  simp only [Bool.and_eq_true, Bool.not_eq_true'] at h
  obtain ⟨⟨h1, h2⟩, h3⟩ := h
  have hl' : py.line = px.line := by simpa using hl
  have hn' : ¬ y = x := fun z => by subst z; simp at hn
  have hd : ([x, y] : List Str).eraseDups = [x, y] := by simp [List.eraseDups_cons, hn']
  have hf : ([Expr.Name x px, .Name y py].filterMap fun | .Name id pos => if env.kindOf id == some .local && pos.line == px.line then some id else none | _ => none) = [x, y] := by simp [List.filterMap, hx, hy, hl']
  unfold swappedStores
  simp only []
  refine (if_neg ?_).trans ((if_neg ?_).trans ((if_neg ?_).trans ((if_neg ?_).trans ((if_neg ?_).trans ?_))))
  · simp [hb]
  · intro zz
    have z' : ([a, b].any isStarE) = true := zz
    rw [h1] at z'; cases z'
  · intro zz
    have z' : ([x, y].length != 2 || ([x, y] : List Str).eraseDups.length != [x, y].length) = true := by rw [← hf]; exact zz
    rw [hd] at z'; simp at z'
  · rw [h2]; decide
  · rw [h3]; decide
  · exact congrArg (fun l => pure (some l)) hf
theorem swaps3 {x y z : Str} {px py pz pt p : Pos} {kt k2 : Nat} {env : Env} (hb : env.blockKind = .function) (hx : env.kindOf x = some .local) (hy : env.kindOf y = some .local) (hz : env.kindOf z = some .local) (hl : (py.line == px.line && pz.line == px.line) = true) (hn : (x == y || x == z || y == z) = false) (h : parC [a, b, c] = true) :
    swappedStores [.Tuple [.Name x px, .Name y py, .Name z pz] kt pt] (.Tuple [a, b, c] k2 p) env = pure (some [x, y, z]) := by
  unfold parC at h
  simp only [Bool.and_eq_true, Bool.not_eq_true'] at h
  obtain ⟨⟨h1, h2⟩, h3⟩ := h
  have hl' : py.line = px.line ∧ pz.line = px.line := by simpa using hl
  have hn' : (¬ y = x ∧ ¬ z = x) ∧ ¬ z = y := by
    simp only [Bool.or_eq_false_iff, beq_eq_false_iff_ne] at hn
    exact ⟨⟨Ne.symm hn.1.1, Ne.symm hn.1.2⟩, Ne.symm hn.2⟩
  have hd : ([x, y, z] : List Str).eraseDups = [x, y, z] := by simp [List.eraseDups_cons, hn'.1.1, hn'.1.2, hn'.2]
  have hf : ([Expr.Name x px, .Name y py, .Name z pz].filterMap fun | .Name id pos => if env.kindOf id == some .local && pos.line == px.line then some id else none | _ => none) = [x, y, z] := by simp [List.filterMap, hx, hy, hz, hl'.1, hl'.2]
  unfold swappedStores
  simp only []
  refine (if_neg ?_).trans ((if_neg ?_).trans ((if_neg ?_).trans ((if_neg ?_).trans ((if_neg ?_).trans ?_))))
  · simp [hb]
  · intro zz
    have z' : ([a, b, c].any isStarE) = true := zz
    rw [h1] at z'; cases z'
  · intro zz
    have z' : ([x, y, z].length != 3 || ([x, y, z] : List Str).eraseDups.length != [x, y, z].length) = true := by rw [← hf]; exact zz
    rw [hd] at z'; simp at z'
  · rw [h2]; decide
  · rw [h3]; decide
  · exact congrArg (fun l => pure (some l)) hf

/-! ### a, b, c = x, y, z -/
variable {K : Frag} {S S' S1 S2 H H' H1 H2 : Hp}
def xPar3 (i j l : Nat) (f : XL) : XS := fun ρ => match f ρ with
  | some ([o, p, q], ρ1) => (gN i o ρ1).bind fun ρ2 => (gN j p ρ2).bind fun ρ3 => (gN l q ρ3).map .nx
  | _ => none
theorem xPar3_some {i j l : Nat} {f : XL} {ρ : Ev} {r : Res} (e : xPar3 i j l f ρ = some r) : ∃ o p q ρ1 ρ2 ρ3 ρ4, f ρ = some ([o, p, q], ρ1) ∧ gN i o ρ1 = some ρ2 ∧ gN j p ρ2 = some ρ3 ∧ gN l q ρ3 = some ρ4 ∧ r = .nx ρ4 := by
  unfold xPar3 at e
  split at e
  · rename_i o p q ρ1 e1
    simp only [Option.bind_eq_some_iff, Option.map_eq_some_iff] at e
    obtain ⟨ρ2, e2, ρ3, e3, ρ4, e4, rfl⟩ := e
    exact ⟨o, p, q, ρ1, ρ2, ρ3, ρ4, e1, e2, e3, e4, rfl⟩
  · cases e
theorem snd_par3 {i j l : Nat} {t : TA} {f : XL} (h : SndL K t f) : SndS K (tPar3 i j l t) (xPar3 i j l f) := fun anc ρ r e σ S H fp ok De q => by
  obtain ⟨o, p, o3, ρ1, ρ2, ρ3, ρ4, e1, e2, e3, e4, rfl⟩ := xPar3_some e
  refine h anc ρ _ ρ1 e1 σ S H fp ok _ fun vs S' H' fo fp' ok' r nd a => ?_
  cases r with
  | cons r1 rr =>
    rename_i v vr f1 g1
    cases rr with
    | cons r2 rn =>
      rename_i w vn f2 g2
      cases rn with
      | cons r3 rn =>
        rename_i x xn f3 g3
        cases rn
        rw [List.append_nil] at nd a
        have n0 := List.nodup_append.mp (by rw [List.append_assoc] at nd; exact nd)
        have n1 := List.nodup_append.mp (by have := n0.2.1; rw [List.append_assoc] at this; exact this)
        have n2 := List.nodup_append.mp n1.2.1
        refine ⟨v, w, x, rfl, ?_⟩
        have nd1 : (f1 ++ fp').Nodup := List.nodup_append.mpr ⟨n0.1, n2.2.1, fun x hx y hy => n0.2.2 x hx y (by simp [hy])⟩
        refine snd_gN (K := K) i anc ρ1 o ρ2 e2 v σ S' H' fp' f1 ok' r1 nd1 (fun σ2 H2 => De.nx ((σ2.set j (some w)).set l (some x)) H2) fun σ2 fp2 ok2 sub2 _ _ => ?_
        have nd2 : (f2 ++ fp2).Nodup := by
          refine List.nodup_append.mpr ⟨n1.1, ok2.nd, fun x hx y hy z => ?_⟩
          subst z
          rcases List.mem_append.mp (sub2 x hy) with z | z
          · exact n0.2.2 x z x (by simp [hx]) rfl
          · exact n1.2.2 x hx x (by simp [z]) rfl
        refine snd_gN (K := K) j anc ρ2 p ρ3 e3 w σ2 S' H' fp2 f2 ok2 r2 nd2 (fun σ3 H3 => De.nx (σ3.set l (some x)) H3) fun σ3 fp3 ok3 sub3 _ _ => ?_
        have nd3 : (f3 ++ fp3).Nodup := by
          refine List.nodup_append.mpr ⟨n2.1, ok3.nd, fun x hx y hy z => ?_⟩
          subst z
          rcases List.mem_append.mp (sub3 x hy) with z | z
          · exact n1.2.2 x z x (by simp [hx]) rfl
          · rcases List.mem_append.mp (sub2 x z) with z | z
            · exact n0.2.2 x z x (by simp [hx]) rfl
            · exact n2.2.2 x hx x z rfl
        refine snd_gN (K := K) l anc ρ3 o3 ρ4 e4 x σ3 S' H' fp3 f3 ok3 r3 nd3 De.nx fun σ4 fp4 ok4 sub4 _ _ => q σ4 S' H' fp4 ok4 (a.wide (fun _ h => h) fun b hb => .inl ?_)
        rcases List.mem_append.mp (sub4 b hb) with z | z
        · simp [z]
        · rcases List.mem_append.mp (sub3 b z) with z | z
          · simp [z]
          · rcases List.mem_append.mp (sub2 b z) with z | z <;> simp [z]
theorem KpS.par3 {i j l : Nat} {f : XL} (k : Kp f) : KpS (xPar3 i j l f) := fun ρ r e m b hb hf => by
  obtain ⟨o, p, q, ρ1, ρ2, ρ3, ρ4, e1, e2, e3, e4, rfl⟩ := xPar3_some e
  exact KpG.n l _ _ _ e4 m b (KpG.n j _ _ _ e3 m b (KpG.n i _ _ _ e2 m b (k _ _ _ e1 m b hb hf) hf) hf) hf
theorem loc_of {i : Nat} {x : Str} {X : Cx} (h : locB s i x = true) (st : Stat W s X) : X.N[i]? = some x ∧ X.env.scope.names.lookup x = some .local := by
  unfold locB at h
  simp only [Bool.and_eq_true, decide_eq_true_eq] at h
  exact ⟨by rw [st.N]; exact h.1, by rw [st.sc]; exact isK_eq h.2⟩
def par2B (s : Sc) (i j : Nat) (x y : Str) (px py : Pos) : Bool := locB s i x && locB s j y && decide (s.sc.kind = .function) && !(i == j) && (py.line == px.line) && !(x == y)
theorem js_par2 {x y : Str} (i j : Nat) {px py pt : Pos} {kt k2 : Nat} {pt2 : Pos} {f : XL} (hN : s.N.Nodup) (hx : par2B s i j x y px py = true) (hp : parC [a, b] = true) (h : JL W s [a, b] f) :
    JS W s (.Assign [.Tuple [.Name x px, .Name y py] kt pt] (.Tuple [a, b] k2 pt2) pos) (xPar i j f) := by
  obtain ⟨g0, t, h1, h2, h3⟩ := h
  unfold par2B at hx
  simp only [Bool.and_eq_true, Bool.not_eq_true', decide_eq_true_eq] at hx
  obtain ⟨⟨⟨⟨⟨l1, l2⟩, hk⟩, hij⟩, hl⟩, hn⟩ := hx
  refine ⟨_, fun X st => ?_, snd_par h2, KpS.par h3⟩
  obtain ⟨n1, lx⟩ := loc_of l1 st
  obtain ⟨n2, ly⟩ := loc_of l2 st
  have bk : X.env.blockKind = .function := by unfold Env.blockKind; rw [st.sc, hk]; rfl
  exact ps_par st.calm (by rw [st.N]; exact hN) n1 n2 (by simpa using hij) lx ly (h1 X st) (swaps2 bk lx ly hl hn hp) rfl
def par3B (s : Sc) (i j l : Nat) (x y z : Str) (px py pz : Pos) : Bool := locB s i x && locB s j y && locB s l z && decide (s.sc.kind = .function) && !(i == j) && !(i == l) && !(j == l) && (py.line == px.line && pz.line == px.line) && !(x == y || x == z || y == z)
theorem js_par3 {x y z : Str} (i j l : Nat) {px py pz pt : Pos} {kt k2 : Nat} {pt2 : Pos} {f : XL} (hN : s.N.Nodup) (hx : par3B s i j l x y z px py pz = true) (hp : parC [a, b, c] = true) (h : JL W s [a, b, c] f) :
    JS W s (.Assign [.Tuple [.Name x px, .Name y py, .Name z pz] kt pt] (.Tuple [a, b, c] k2 pt2) pos) (xPar3 i j l f) := by
  obtain ⟨g0, t, h1, h2, h3⟩ := h
  unfold par3B at hx
  rw [Bool.and_eq_true, Bool.and_eq_true, Bool.and_eq_true, Bool.and_eq_true, Bool.and_eq_true, Bool.and_eq_true, Bool.and_eq_true, Bool.and_eq_true] at hx
  obtain ⟨⟨⟨⟨⟨⟨⟨⟨l1, l2⟩, l3⟩, hk⟩, hij⟩, hil⟩, hjl⟩, hl⟩, hn⟩ := hx
  refine ⟨_, fun X st => ?_, snd_par3 h2, KpS.par3 h3⟩
  obtain ⟨n1, lx⟩ := loc_of l1 st
  obtain ⟨n2, ly⟩ := loc_of l2 st
  obtain ⟨n3, lz⟩ := loc_of l3 st
  have bk : X.env.blockKind = .function := by unfold Env.blockKind; rw [st.sc, of_decide_eq_true hk]; rfl
  exact ps_par3 st.calm (by rw [st.N]; exact hN) n1 n2 n3 (by simpa using hij) (by simpa using hil) (by simpa using hjl) lx ly lz (h1 X st) (swaps3 bk lx ly lz hl (by simpa using hn) hp) rfl
/-- a, b = e: e not a written tuple -/
theorem js_unp {tgs : List Nat} {k : Nat} {g : XG} {f : XF} (hw : plainW e = true) (ht : isTupE e = false) (hg : JG W s (.Tuple es k p1) tgs g) (h : JF W s e f) : JS W s (.Assign [.Tuple es k p1] e pos) (xAsg f g) := js_asgT hw (fun env _ => swaps_val ht env) hg h
def cellIn (s : Sc) (ts : List Expr) : Bool := ts.any fun t => match t with
  | .Name x _ => !(isK s x .local)
  | _ => false
/-- a, b = x, y: not all of them local names -/
theorem js_unpC {tgs : List Nat} {k kv : Nat} {pv : Pos} {vs : List Expr} {g : XG} {f : XF} (hc : cellIn s es = true) (hg : JG W s (.Tuple es k p1) tgs g) (h : JF W s (.Tuple vs kv pv) f) : JS W s (.Assign [.Tuple es k p1] (.Tuple vs kv pv) pos) (xAsg f g) := js_asgT rfl (fun env hk => by
  unfold cellIn at hc
  rw [List.any_eq_true] at hc
  obtain ⟨t, h1, h2⟩ := hc
  split at h2
  · rename_i x p
    refine swaps_cell h1 ?_
    rw [hk x]
    intro z
    unfold isK at h2
    rw [z] at h2
    simp at h2
  · cases h2) hg h
/-- x = [..], the name a local on the display's line -/
theorem js_setLc {elt tg iter : Expr} {ifs : List Expr} {scope : Scope} {y : Str} {py : Pos} (i : Nat) (own : List (Str × Nat)) {it : XI} {vs tgs : List Nat} {g : XG} {f : XB} {x : XF} (hN : s.N.Nodup) (hy : locB s i y = true) (hk : decide (s.sc.kind = .function) = true) (hl : (py.line == pos.line) = true) (hs : (scope.names.any fun (n, k) => n == y && (k == .local || k == .cell)) = false) (hv : vs = own.map (·.2)) (hb : blkC s.N s.sc scope own = true) (hi : JI W s tg iter it)
    (hg : JG W (s.sub scope) tg tgs g) (hc : JBs W (s.sub scope) ifs f) (he : JF W (s.sub scope) elt x) (ht : (tgs.all fun j => vs.contains j) = true) (nd : vs.Nodup) :
    JS W s (.Assign [.Name y py] (.ListComp elt [⟨tg, iter, ifs, 0⟩] scope pos) p1) (xAsg (sComp it vs g f x) (gN i)) := by
  subst hv
  obtain ⟨i0, ti, i1, i2, i3⟩ := hi
  obtain ⟨tg', g1, g2, g3⟩ := hg
  obtain ⟨tc, c1, c2, c3⟩ := hc
  obtain ⟨te, e1, e2, e3⟩ := he
  refine ⟨_, fun X st => ?_, snd_asg (snd_comp i2 g2 (fun j hj => ?_) g3 c2 c3 e2 e3 nd) (snd_gN i), KpS.asg (Kp.comp i3 g3 c3 e3) (KpG.n i)⟩
  · obtain ⟨n1, ly⟩ := loc_of hy st
    exact ps_setLc st.calm (by rw [st.N]; exact hN) n1 ly (sw_true (by rw [st.sc]; exact of_decide_eq_true hk) ly hl hs) (i1 X st) (blkOk_by (by rw [st.N, st.sc]; exact hb)) (fun t H C cl fp => g1 _ (st.sub scope t H C cl fp)) (fun t H C cl fp => c1 _ (st.sub scope t H C cl fp)) (fun t H C cl fp => e1 _ (st.sub scope t H C cl fp)) (fs_ok' i0 _)
  · have := List.all_eq_true.mp ht j hj
    simpa using this
end PL

namespace PL
open PySem PySem.Spec PyProof.Rows L2
variable {W : Wd} {s : Sc} {e a b c : Expr} {es : List Expr} {pos p1 p2 : Pos}
/-! ### operators -/
def uAdd : O → O → Option O := fun a b => (uAddI a b).or ((uCatL a b).or ((uCatT a b).or (uCatS a b)))
theorem opAdd : OpS W s (binaryOp .Add) uAdd := OpS.or ⟨_, fun X _ => op_add, bin_addI⟩ (OpS.or ⟨rCatR W.K, fun X st => st.K ▸ op_catR, bin_catL⟩ (OpS.or ⟨rCatA W.K, fun X st => st.K ▸ op_catA, bin_catT⟩ ⟨_, fun X _ => op_add_str, bin_catS⟩))
theorem opSub : OpS W s (binaryOp .Sub) uSubI := ⟨_, fun X _ => op_sub, bin_subI⟩
def uMul : O → O → Option O := fun a b => (uMulI a b).or ((uRepL a b).or (uRepT a b))
theorem opMul : OpS W s (binaryOp .Mult) uMul := OpS.or ⟨_, fun X _ => op_mulW, bin_mulI⟩ (OpS.or ⟨rRepR W.K, fun X st => st.K ▸ op_repR, bin_repL⟩ ⟨fun x y H Q => rRepT1 W.K x y H Q ∨ rRepT W.K x y H Q, fun X st => st.K ▸ op_repT1.or op_repT, bin_repT⟩)
theorem opDiv : OpS W s (binaryOp .FloorDiv) uDivI := ⟨_, fun X _ => op_fdivW, bin_divI⟩
theorem opMod : OpS W s (binaryOp .Mod) uModI := ⟨_, fun X _ => op_mod, bin_modI⟩
theorem opPow : OpS W s (binaryOp .Pow) uPowI := ⟨_, fun X _ => op_powW, bin_powI⟩
theorem opLt : OpS W s (compareOp .Lt) uLtI := ⟨_, fun X _ => op_lt, bin_ltI⟩
theorem opLe : OpS W s (compareOp .LtE) uLeI := ⟨_, fun X _ => op_le, bin_leI⟩
theorem opGt : OpS W s (compareOp .Gt) uGtI := ⟨_, fun X _ => op_gt, bin_gtI⟩
theorem opGe : OpS W s (compareOp .GtE) uGeI := ⟨_, fun X _ => op_ge, bin_geI⟩
theorem hu1 {X : Cx} (st : Stat W s X) : X.A.units + 65 < cLine := by
  have := st.room.un
  omega
theorem opEq : OpS W s (compareOp .Eq) uEq := ⟨rEqD W.K, fun X st => st.K ▸ op_eqD st.room.units, bin_eq⟩
theorem opNe : OpS W s (compareOp .NotEq) uNe := ⟨rNeD W.K, fun X st => st.K ▸ op_neD st.room.units, bin_ne⟩
theorem opIs : OpS W s (compareOp .Is) uIs := ⟨_, fun X _ => op_isN.or op_is_bl, bin_is⟩
theorem opIsNot : OpS W s (compareOp .IsNot) uIsNot := ⟨_, fun X _ => op_notN.or op_isnot_bl, bin_isNot⟩
theorem opIn : OpS W s (compareOp .In) (uIn false) := ⟨fun x y H Q => rInD W.K x y H Q ∨ rInT W.K x y H Q, fun X st => st.K ▸ (op_inD (hu1 st)).or (op_inT (hu1 st)), bin_in⟩
theorem opNotIn : OpS W s (compareOp .NotIn) (uIn true) := ⟨fun x y H Q => rNotInD W.K x y H Q ∨ rNotInT W.K x y H Q, fun X st => st.K ▸ (op_notInD (hu1 st)).or (op_notInT (hu1 st)), bin_notIn⟩
theorem unNeg : UnS W s (unaryOp .USub) uNegI := ⟨_, fun X _ => un_neg, un_negI⟩
def uIx : O → O → Option O := fun a b => (uIxL a b).or ((uIxT a b).or (uIxS a b))
theorem ixA : IxS W s uIx := IxS.or ⟨rIxL W.K, fun X st => st.K ▸ ix_list, bin_ixL⟩ (IxS.or ⟨rIxT W.K, fun X st => st.K ▸ ix_tup, bin_ixT⟩ ⟨_, fun X _ => ix_str, bin_ixS⟩)
def uSl : O → Option Int → Option Int → Option O := fun a l k => (uSlL a l k).or (uSlT a l k)
theorem slA : SlS W s uSl := SlS.or ⟨rSlL W.K, fun X st => st.K ▸ sl_list, sl_L⟩ ⟨rSlA W.K, fun X st => st.K ▸ sl_tupA, sl_T⟩
/-! ### built-in functions -/
theorem clLen : ClS W s (.builtin "len") uLen := ⟨_, fun X st => st.K ▸ call_len, call_lenO⟩
theorem clAbs : ClS W s (.builtin "abs") uAbs := ⟨_, fun X st => call_abs, call_absO⟩
theorem clInt : ClS W s (.type "int") uInt := ⟨_, fun X st => call_int1, call_intO⟩
def uSum : List O → Option O := fun a => (uL1 kSum a).or (uT1 kSum a)
theorem clSum : ClS W s (.builtin "sum") uSum := ClS.or ⟨rSum W.K, fun X st => st.K ▸ cr_sum st.calm, call_sumL⟩ ⟨rSumT W.K, fun X st => st.K ▸ cr_sumT st.calm, call_sumT⟩
def uMax : List O → Option O := fun a => (uMax2 a).or (uL1 kMax a)
theorem clMax : ClS W s (.builtin "max") uMax := ClS.or ⟨_, fun X st => call_max2 st.calm, call_max2O⟩ ⟨rMax W.K, fun X st => st.K ▸ cr_max st.calm, call_maxL⟩
def uMin : List O → Option O := fun a => (uMin2 a).or (uL1 kMin a)
theorem clMin : ClS W s (.builtin "min") uMin := ClS.or ⟨_, fun X st => call_min2 st.calm, call_min2O⟩ ⟨rMin W.K, fun X st => st.K ▸ cr_min st.calm, call_minL⟩
theorem clAll : ClS W s (.builtin "all") (uL1 kAll) := ⟨rAll W.K, fun X st => st.K ▸ cr_all st.calm, call_allO⟩
theorem clAny : ClS W s (.builtin "any") (uL1 kAny) := ⟨rAny W.K, fun X st => st.K ▸ cr_any st.calm, call_anyO⟩
theorem clList : ClS W s (.type "list") uListOf := ⟨_, fun X st => st.K ▸ call_list_of, call_listO⟩
theorem clTuple : ClS W s (.type "tuple") uTupleOf := ⟨_, fun X st => st.K ▸ call_tuple_of, call_tupleO⟩
theorem pe_ty {X : Cx} {x : Str} {T : String} (hg : Gl X x) (hm : X.mg x = none) (hv : bootBuiltins x = some (.type T)) (hn : x ≠ "__name__") (hd : (x == ("__debug__" : Str)) = false) : PE X (.Name x pos) (tC (.ty T)) := pe_bltn (v := .ty T) hg hm hv rfl hn hd
theorem jf_isi {x : Str} {T : String} {p : XP} (hi : glB s "isinstance" = true) (hm : W.mg "isinstance" = none) (hx : glB s x = true) (hmx : W.mg x = none) (hv : bootBuiltins x = some (.type T)) (hn : noStar e = true) (h : JP W s e p) : JF W s (.Call (.Name "isinstance" p1) [e, .Name x p2] [] pos) (sUn (uIsi T) p) :=
  let ⟨t, h1, h2, h3⟩ := h; ⟨tUn (fun v H Q => rIsi W.K [v, .ty T] H Q) t, fun X st => by
    obtain ⟨n1, n2, n3⟩ := glB_ok hi st
    obtain ⟨m1, m2, m3⟩ := glB_ok hx st
    have := pe_callB (p := p1) (pos := pos) call_isi n1 (by rw [st.mg]; exact hm) boot_isinstance (pa_cons (h1 X st) (pa_cons (pe_ty (pos := p2) m1 (by rw [st.mg]; exact hmx) hv m3 m2) pa_nil) (star_ok hn _ _)) (he := star_ok hn _ _)
    rw [st.K] at this
    exact this, snd_un h2 un_isi, h3.un⟩
theorem jf_isi2 {x y : Str} {T U : String} {p : XP} {k : Nat} {q1 q2 q3 : Pos} (hi : glB s "isinstance" = true) (hm : W.mg "isinstance" = none) (hx : glB s x = true) (hmx : W.mg x = none) (hv : bootBuiltins x = some (.type T)) (hy : glB s y = true) (hmy : W.mg y = none) (hvy : bootBuiltins y = some (.type U)) (hn : noStar e = true) (h : JP W s e p) :
    JF W s (.Call (.Name "isinstance" p1) [e, .Tuple [.Name x q1, .Name y q2] k q3] [] pos) (sUn (uIsi2 T U) p) :=
  let ⟨t, h1, h2, h3⟩ := h; ⟨tUn (fun v H Q => 2 ≤ sizeLine ∧ ∀ l, H l = none → rIsiT W.K [v, .ref l] (upd H l (.tup [.ty T, .ty U])) Q) t, fun X st => by
    obtain ⟨n1, n2, n3⟩ := glB_ok hi st
    obtain ⟨m1, m2, m3⟩ := glB_ok hx st
    obtain ⟨l1, l2, l3⟩ := glB_ok hy st
    have := pe_callB (p := p1) (pos := pos) call_isiT n1 (by rw [st.mg]; exact hm) boot_isinstance (pa_cons (h1 X st) (pa_cons (pe_tup (x1 := k) (pos := q3) (pa_cons (pe_ty (pos := q1) m1 (by rw [st.mg]; exact hmx) hv m3 m2) (pa_cons (pe_ty (pos := q2) l1 (by rw [st.mg]; exact hmy) hvy l3 l2) pa_nil))) pa_nil) (star_ok hn _ _)) (he := star_ok hn _ _)
    rw [st.K] at this
    exact this, snd_un h2 un_isi2, h3.un⟩
/-! ### methods of a list in a slot -/
theorem jf_app {x : Str} (i : Nat) {f : XF} {apos cpos : Pos} (hx : visB s i x = true) (hl : (apos.endLine == cpos.line) = true) (hn : noStar e = true) (h : JF W s e f) : JF W s (.Call (.Attribute (.Name x p1) "append" apos) [e] [] cpos) (sApp i f) :=
  let ⟨t, h1, h2, h3⟩ := h; ⟨tBM W.K "list" rAppend (tVar i) (tCons t tNil), fun X st => by
    obtain ⟨n1, n2, n3, n4⟩ := visB_ok hx st
    have := pe_bm PySem.F.plainAttrs_list PySem.F.slot_list_append PySem.F.type_list_append mt_append (pe_var (pos := p1) n1 n2 n3 n4) (pa_cons (h1 X st) pa_nil (star_ok hn _ _)) (apos := apos) (cpos := cpos) (hfew := by rw [star_ok hn]; rfl) (hline := hl) (hs := star_ok hn _ _)
    rw [st.K] at this
    exact this, snd_app h2, Kp.app h3⟩
theorem jf_pop0 {x : Str} (i : Nat) {apos cpos : Pos} (hx : visB s i x = true) (hl : (apos.endLine == cpos.line) = true) : JF W s (.Call (.Attribute (.Name x p1) "pop" apos) [] [] cpos) (sMt i uPop aNil) :=
  ⟨tBM0 W.K "list" rPop (tVar i), fun X st => by
    obtain ⟨n1, n2, n3, n4⟩ := visB_ok hx st
    have := pe_bm0 PySem.F.plainAttrs_list PySem.F.slot_list_pop PySem.F.type_list_pop mt_pop (pe_var (pos := p1) n1 n2 n3 n4) (apos := apos) (cpos := cpos) (hline := hl)
    rw [st.K] at this
    exact this, snd_mt0 mt_popO, Kp.mt Kp.anil⟩
theorem jf_pop {x : Str} (i : Nat) {f : XP} {apos cpos : Pos} (hx : visB s i x = true) (hl : (apos.endLine == cpos.line) = true) (hn : noStar e = true) (h : JP W s e f) : JF W s (.Call (.Attribute (.Name x p1) "pop" apos) [e] [] cpos) (sMt i uPopAt (aCons f aNil)) :=
  let ⟨t, h1, h2, h3⟩ := h; ⟨tBM W.K "list" rPopAt (tVar i) (tCons t tNil), fun X st => by
    obtain ⟨n1, n2, n3, n4⟩ := visB_ok hx st
    have := pe_bm PySem.F.plainAttrs_list PySem.F.slot_list_pop PySem.F.type_list_pop mt_popAt (pe_var (pos := p1) n1 n2 n3 n4) (pa_cons (h1 X st) pa_nil (star_ok hn _ _)) (apos := apos) (cpos := cpos) (hfew := by rw [star_ok hn]; rfl) (hline := hl) (hs := star_ok hn _ _)
    rw [st.K] at this
    exact this, snd_mt (snd_cons h2 snd_nil) mt_popAtO, Kp.mt (Kp.acons h3 Kp.anil)⟩
theorem jf_rvs {x : Str} (i : Nat) {apos cpos : Pos} (hx : visB s i x = true) (hl : (apos.endLine == cpos.line) = true) : JF W s (.Call (.Attribute (.Name x p1) "reverse" apos) [] [] cpos) (sMt i uReverse aNil) :=
  ⟨tBM0 W.K "list" rReverse (tVar i), fun X st => by
    obtain ⟨n1, n2, n3, n4⟩ := visB_ok hx st
    have := pe_bm0 PySem.F.plainAttrs_list PySem.F.slot_list_reverse PySem.F.type_list_reverse mt_reverse (pe_var (pos := p1) n1 n2 n3 n4) (apos := apos) (cpos := cpos) (hline := hl)
    rw [st.K] at this
    exact this, snd_mt0 mt_reverseO, Kp.mt Kp.anil⟩
theorem jf_ext {x : Str} (i : Nat) {f : XP} {apos cpos : Pos} (hx : visB s i x = true) (hl : (apos.endLine == cpos.line) = true) (hn : noStar e = true) (h : JP W s e f) : JF W s (.Call (.Attribute (.Name x p1) "extend" apos) [e] [] cpos) (sMt i uExt (aCons f aNil)) :=
  let ⟨t, h1, h2, h3⟩ := h; ⟨tBM W.K "list" (rExtR W.K) (tVar i) (tCons t tNil), fun X st => by
    obtain ⟨n1, n2, n3, n4⟩ := visB_ok hx st
    have := pe_bm PySem.F.plainAttrs_list PySem.F.slot_list_extend PySem.F.type_list_extend mt_extR (pe_var (pos := p1) n1 n2 n3 n4) (pa_cons (h1 X st) pa_nil (star_ok hn _ _)) (apos := apos) (cpos := cpos) (hfew := by rw [star_ok hn]; rfl) (hline := hl) (hs := star_ok hn _ _)
    rw [st.K] at this
    exact this, snd_mt (snd_cons h2 snd_nil) mt_extO, Kp.mt (Kp.acons h3 Kp.anil)⟩
/-- x[k] = e -/
theorem js_setI {x : Str} (i : Nat) {fi : XD} {f : XF} {q1 q2 : Pos} (hx : visB s i x = true) (hw : plainW a = true) (hp : plainX b = true) (hi : JD W s b fi) (h : JF W s a f) : JS W s (.Assign [.Subscript (.Name x q1) b q2] a pos) (xSet i fi f) :=
  let ⟨t, h1, h2, h3⟩ := h; let ⟨t', g1, g2, g3⟩ := hi; ⟨_, fun X st => by
    obtain ⟨n1, n2, n3, n4⟩ := visB_ok hx st
    refine ps_asg (h1 X st) (pg_sub (pe_var (pos := q1) n1 n2 n3 n4) (g1 X st) set_list fun v => ?_) (by unfold swapsWithSole; exact sw_ok hw _ _ _) rfl rfl
    cases b with
    | Slice l u st p => cases st <;> first | rfl | cases hp
    | _ => rfl, snd_set h2 g2, KpS.set h3 g3⟩
/-! ### calls with keywords alone -/

def JK (W : Wd) (s : Sc) (kws : List Keyword) (ks : List Str) (f : XA) : Prop := (∀ (pos : Pos) (env : Env), (backToKw pos (keywordEach kws env)).all (·.1.isSome) = true ∧ (backToKw pos (keywordEach kws env)).filterMap (·.1) = ks ∧ (backToKw pos (keywordEach kws env)).any (·.1.isNone) = false) ∧ (∀ ρ ps ρ', f ρ = some (ps, ρ') → ps.length = ks.length) ∧ ∃ t, (∀ X, Stat W s X → PK X kws t) ∧ SndA W.K t f ∧ Kp f
theorem jk_nil : JK W s [] [] aNil := ⟨fun pos env => ⟨rfl, rfl, rfl⟩, fun ρ ps ρ' h => by cases h; rfl, _, fun X st => pk_nil, snd_nil, Kp.anil⟩
theorem jk_cons {x : Str} {kws : List Keyword} {ks : List Str} {p : XP} {f : XA} {kpos : Pos} (h : JP W s e p) (h' : JK W s kws ks f) : JK W s (⟨some x, e, kpos⟩ :: kws) (x :: ks) (aCons p f) := by
  obtain ⟨t, h1, h2, h3⟩ := h
  obtain ⟨g0, gl, t', g1, g2, g3⟩ := h'
  refine ⟨fun pos env => ?_, fun ρ ps ρ' hh => ?_, _, fun X st => pk_cons (h1 X st) (g1 X st), snd_cons h2 g2, h3.acons g3⟩
  · obtain ⟨a1, a2, a3⟩ := g0 pos env
    refine ⟨?_, ?_, ?_⟩
    · show ((some x).isSome && (backToKw pos (keywordEach kws env)).all (·.1.isSome)) = true
      rw [a1]; rfl
    · show List.filterMap (·.1) ((some x, _) :: backToKw pos (keywordEach kws env)) = _
      rw [← a2]; rfl
    · show ((some x).isNone || (backToKw pos (keywordEach kws env)).any (·.1.isNone)) = false
      rw [a3]; rfl
  · simp only [aCons, Option.bind_eq_some_iff, Option.map_eq_some_iff] at hh
    obtain ⟨⟨z, ρ1⟩, e1, ⟨y, ρ2⟩, e2, e3⟩ := hh
    cases e3
    rw [List.length_cons, List.length_cons, gl _ _ _ e2]
theorem jf_callK {k : Nat} {x : Str} {F : FS} {ks : List Str} {π : List Nat} {kws : List Keyword} {f : XA} (hF : FnK W k x F ks π) (hk : k ≤ W.k) (hx : glB s x = true) (ha : JK W s kws ks f) : JF W s (.Call (.Name x p1) [] kws pos) (callF F (aReord π f)) := by
  obtain ⟨fa, fd, ps, F1, F2, F3, F4⟩ := hF.ex
  obtain ⟨g0, gl, t, a1, a2, a3⟩ := ha
  refine ⟨_, fun X st => ?_, snd_callK (E := E0) a2 gl, a3.areord.callF⟩
  obtain ⟨n1, n2, n3⟩ := glB_ok hx st
  obtain ⟨q1, q2, q3⟩ := g0 pos X.env
  exact pe_callK0 (CX := CX0) (by rw [st.prog, st.w, st.K, st.mg, st.base]; exact F1) (st.room.mono hk) n1 (by rw [st.mg]; exact F2) (by rw [st.K]; exact F3) (by rw [st.K]; exact F4) pass0 (a1 X st) q1 q2 n2 (by rw [q3]; rfl)
/-! ### list(range(n)) -/
def sLRg1 (f : XD) : XF := fun ρ => match f ρ with
  | some (.int n, ρ1) => if n ≤ 16777216 ∧ -16777216 ≤ n then some (.ol ((List.range n.toNat).map fun k => .sh (.int (k : Nat))), ρ1) else none
  | _ => none
theorem reps_range (a : Int) : ∀ l : List Nat, Reps W.K S (l.map fun i => PyData.int (a + (i : Nat))) (l.map fun i => V.int (a + (i : Nat)))
  | [] => .nil
  | i :: l => .cons (.int _) (reps_range a l)
theorem jf_lrg {f : XD} {q1 q2 : Pos} (hl : glB s "list" = true) (hml : W.mg "list" = none) (hr : glB s "range" = true) (hmr : W.mg "range" = none) (hn : noStar a = true) (h : JD W s a f) : JF W s (.Call (.Name "list" p1) [.Call (.Name "range" q1) [a] [] q2] [] pos) (sLRg1 f) := by
  obtain ⟨t, h1, h2, h3⟩ := h
  refine ⟨tLstRg (tRg1 t), fun X st => pe_listRg st.calm (glB_ok hl st).1 (by rw [st.mg]; exact hml) (prg_1 (glB_ok hr st).1 (by rw [st.mg]; exact hmr) (h1 X st) (star_ok hn _ _)), fun anc ρ o ρ' e σ S H fp ok Q q => ?_, fun ρ o ρ' e i b hb hf => ?_⟩
  · unfold sLRg1 at e
    split at e
    · rename_i n ρ1 e1
      split at e
      · rename_i hn
        cases e
        refine h2 anc ρ _ ρ' e1 σ S H fp ok _ fun v S1 H1 fp1 ok1 r1 a1 => ⟨n, r1.int_inv, ⟨by omega, by omega, by omega, by omega, by omega⟩, fun p hp => ?_⟩
        have hg : Gives W.K S1 H1 (.ol (((List.range n.toNat).map fun k => PyData.int (k : Nat)).map .sh)) Q := by
          rw [List.map_map]
          exact gives_of ok1 a1 q
        refine hg.list ok1.sub hp ?_
        have := reps_range (W := W) (S := S1) 0 (List.range n.toNat)
        simp only [Int.zero_add] at this
        have e2 : rgV 0 n = (List.range n.toNat).map fun i => V.int ((i : Nat)) := by unfold rgV; simp
        rw [e2]
        exact RepOs.of_sh this
      · cases e
    · cases e
  · unfold sLRg1 at e
    split at e
    · split at e
      · rename_i e1 _; cases e; exact h3 _ _ _ e1 i b hb hf
      · cases e
    · cases e
/-! ### {k: v}: ints -/
def sDict1 (k v : Int) : XF := fun ρ => some (.sh (.dict [(.int k, .int v)]), ρ)
theorem jf_dict1 {k v : Int} {j j' : Nat} {q1 q2 : Pos} : JF W s (.Dict [some (.Constant (.int k) j q1)] [.Constant (.int v) j' q2] pos) (sDict1 k v) := by
  refine ⟨tDisp [(tC (.int k), tC (.int v))], fun X st => pe_disp (pps_cons pe_int pe_int pps_nil) rfl rfl (by simp) (by show 1 ≤ 15; omega), fun anc ρ o ρ' e σ S H fp ok Q q => ?_, fun ρ o ρ' e i b hb hf => by cases e; exact hb⟩
  cases e
  intro p hp
  show _ ∧ _
  refine ⟨upd_same, [(.inl k, .int v)], rfl, by show 1 ≤ 15; omega, ?_⟩
  have hS : S p = none := ok.sub.free hp
  have e1 : Same S (upd S p (.dK [(.inl k, .int v)])) := fun b o e => by rw [upd_ne (ne_of_none e hS)]; exact e
  have hm : mergeK [] [(Sum.inl k, V.int v)] = [(Sum.inl k, V.int v)] := rfl
  rw [hm]
  refine gives_of (K := W.K) (o := .sh (.dict [(.int k, .int v)])) (Q := Q) ok (Aft.refl fun _ h => h) q (.ref p) (upd S p (.dK [(.inl k, .int v)])) _ [] (.sh (.dct (ks := [.inl k]) (xs := [.int v]) (ds := [.int v]) upd_same rfl (.cons (.int _) .nil))) (fun b o e => ?_) .nil ⟨e1, fun b o e _ => ?_, fun b e => ?_, fun b hb => by simp at hb⟩
  · by_cases z : b = p
    · subst z; rw [upd_same] at e; rw [upd_same]; exact e
    · rw [upd_ne z] at e; rw [upd_ne z, upd_ne z]; exact ok.sub b o e
  · rw [upd_ne (ne_of_none e hp), upd_ne (ne_of_none e hp)]; exact e
  · by_cases z : b = p
    · subst z; exact .inr (.inr hp)
    · rw [upd_ne z] at e; exact .inl e
end PL

namespace PL
open PySem PySem.Spec PyProof.Rows L2
variable {W : Wd}
/-- a def of the text as it stands -/
structure Df (W : Wd) (x : Str) (st : Stmt) (ps : List Str) : Prop where
  ex : ∃ (f : Addr) (fd : FuncData), Fun W.K x x st f fd ∧ W.mg x = some (.ref f) ∧ Binds W.K fd ps []
structure Dk (W : Wd) (x : Str) (st : Stmt) (ps ks : List Str) (π : List Nat) : Prop where
  ex : ∃ (f : Addr) (fd : FuncData), Fun W.K x x st f fd ∧ W.mg x = some (.ref f) ∧ Binds W.K fd ps [] ∧ KBn W.K fd ps 0 ks (fun _ ws => reord π ws) (fun _ zs => reord π zs)
theorem Df.mk' {x : Str} {st : Stmt} {f : Addr} {fd : FuncData} {ps : List Str} (F : Fun W.K x x st f fd) (hm : W.mg x = some (.ref f))
    (h : ∀ (kV doc pm : Value) (an : Option Addr) (cdv ct : Value) (us : List Value), us.length = ps.length → bindArgs (PySem.W.fnOf x x (defArgs st) (defBody st) (defScope st) .none kV doc pm an cdv ct) ⟨us, []⟩ = pure (ps.zip us)) : Df W x st ps := ⟨f, fd, F, hm, F.binds h⟩
theorem Dk.mk' {x : Str} {st : Stmt} {f : Addr} {fd : FuncData} {ps ks : List Str} {π : List Nat} (F : Fun W.K x x st f fd) (hm : W.mg x = some (.ref f))
    (h : ∀ (kV doc pm : Value) (an : Option Addr) (cdv ct : Value) (us : List Value), us.length = ps.length → bindArgs (PySem.W.fnOf x x (defArgs st) (defBody st) (defScope st) .none kV doc pm an cdv ct) ⟨us, []⟩ = pure (ps.zip us))
    (hk : ∀ (kV doc pm : Value) (an : Option Addr) (cdv ct : Value) (ws : List Value), ws.length = ks.length → bindArgs (PySem.W.fnOf x x (defArgs st) (defBody st) (defScope st) .none kV doc pm an cdv ct) ⟨[], ks.zip ws⟩ = pure (ps.zip (reord π ws))) : Dk W x st ps ks π := by
  refine ⟨f, fd, F, hm, F.binds h, ?_⟩
  obtain ⟨oc, od, kV, doc, pm, an, cdv, ct, osl, rfl, lk, hcd⟩ := F.ex
  refine ⟨fun s us ws _ h0 h1 => ?_, fun _ r => paired_reord r π⟩
  have : us = [] := List.length_eq_zero_iff.mp h0
  subst this
  exact .of_eq (hk kV doc pm an cdv ct ws h1)
theorem stat_cx {x : Str} {scope : Scope} {N : List Str} {k : Nat} {f : Addr} {cdv : Value} {A : Around} {outer : List Env} {s : Shared} {H : Hp} {E : XK} (hr : Room k (A.deeper (envOfC x scope s.heap.objs.size f cdv))) :
    Stat { W with k := k } ⟨N, scope, true⟩ (cxOf CX0 W.P W.w W.K W.mg W.base N x scope f cdv A outer s H E).nox := ⟨rfl, rfl, rfl, rfl, rfl, rfl, rfl, hr, rfl, rfl, fun _ _ => rfl⟩
theorem fnOk_mk {x : Str} {st : Stmt} {ps N : List Str} {k n : Nat} {ms : List Md} {body : XS} {f : Addr} {fd : FuncData} (F : Fun W.K x x st f fd) (Sc : FnScope N ps (defScope st)) (hp : ps.length = ms.length) (hn : N.length = ms.length + n) (hj : JSs { W with k := k } ⟨N, defScope st, true⟩ (defBody st) body) :
    FnOk W.P W.w W.K W.mg W.base CX0 (k + 1) f fd ps (spF W.K (mkFS ms n body)) := by
  obtain ⟨t, h1, h2, h3⟩ := hj
  exact fs_ok F Sc hp hn h3 fun cdv A outer s H E hr => ⟨t, h1 _ (stat_cx hr), h2⟩
theorem fnI_mk {x : Str} {st : Stmt} {ps N : List Str} {k n : Nat} {ms : List Md} {body : XS} (D : Df W x st ps) (Sc : FnScope N ps (defScope st)) (hp : ps.length = ms.length) (hn : N.length = ms.length + n) (hj : JSs { W with k := k } ⟨N, defScope st, true⟩ (defBody st) body) : FnI W (k + 1) x (mkFS ms n body) := by
  obtain ⟨f, fd, F, hm, hb⟩ := D.ex
  exact ⟨f, fd, ps, fnOk_mk F Sc hp hn hj, hm, F.kp, hb⟩
theorem fnK_mk {x : Str} {st : Stmt} {ps N ks : List Str} {π : List Nat} {k n : Nat} {ms : List Md} {body : XS} (D : Dk W x st ps ks π) (Sc : FnScope N ps (defScope st)) (hp : ps.length = ms.length) (hn : N.length = ms.length + n) (hj : JSs { W with k := k } ⟨N, defScope st, true⟩ (defBody st) body) : FnK W (k + 1) x (mkFS ms n body) ks π := by
  obtain ⟨f, fd, F, hm, _, hb⟩ := D.ex
  exact ⟨f, fd, ps, fnOk_mk F Sc hp hn hj, hm, F.kp, hb⟩
/-- a def that is not to be called -/
def fs0 (ms : List Md) : FS := ⟨ms, fun _ => none, fun os r fins h => by cases h⟩
theorem fnI_0 {x : Str} {st : Stmt} {ps : List Str} {k : Nat} {ms : List Md} (D : Df W x st ps) : FnI W k x (fs0 ms) := by
  obtain ⟨f, fd, F, hm, hb⟩ := D.ex
  refine ⟨f, fd, ps, ⟨fun vs H Q E h => ?_, fun A outer s H args us vs Q E _ _ _ _ h => ?_⟩, hm, F.kp, hb⟩
  · obtain ⟨_, _, _, _, _, _, _, _, _, z, _⟩ := h
    cases z
  · obtain ⟨_, _, _, _, _, _, _, _, _, z, _⟩ := h
    cases z
theorem FnI.at {k j : Nat} {x : Str} {F : FS} (h : FnI W k x F) : FnI { W with k := j } k x F := ⟨h.ex⟩
theorem reps_ints {K : Frag} {S : Hp} : ∀ ns : List Int, Reps K S (ns.map .int) (ns.map V.int)
  | [] => .nil
  | n :: ns => .cons (.int n) (reps_ints ns)
/-- the law's own promise, from what it computes -/
theorem law_sp {K : Frag} {F : FS} {H : Hp} {a : Addr} {ns : List Int} {E : XK} (hS : SqL K H a (ns.map V.int)) (h : F.ms.length = 1 ∧ ∃ fins, F.f [.sh (.list (ns.map .int))] = some (.sh (.bool true), fins)) : spF K F [.ref a] H (fun v _ => v = .bl true) E := by
  obtain ⟨h0, fins, h1⟩ := h
  refine ⟨H, [.sh (.list (ns.map .int))], [], .sh (.bool true), fins, Same.refl H, .cons (f := []) (.sh (.lst hS (reps_ints ns))) .nil, .nil, h0.symm, h1, fun v S' H' fo fp' hs ro _ _ _ => bl_view ro⟩
end PL

namespace PL
open PySem PySem.Spec PyProof.Rows L2
def bnd {α β : Type} (a : Option α) (k : α → Option β) : Option β := a.bind k
def mpo {α β : Type} (a : Option α) (k : α → β) : Option β := a.map k
theorem bnd_some {α β : Type} (x : α) (k : α → Option β) : bnd (some x) k = k x := rfl
theorem mpo_some {α β : Type} (x : α) (k : α → β) : mpo (some x) k = some (k x) := rfl
/-- what goes on behind a part, kept as an instance: simp looks at the part alone -/
class Kt (α β : Type) where
  f : α → β
def bndI {α β : Type} (a : Option α) [k : Kt α (Option β)] : Option β := a.bind k.f
def mpoI {α β : Type} (a : Option α) [k : Kt α β] : Option β := a.map k.f
@[simp ↓] theorem bnd_pre {α β : Type} (a : Option α) (k : α → Option β) : bnd a k = @bndI α β a ⟨k⟩ := rfl
@[simp ↓] theorem mpo_pre {α β : Type} (a : Option α) (k : α → β) : mpo a k = @mpoI α β a ⟨k⟩ := rfl
@[simp] theorem bndI_some {α β : Type} (x : α) (k : α → Option β) : @bndI α β (some x) ⟨k⟩ = k x := rfl
@[simp] theorem bndI_none {α β : Type} (k : α → Option β) : @bndI α β none ⟨k⟩ = none := rfl
@[simp] theorem mpoI_some {α β : Type} (x : α) (k : α → β) : @mpoI α β (some x) ⟨k⟩ = some (k x) := rfl
@[simp] theorem mpoI_none {α β : Type} (k : α → β) : @mpoI α β none ⟨k⟩ = none := rfl
@[simp] theorem ev_sLRg1 (f : XD) (ρ : Ev) : sLRg1 f ρ = match f ρ with
  | some (.int n, ρ1) => if n ≤ 16777216 ∧ -16777216 ≤ n then some (.ol ((List.range n.toNat).map fun k => .sh (.int (k : Nat))), ρ1) else none
  | _ => none := rfl
@[simp] theorem ev_sDict1 (k v : Int) (ρ : Ev) : sDict1 k v ρ = some (.sh (.dict [(.int k, .int v)]), ρ) := rfl
@[simp] theorem ev_callF (F : FS) (a : XA) (ρ : Ev) : callF F a ρ = bnd (a ρ) fun x => bnd (takeO x.1 F.ms x.2) fun y => if y.1.length = F.ms.length then mpo (F.f y.1) fun z => (z.1, putO y.2.1 z.2 y.2.2) else none := rfl
@[simp] theorem ev_aReord (π : List Nat) (a : XA) (ρ : Ev) : aReord π a ρ = mpo (a ρ) fun x => (reord π x.1, x.2) := rfl
@[simp] theorem ev_sComp (it : XI) (vs : List Nat) (g : XG) (c : XB) (e : XF) (ρ : Ev) : sComp it vs g c e ρ = bnd (it ρ) fun x => if compOk vs x.1.lk x.2 && decide (x.1.ds.length < 16777216) then
  mpo (compF vs g c e x.1.ds (wipeE x.2 vs)) fun z => (.ol z.1, unlock x.1.lk (unwipe x.2 vs z.2)) else none := rfl
@[simp] theorem ev_iEnum (f : XD) (ρ : Ev) : iEnum f ρ = match f ρ with
  | some (.list ds, ρ1) => some (⟨enumD 0 ds, none⟩, ρ1)
  | some (.tuple ds, ρ1) => some (⟨enumD 0 ds, none⟩, ρ1)
  | _ => none := rfl
@[simp] theorem ev_dVar (i : Nat) (ρ : Ev) : dVar i ρ = match ρ[i]? with
  | some (some (.ow (.sh d))) => some (d, ρ)
  | some (some (.ow (.ol os))) => some (O.toD (.ol os), ρ.set i (some (.ow (.sh (O.toD (.ol os))))))
  | some (some (.lk (.sh d))) => some (d, ρ)
  | some (some (.pa _ (.sh d))) => some (d, ρ)
  | _ => none := rfl
@[simp] theorem ev_mVar (i : Nat) (ρ : Ev) : mVar i ρ = match ρ[i]? with
  | some (some (.ow o)) => some (o, ρ.set i none)
  | some (some (.lk (.sh d))) => some (.sh d, ρ)
  | some (some (.pa _ (.sh d))) => some (.sh d, ρ)
  | _ => none := rfl
@[simp] theorem ev_dC (d : D) (ρ : Ev) : dC d ρ = some (d, ρ) := rfl
@[simp] theorem ev_bAnd (f g : XB) (ρ : Ev) : bAnd f g ρ = bnd (f ρ) fun x => if x.1 then g x.2 else some (false, x.2) := rfl
@[simp] theorem ev_bOr (f g : XB) (ρ : Ev) : bOr f g ρ = bnd (f ρ) fun x => if x.1 then some (true, x.2) else g x.2 := rfl
@[simp] theorem ev_bNot (f : XB) (ρ : Ev) : bNot f ρ = mpo (f ρ) fun x => (!x.1, x.2) := rfl
@[simp] theorem ev_sIf (c : XB) (f g : XF) (ρ : Ev) : sIf c f g ρ = bnd (c ρ) fun x => if x.1 then f x.2 else g x.2 := rfl
@[simp] theorem ev_sChain (u u' : O → O → Option O) (p q s : XP) (ρ : Ev) : sChain u u' p q s ρ = bnd (p ρ) fun x => bnd (q x.2) fun y => bnd (x.1.o y.2) fun o1 => bnd (y.1.o y.2) fun o2 => match u o1 o2 with
  | some (.sh (.bool true)) => bnd (s y.2) fun z => bnd (y.1.o z.2) fun o2' => bnd (z.1.o z.2) fun o3 => mpo (u' o2' o3) fun o => (o, z.2)
  | some (.sh (.bool false)) => some (.sh (.bool false), y.2)
  | _ => none := rfl
@[simp] theorem ev_oNone (ρ : Ev) : oNone  ρ = some (none, ρ) := rfl
@[simp] theorem ev_oSome (f : XD) (ρ : Ev) : oSome f ρ = match f ρ with
  | some (.int i, ρ') => some (some i, ρ')
  | _ => none := rfl
@[simp] theorem ev_sSl (u : O → Option Int → Option Int → Option O) (p : XP) (l h : XO) (ρ : Ev) : sSl u p l h ρ = bnd (p ρ) fun x => bnd (l x.2) fun y => bnd (h y.2) fun z => bnd (x.1.o z.2) fun o => mpo (u o y.1 z.1) fun o' => (o', z.2) := rfl
@[simp] theorem ev_xFor (it : XI) (g : XG) (f : XS) (ρ : Ev) : xFor it g f ρ = bnd (it ρ) fun x => mpo (forF g f x.1.ds x.2) fun r => r.map (unlock x.1.lk) := rfl
def rgOk (n : Int) : Bool := decide (-(2 ^ 62) ≤ n) && decide (n < 2 ^ 62)
theorem p62 : (2 : Int) ^ 62 = 4611686018427387904 := by decide
theorem rgOk_of {n : Int} (h0 : -1000000000 ≤ n) (h1 : n ≤ 1000000000) : rgOk n = true := by
  unfold rgOk
  rw [p62, decide_eq_true (show -4611686018427387904 ≤ n by omega), decide_eq_true (show n < 4611686018427387904 by omega)]
  rfl
theorem rgOk_iff {n : Int} : (-(2 ^ 62) ≤ n ∧ n < 2 ^ 62) = (rgOk n = true) := by
  unfold rgOk
  rw [Bool.and_eq_true, decide_eq_true_eq, decide_eq_true_eq]
@[simp] theorem ev_iRange (f : XD) (ρ : Ev) : iRange f ρ = match f ρ with
  | some (.int n, ρ1) => if rgOk n = true then some (⟨(List.range n.toNat).map fun k => .int (k : Nat), none⟩, ρ1) else none
  | _ => none := by
  unfold iRange
  cases hf : f ρ with
  | none => rfl
  | some p =>
    obtain ⟨d, ρ1⟩ := p
    cases d <;> first
      | (simp only [rgOk_iff]; done)
      | rfl
@[simp] theorem ev_iRange2 (f g : XD) (ρ : Ev) : iRange2 f g ρ = match f ρ with
  | some (.int m, ρ1) => match g ρ1 with
    | some (.int n, ρ2) => if rgOk m = true ∧ rgOk n = true then some (⟨(List.range (n - m).toNat).map fun k => .int (m + (k : Nat)), none⟩, ρ2) else none
    | _ => none
  | _ => none := by
  unfold iRange2
  cases hf : f ρ with
  | none => rfl
  | some p =>
    obtain ⟨d, ρ1⟩ := p
    cases d <;> first
      | rfl
      | skip
    show (match g ρ1 with
      | some (.int n, ρ2) => _
      | _ => none) = _
    cases hg : g ρ1 with
    | none => simp only [hg]
    | some p =>
      obtain ⟨d, ρ2⟩ := p
      cases d <;> simp only [hg, ← rgOk_iff, and_assoc]
@[simp] theorem ev_iSeq (f : XD) (ρ : Ev) : iSeq f ρ = match f ρ with
  | some (.list ds, ρ1) => some (⟨ds, none⟩, ρ1)
  | some (.tuple ds, ρ1) => some (⟨ds, none⟩, ρ1)
  | _ => none := rfl
@[simp] theorem ev_iVar (i : Nat) (ρ : Ev) : iVar i ρ = match ρ[i]? with
  | some (some b) => match b.o with
    | .ol os => mpo (O.shs os) fun ds => (⟨ds, some (i, b)⟩, ρ.set i (some (.lk (.ol os))))
    | .sh (.list ds) => some (⟨ds, none⟩, ρ)
    | .sh (.tuple ds) => some (⟨ds, none⟩, ρ)
    | _ => none
  | _ => none := rfl
@[simp] theorem ev_sApp (i : Nat) (f : XF) (ρ : Ev) : sApp i f ρ = bnd (mutAt i ρ) fun _ => bnd (f ρ) fun x => bnd (mutAt i x.2) fun y => if y.2.length < 16777216 then some (.sh .none, x.2.set i (some (y.1.put (.ol (y.2 ++ [x.1]))))) else none := rfl
@[simp] theorem ev_sMt (i : Nat) (u : List O → List O → Option (D × List O)) (f : XA) (ρ : Ev) : sMt i u f ρ = bnd (mutAt i ρ) fun _ => bnd (f ρ) fun x => bnd (opds x.2 x.1) fun args => bnd (mutAt i x.2) fun y => mpo (u y.2 args) fun z => (.sh z.1, x.2.set i (some (y.1.put (.ol z.2)))) := rfl
@[simp] theorem ev_xSet (i : Nat) (fi : XD) (f : XF) (ρ : Ev) : xSet i fi f ρ = bnd (f ρ) fun x => bnd (mutAt i x.2) fun _ => match fi x.2 with
  | some (.int k, ρ2) => bnd (mutAt i ρ2) fun y => mpo (ixN y.2.length k) fun j => .nx (ρ2.set i (some (y.1.put (.ol (y.2.set j x.1)))))
  | _ => none := rfl
@[simp] theorem ev_frD (f : XF) (ρ : Ev) : frD f ρ = mpo (f ρ) fun p => (p.1.toD, p.2) := rfl
@[simp] theorem ev_toO (f : XD) (ρ : Ev) : toO f ρ = mpo (f ρ) fun p => (.sh p.1, p.2) := rfl
@[simp] theorem ev_opE (f : XD) (ρ : Ev) : opE f ρ = mpo (f ρ) fun p => (.vl p.1, p.2) := rfl
@[simp] theorem ev_opV (i : Nat) (ρ : Ev) : opV i ρ = match ρ[i]? with
  | some (some _) => some (.sl i, ρ)
  | _ => none := rfl
@[simp] theorem ev_toB (f : XD) (ρ : Ev) : toB f ρ = match f ρ with
  | some (.bool b, ρ') => some (b, ρ')
  | _ => none := rfl
@[simp] theorem ev_ofB (f : XB) (ρ : Ev) : ofB f ρ = mpo (f ρ) fun p => (.bool p.1, p.2) := rfl
@[simp] theorem ev_sUn (u : O → Option O) (p : XP) (ρ : Ev) : sUn u p ρ = bnd (p ρ) fun x => bnd (x.1.o x.2) fun o => mpo (u o) fun o' => (o', x.2) := rfl
@[simp] theorem ev_sBin (u : O → O → Option O) (p q : XP) (ρ : Ev) : sBin u p q ρ = bnd (p ρ) fun x => bnd (q x.2) fun y => bnd (x.1.o y.2) fun o1 => bnd (y.1.o y.2) fun o2 => mpo (u o1 o2) fun o' => (o', y.2) := rfl
@[simp] theorem ev_sCall (u : List O → Option O) (f : XA) (ρ : Ev) : sCall u f ρ = bnd (f ρ) fun x => bnd (opds x.2 x.1) fun os => mpo (u os) fun o' => (o', x.2) := rfl
@[simp] theorem ev_aNil (ρ : Ev) : aNil  ρ = some ([], ρ) := rfl
@[simp] theorem ev_aCons (p : XP) (f : XA) (ρ : Ev) : aCons p f ρ = bnd (p ρ) fun x => mpo (f x.2) fun y => (x.1 :: y.1, y.2) := rfl
@[simp] theorem ev_lNil (ρ : Ev) : lNil  ρ = some ([], ρ) := rfl
@[simp] theorem ev_lCons (f : XF) (g : XL) (ρ : Ev) : lCons f g ρ = bnd (f ρ) fun x => mpo (g x.2) fun y => (x.1 :: y.1, y.2) := rfl
def okN : Option (Option Bd) → Bool
  | some (some (.ow _)) => true
  | some none => true
  | _ => false
@[simp] theorem okN1 (o : O) : okN (some (some (.ow o))) = true := rfl
@[simp] theorem okN2 : okN (some none) = true := rfl
@[simp] theorem okN3 (x : Option O) : okN (some (x.map .ow)) = true := by cases x <;> rfl
@[simp] theorem ev_gN (i : Nat) (o : O) (ρ : Ev) : gN i o ρ = if okN ρ[i]? = true then some (ρ.set i (some (.ow o))) else none := by
  unfold gN okN
  split <;> simp_all
@[simp] theorem ev_gsNil (ds : List D) (ρ : Ev) : gsNil  ds ρ = match ds with
  | [] => some ρ
  | _ => none := rfl
@[simp] theorem ev_gsCons (g : XG) (f : XGs) (ds : List D) (ρ : Ev) : gsCons g f ds ρ = match ds with
  | d :: r => bnd (g (.sh d) ρ) (f r)
  | [] => none := rfl
@[simp] theorem ev_gTup (n : Nat) (f : XGs) (o : O) (ρ : Ev) : gTup n f o ρ = match o.tup with
  | some ds => if ds.length = n then f ds ρ else none
  | none => none := rfl
@[simp] theorem ev_xNext (ρ : Ev) : xNext  ρ = some (.nx ρ) := rfl
@[simp] theorem ev_xBreak (ρ : Ev) : xBreak  ρ = some (.bk ρ) := rfl
@[simp] theorem ev_xCont (ρ : Ev) : xCont  ρ = some (.ct ρ) := rfl
@[simp] theorem ev_xNever (ρ : Ev) : xNever  ρ = none := rfl
@[simp] theorem ev_xSeq (f g : XS) (ρ : Ev) : xSeq f g ρ = match f ρ with
  | some (.nx ρ1) => g ρ1
  | r => r := rfl
@[simp] theorem ev_xDrop (f : XF) (ρ : Ev) : xDrop f ρ = mpo (f ρ) fun x => .nx x.2 := rfl
@[simp] theorem ev_xRet (f : XF) (ρ : Ev) : xRet f ρ = mpo (f ρ) fun x => .rt x.1 x.2 := rfl
@[simp] theorem ev_xRetN (ρ : Ev) : xRetN  ρ = some (.rt (.sh .none) ρ) := rfl
@[simp] theorem ev_xIf (c : XB) (f g : XS) (ρ : Ev) : xIf c f g ρ = bnd (c ρ) fun x => if x.1 then f x.2 else g x.2 := rfl
@[simp] theorem ev_xAsg (f : XF) (g : XG) (ρ : Ev) : xAsg f g ρ = bnd (f ρ) fun x => mpo (g x.1 x.2) .nx := rfl
@[simp] theorem ev_xPar (i j : Nat) (f : XL) (ρ : Ev) : xPar i j f ρ = match f ρ with
  | some ([o, p], ρ1) => bnd (gN i o ρ1) fun ρ2 => mpo (gN j p ρ2) .nx
  | _ => none := rfl
@[simp] theorem ev_xPar3 (i j l : Nat) (f : XL) (ρ : Ev) : xPar3 i j l f ρ = match f ρ with
  | some ([o, p, q], ρ1) => bnd (gN i o ρ1) fun ρ2 => bnd (gN j p ρ2) fun ρ3 => mpo (gN l q ρ3) .nx
  | _ => none := rfl

@[simp] theorem ev_mkFS (ms : List Md) (n : Nat) (body : XS) (os : List O) : (mkFS ms n body).f os = runF ms n body os := rfl
@[simp] theorem ev_mkms (ms : List Md) (n : Nat) (body : XS) : (mkFS ms n body).ms = ms := rfl
@[simp] theorem ev_opdsl (i : Nat) (ρ : Ev) : (Opd.sl i).o ρ = match ρ[i]? with
    | some (some b) => some b.o
    | _ => none := rfl
@[simp] theorem ev_opdvl (d : D) (ρ : Ev) : (Opd.vl d).o ρ = some (.sh d) := rfl
@[simp] theorem ev_opds0 (ρ : Ev) : opds ρ [] = some [] := rfl
@[simp] theorem ev_opds1 (ρ : Ev) (p : Opd) (ps : List Opd) : opds ρ (p :: ps) = bnd (p.o ρ) fun o => mpo (opds ρ ps) (o :: ·) := rfl
@[simp] theorem ev_owo (o : O) : (Bd.ow o).o = o := rfl
@[simp] theorem ev_lko (o : O) : (Bd.lk o).o = o := rfl
@[simp] theorem ev_pao (b : Bool) (o : O) : (Bd.pa b o).o = o := rfl
@[simp] theorem ev_owf (o : O) : (Bd.ow o).fixed = false := rfl
@[simp] theorem ev_lkf (o : O) : (Bd.lk o).fixed = true := rfl
@[simp] theorem ev_paf (b : Bool) (o : O) : (Bd.pa b o).fixed = !b := rfl
@[simp] theorem ev_owp (o o' : O) : (Bd.ow o).put o' = .ow o' := rfl
@[simp] theorem ev_pap (b : Bool) (o o' : O) : (Bd.pa b o).put o' = .pa b o' := rfl
@[simp] theorem ev_sht (d : D) : (O.sh d).toD = d := rfl
@[simp] theorem ev_mutAt (i : Nat) (ρ : Ev) : mutAt i ρ = match ρ[i]? with
  | some (some b) => if b.fixed then none else match b.o with
    | .ol os => some (b, os)
    | _ => none
  | _ => none := rfl
@[simp] theorem ev_wipe0 (ρ : Ev) : wipeE ρ [] = ρ := rfl
@[simp] theorem ev_wipe1 (ρ : Ev) (v : Nat) (vs : List Nat) : wipeE ρ (v :: vs) = (wipeE ρ vs).set v none := rfl
@[simp] theorem ev_unw0 (ρ ρ0 : Ev) : unwipe ρ0 [] ρ = ρ := rfl
@[simp] theorem ev_unw1 (ρ ρ0 : Ev) (v : Nat) (vs : List Nat) : unwipe ρ0 (v :: vs) ρ = match ρ0[v]? with
    | some (some (.ow (.sh d))) => (unwipe ρ0 vs ρ).set v (some (.ow (.sh d)))
    | _ => unwipe ρ0 vs ρ := rfl
@[simp] theorem ev_unl0 (ρ : Ev) : unlock none ρ = ρ := rfl
@[simp] theorem ev_unl1 (ρ : Ev) (i : Nat) (b : Bd) : unlock (some (i, b)) ρ = ρ.set i (some b) := rfl
@[simp] theorem ev_rnx (f : Ev → Ev) (ρ : Ev) : (Res.nx ρ).map f = .nx (f ρ) := rfl
@[simp] theorem ev_rrt (f : Ev → Ev) (o : O) (ρ : Ev) : (Res.rt o ρ).map f = .rt o (f ρ) := rfl
@[simp] theorem ev_for0 (g : XG) (f : XS) (ρ : Ev) : forF g f [] ρ = some (.nx ρ) := rfl
@[simp] theorem ev_run (ms : List Md) (n : Nat) (body : XS) (os : List O) : runF ms n body os = bnd (entryB ms os) fun ρ0 => match body (ρ0 ++ List.replicate n none) with
  | some (.rt r ρ') => mpo (finF ms os ρ') fun fins => (r, fins)
  | some (.nx ρ') => mpo (finF ms os ρ') fun fins => (.sh .none, fins)
  | _ => none := rfl
@[simp] theorem ev_en0 : entryB [] [] = some [] := rfl
@[simp] theorem ev_en1 (ms : List Md) (d : D) (os : List O) : entryB (.sh :: ms) (.sh d :: os) = mpo (entryB ms os) fun r => some (.ow (.sh d)) :: r := rfl
@[simp] theorem ev_en2 (ms : List Md) (o : O) (os : List O) : entryB (.br :: ms) (o :: os) = mpo (entryB ms os) fun r => some (.pa false o) :: r := by cases o <;> rfl
@[simp] theorem ev_en3 (ms : List Md) (o : O) (os : List O) : entryB (.io :: ms) (o :: os) = mpo (entryB ms os) fun r => some (.pa true o) :: r := by cases o <;> rfl
@[simp] theorem ev_fi0 (ρ : Ev) : finF [] [] ρ = some [] := by cases ρ <;> rfl
@[simp] theorem ev_fi1 (ms : List Md) (o : O) (os : List O) (b : Option Bd) (ρ : Ev) : finF (.sh :: ms) (o :: os) (b :: ρ) = mpo (finF ms os ρ) (o :: ·) := rfl
@[simp] theorem ev_fi2 (ms : List Md) (o : O) (os : List O) (b : Option Bd) (ρ : Ev) : finF (.br :: ms) (o :: os) (b :: ρ) = mpo (finF ms os ρ) (o :: ·) := rfl
@[simp] theorem ev_fi3 (ms : List Md) (o o' : O) (os : List O) (ρ : Ev) : finF (.io :: ms) (o :: os) (some (.pa true o') :: ρ) = mpo (finF ms os ρ) (o' :: ·) := rfl
@[simp] theorem ev_tk0 (ms : List Md) (ρ : Ev) : takeO [] ms ρ = some ([], [], ρ) := by cases ms <;> rfl
@[simp] theorem ev_tk1 (m : Md) (ms : List Md) (d : D) (ps : List Opd) (ρ : Ev) : takeO (.vl d :: ps) (m :: ms) ρ = mpo (takeO ps ms ρ) fun x => (.sh d :: x.1, none :: x.2.1, x.2.2) := rfl
@[simp] theorem ev_tk2 (m : Md) (ms : List Md) (i : Nat) (ps : List Opd) (ρ : Ev) : takeO (.sl i :: ps) (m :: ms) ρ = match ρ[i]? with
    | some (some b) => match b.o with
      | .sh d => mpo (takeO ps ms ρ) fun x => (.sh d :: x.1, none :: x.2.1, x.2.2)
      | .ol os => match m with
        | .io => if b.fixed then none else mpo (takeO ps ms (ρ.set i none)) fun x => (.ol os :: x.1, some (i, b, true) :: x.2.1, x.2.2)
        | .br => mpo (takeO ps ms (ρ.set i none)) fun x => (.ol os :: x.1, some (i, b, false) :: x.2.1, x.2.2)
        | .sh => none
    | _ => none := rfl
@[simp] theorem ev_pu0 (os : List O) (ρ : Ev) : putO [] os ρ = ρ := by cases os <;> rfl
@[simp] theorem ev_pu1 (is : List PutI) (o : O) (os : List O) (ρ : Ev) : putO (none :: is) (o :: os) ρ = putO is os ρ := rfl
@[simp] theorem ev_pu2 (i : Nat) (b : Bd) (io : Bool) (is : List PutI) (o : O) (os : List O) (ρ : Ev) : putO (some (i, b, io) :: is) (o :: os) ρ = putO is os (ρ.set i (some (if io then b.put o else b))) := rfl
/-! ### values -/
@[simp] theorem ev_II (C : Int → Int → Bool) (g : Int → Int → D) (i j : Int) : uII C g (.sh (.int i)) (.sh (.int j)) = if C i j then some (.sh (g i j)) else none := rfl
@[simp] theorem ev_subI (i j : Int) : uSubI (.sh (.int i)) (.sh (.int j)) = some (.sh (.int (i - j))) := rfl
@[simp] theorem ev_addI (i j : Int) : uAdd (.sh (.int i)) (.sh (.int j)) = some (.sh (.int (i + j))) := rfl
@[simp] theorem ev_divI (i j : Int) : uDivI (.sh (.int i)) (.sh (.int j)) = if divOk i j then some (.sh (.int (i / j))) else none := rfl
@[simp] theorem ev_modI (i j : Int) : uModI (.sh (.int i)) (.sh (.int j)) = if modOk i j then some (.sh (.int (i % j))) else none := rfl
@[simp] theorem ev_powI (i j : Int) : uPowI (.sh (.int i)) (.sh (.int j)) = if powOk i j then some (.sh (.int (i ^ j.toNat))) else none := rfl
@[simp] theorem ev_mulI (i j : Int) (h : mulOk i j = true) : uMul (.sh (.int i)) (.sh (.int j)) = some (.sh (.int (i * j))) := by unfold uMul uMulI uII; simp [h]
@[simp] theorem ev_ltI (i j : Int) : uLtI (.sh (.int i)) (.sh (.int j)) = some (.sh (.bool (decide (i < j)))) := rfl
@[simp] theorem ev_leI (i j : Int) : uLeI (.sh (.int i)) (.sh (.int j)) = some (.sh (.bool (decide (i ≤ j)))) := rfl
@[simp] theorem ev_gtI (i j : Int) : uGtI (.sh (.int i)) (.sh (.int j)) = some (.sh (.bool (decide (j < i)))) := rfl
@[simp] theorem ev_geI (i j : Int) : uGeI (.sh (.int i)) (.sh (.int j)) = some (.sh (.bool (decide (j ≤ i)))) := rfl
@[simp] theorem ev_negI (i : Int) : uNegI (.sh (.int i)) = some (.sh (.int (-i))) := rfl
@[simp] theorem ev_int1 (i : Int) : uInt [.sh (.int i)] = some (.sh (.int i)) := rfl
@[simp] theorem ev_int2 (b : Bool) : uInt [.sh (.bool b)] = some (.sh (.int (if b then 1 else 0))) := rfl
@[simp] theorem ev_abs (i : Int) : uAbs [.sh (.int i)] = some (.sh (.int (if i < 0 then -i else i))) := rfl
@[simp] theorem ev_max2 (i j : Int) : uMax [.sh (.int i), .sh (.int j)] = some (.sh (.int (if j > i then j else i))) := rfl
@[simp] theorem ev_min2 (i j : Int) : uMin [.sh (.int i), .sh (.int j)] = some (.sh (.int (if j < i then j else i))) := rfl
@[simp] theorem ev_lenO (os : List O) : uLen [.ol os] = some (.sh (.int os.length)) := rfl
@[simp] theorem ev_lenL (ds : List D) : uLen [.sh (.list ds)] = some (.sh (.int ds.length)) := rfl
@[simp] theorem ev_lenT (ds : List D) : uLen [.sh (.tuple ds)] = some (.sh (.int ds.length)) := rfl
theorem ev_lenS (x : Str) : uLen [.sh (.str x)] = if x.length ≤ 16777216 then some (.sh (.int x.length)) else none := rfl
@[simp] theorem ev_intsOf (ns : List Int) : intsOf (ns.map .int) = some ns := intsOf_map ns
@[simp] theorem ev_intsOf0 : intsOf [] = some [] := rfl
@[simp] theorem ev_sumT (ds : List D) : uSum [.sh (.tuple ds)] = mpo (intsOf ds) fun ns => .sh (.int ns.sum) := by
  unfold uSum uL1 uT1 kSum; simp; rfl
@[simp] theorem ev_sumL (ds : List D) : uSum [.sh (.list ds)] = mpo (intsOf ds) fun ns => .sh (.int ns.sum) := by
  unfold uSum uL1 uT1 kSum; simp; rfl
@[simp] theorem ev_sumO (ds : List D) : uSum [.ol (ds.map .sh)] = mpo (intsOf ds) fun ns => .sh (.int ns.sum) := by
  unfold uSum uL1 uT1 kSum; simp [O.shs_map]; rfl
@[simp] theorem ev_slT (ds : List D) (l k : Option Int) : uSl (.sh (.tuple ds)) l k = some (.sh (.tuple (cutD ds l k))) := by unfold uSl uSlL uSlT; simp
@[simp] theorem ev_slL (ds : List D) (l k : Option Int) : uSl (.sh (.list ds)) l k = some (.ol ((cutD ds l k).map .sh)) := by unfold uSl uSlL uSlT; simp
@[simp] theorem ev_slO (ds : List D) (l k : Option Int) : uSl (.ol (ds.map .sh)) l k = some (.ol ((cutD ds l k).map .sh)) := by unfold uSl uSlL uSlT; simp [O.shs_map]
@[simp] theorem ev_ixT (ds : List D) (i : Int) : uIx (.sh (.tuple ds)) (.sh (.int i)) = mpo (atI ds i) .sh := by unfold uIx uIxL uIxT uIxS mpo; simp
@[simp] theorem ev_ixL (ds : List D) (i : Int) : uIx (.sh (.list ds)) (.sh (.int i)) = mpo (atI ds i) .sh := by unfold uIx uIxL uIxT uIxS mpo; simp
@[simp] theorem ev_ixO (os : List O) (i : Int) : uIx (.ol os) (.sh (.int i)) = bnd (O.shs os) fun ds => mpo (atI ds i) .sh := by
  have e : uIx (.ol os) (.sh (.int i)) = uIxL (.ol os) (.sh (.int i)) := by
    unfold uIx uIxT uIxS
    simp
  rw [e]
  unfold uIxL
  rw [lst_ol]
  cases O.shs os <;> rfl
@[simp] theorem ev_revT (ds : List D) : uRev (.sh (.tuple ds)) = some (.sh (.tuple ds.reverse)) := by unfold uRev uRevL uRevT; simp
@[simp] theorem ev_shs0 : O.shs [] = some [] := rfl
@[simp] theorem ev_shs1 (d : D) (os : List O) : O.shs (.sh d :: os) = mpo (O.shs os) (d :: ·) := rfl
@[simp] theorem ev_shsm (ds : List D) : O.shs (ds.map .sh) = some ds := O.shs_map ds
@[simp] theorem ev_catT (xs ys : List D) (h : xs.length + ys.length ≤ 16777216) : uAdd (.sh (.tuple xs)) (.sh (.tuple ys)) = some (.sh (.tuple (xs ++ ys))) := by
  unfold uAdd uAddI uII uCatL uCatT; simp [h]
@[simp] theorem ev_repT (xs : List D) (k : Int) : uMul (.sh (.tuple xs)) (.sh (.int k)) = if k = 1 then some (.sh (.tuple xs)) else if xs ≠ [] ∧ 2 ≤ k ∧ k ≤ 1000 ∧ xs.length ≤ 1000 then some (.sh (.tuple (List.replicate k.toNat xs).flatten)) else none := by
  unfold uMul uMulI uII uRepL uRepT; simp
@[simp] theorem ev_tupofT (ds : List D) : uTupleOf [.sh (.tuple ds)] = some (.sh (.tuple ds)) := rfl
@[simp] theorem ev_bne (x : Bool) : uIs (.sh .none) (.sh .none) = some (.sh (.bool true)) := rfl
@[simp] theorem ev_isN (o : O) : uIs o (.sh .none) = some (.sh (.bool o.isNone)) := by unfold uIs; cases o <;> rfl
@[simp] theorem ev_isntN (o : O) : uIsNot o (.sh .none) = some (.sh (.bool (!o.isNone))) := by unfold uIsNot; cases o <;> rfl
@[simp] theorem ev_isB (a b : Bool) : uIs (.sh (.bool a)) (.sh (.bool b)) = some (.sh (.bool (a == b))) := rfl
@[simp] theorem ev_isi (T : String) (o : O) : uIsi T o = if clsOk T then some (.sh (.bool (instOf (tyO o) T))) else none := rfl
@[simp] theorem ev_nn (d : D) : O.isNone (.sh d) = D.isNone d := rfl
@[simp] theorem ev_tup (os : List O) (h : os.length ≤ 100) : uTup os = mpo (O.shs os) fun ds => .sh (.tuple ds) := if_pos (Nat.le_trans h (by decide))
@[simp] theorem ev_lst (os : List O) (h : os.length ≤ 100) : uLst os = mpo (O.shs os) fun ds => .ol (ds.map .sh) := if_pos (Nat.le_trans h (by decide))
@[simp] theorem ev_lofT (ds : List D) : uListOf [.sh (.tuple ds)] = some (.ol (ds.map .sh)) := rfl
@[simp] theorem ev_lofL (ds : List D) : uListOf [.sh (.list ds)] = some (.ol (ds.map .sh)) := rfl
@[simp] theorem ev_lofO (ds : List D) : uListOf [.ol (ds.map .sh)] = some (.ol (ds.map .sh)) := by unfold uListOf O.seq; simp
@[simp] theorem ev_tofO (ds : List D) : uTupleOf [.ol (ds.map .sh)] = some (.sh (.tuple ds)) := by unfold uTupleOf O.seq; simp
@[simp] theorem ev_tofL (ds : List D) : uTupleOf [.sh (.list ds)] = some (.sh (.tuple ds)) := rfl
@[simp] theorem eqv_ii (i j : Int) : PyData.eqv (.int i) (.int j) = (i == j) := rfl
@[simp] theorem eqv_bb (i j : Bool) : PyData.eqv (.bool i) (.bool j) = (i == j) := rfl
@[simp] theorem eqv_bi (i : Bool) (j : Int) : PyData.eqv (.bool i) (.int j) = ((if i then 1 else 0) == j) := rfl
@[simp] theorem eqv_ib (i : Int) (j : Bool) : PyData.eqv (.int i) (.bool j) = (i == (if j then 1 else 0)) := rfl
@[simp] theorem shp_i (i : Int) : shp (.sh (.int i)) = true := rfl
@[simp] theorem shp_b (i : Bool) : shp (.sh (.bool i)) = true := rfl
@[simp] theorem shp_n : shp (.sh .none) = true := rfl
@[simp] theorem ev_eqII (i j : Int) : uEq (.sh (.int i)) (.sh (.int j)) = some (.sh (.bool (i == j))) := rfl
@[simp] theorem ev_eqBB (i j : Bool) : uEq (.sh (.bool i)) (.sh (.bool j)) = some (.sh (.bool (i == j))) := rfl
@[simp] theorem ev_neBB (i j : Bool) : uNe (.sh (.bool i)) (.sh (.bool j)) = some (.sh (.bool (!(i == j)))) := rfl
@[simp] theorem ev_neII (i j : Int) : uNe (.sh (.int i)) (.sh (.int j)) = some (.sh (.bool (!(i == j)))) := rfl
@[simp] theorem ev_cp0 (vs : List Nat) (g : XG) (c : XB) (e : XF) (ρ : Ev) : compF vs g c e [] ρ = some ([], ρ) := rfl
theorem ev_cp1 (vs : List Nat) (g : XG) (c : XB) (e : XF) (d : D) (ds : List D) (ρ : Ev) : compF vs g c e (d :: ds) ρ = bnd (g (.sh d) ρ) fun ρ1 => bnd (c ρ1) fun x => if x.1 then bnd (e x.2) fun y => mpo (compF vs g c e ds (wipeE y.2 vs)) fun z => (y.1 :: z.1, z.2)
    else compF vs g c e ds (wipeE x.2 vs) := rfl
theorem ev_for1 (g : XG) (f : XS) (d : D) (ds : List D) (ρ : Ev) : forF g f (d :: ds) ρ = bnd (g (.sh d) ρ) fun ρ1 => match f ρ1 with
    | some (.nx ρ2) => forF g f ds ρ2
    | some (.ct ρ2) => forF g f ds ρ2
    | some (.bk ρ2) => some (.nx ρ2)
    | some (.rt o ρ2) => some (.rt o ρ2)
    | none => none := rfl
@[simp] theorem ev_cok (vs : List Nat) (ρ : Ev) : compOk vs none ρ = vs.all fun v => match ρ[v]? with | some (some b) => !b.fixed | _ => true := by
  exact Bool.and_true _
@[simp] theorem ev_cok1 (vs : List Nat) (i : Nat) (b : Bd) (ρ : Ev) : compOk vs (some (i, b)) ρ = ((vs.all fun v => match ρ[v]? with | some (some b) => !b.fixed | _ => true) && !vs.contains i) := rfl
@[simp] theorem ev_olt (os : List O) : (O.ol os).toD = .list (O.toDs os) := by simp only [O.toD]
@[simp] theorem ev_tds0 : O.toDs [] = [] := rfl
@[simp] theorem ev_tds1 (o : O) (os : List O) : O.toDs (o :: os) = o.toD :: O.toDs os := by simp only [O.toDs]
@[simp] theorem ev_tdsm (ds : List D) : O.toDs (ds.map .sh) = ds := by
  induction ds with
  | nil => rfl
  | cons d ds ih => simp only [List.map_cons, ev_tds1, ih, ev_sht]
@[simp] theorem ev_all (bs : List Bool) : uL1 kAll [.sh (.list (bs.map .bool))] = some (.sh (.bool (bs.all id))) := by
  show (some (bs.map PyData.bool)).bind kAll = _
  unfold kAll
  rw [Option.bind_some, boolsOf_map, Option.map_some]
@[simp] theorem atI_0 {α : Type} (a : α) (l : List α) : atI (a :: l) 0 = some a := atI_nat (j := 0) rfl
@[simp] theorem atI_1 {α : Type} (a b : α) (l : List α) : atI (a :: b :: l) 1 = some b := atI_nat (j := 1) rfl
@[simp] theorem atI_2 {α : Type} (a b c : α) (l : List α) : atI (a :: b :: c :: l) 2 = some c := atI_nat (j := 2) rfl
@[simp] theorem atI_3 {α : Type} (a b c d : α) (l : List α) : atI (a :: b :: c :: d :: l) 3 = some d := atI_nat (j := 3) rfl
end PL

namespace L67
open PySem PySem.Spec PyProof.Rows L2 PL
def topS (i : Nat) : Stmt := PySem.Challenge.pw_planwide_k67_whole_working_days_as_inver.main.body.getD i (.Pass ⟨0, 0, 0, 0⟩)
/-! _law_box -/
abbrev st_law_box : Stmt := topS 22
def N_law_box : List Str := ["great"]
def p_law_box : List Str := ["great"]
theorem nd_law_box : N_law_box.Nodup := by decide +kernel
theorem sc_law_box : FnScope N_law_box p_law_box (defScope st_law_box) := ⟨rfl, rfl, rfl, nd_law_box, rfl, by decide +kernel, by decide +kernel⟩
/-! _law_cell -/
abbrev st_law_cell : Stmt := topS 21
def N_law_cell : List Str := ["script", "k"]
def p_law_cell : List Str := ["script", "k"]
theorem nd_law_cell : N_law_cell.Nodup := by decide +kernel
theorem sc_law_cell : FnScope N_law_cell p_law_cell (defScope st_law_cell) := ⟨rfl, rfl, rfl, nd_law_cell, rfl, by decide +kernel, by decide +kernel⟩
/-! _law_take -/
abbrev st_law_take : Stmt := topS 23
def N_law_take : List Str := ["box", "many", "mixed", "digit"]
def p_law_take : List Str := ["box", "many"]
theorem nd_law_take : N_law_take.Nodup := by decide +kernel
theorem sc_law_take : FnScope N_law_take p_law_take (defScope st_law_take) := ⟨rfl, rfl, rfl, nd_law_take, rfl, by decide +kernel, by decide +kernel⟩
/-! _law_calendar -/
abbrev st_law_calendar : Stmt := topS 27
def N_law_calendar : List Str := ["box", "days", "many", "way", "at", "day"]
def p_law_calendar : List Str := ["box"]
theorem nd_law_calendar : N_law_calendar.Nodup := by decide +kernel
theorem sc_law_calendar : FnScope N_law_calendar p_law_calendar (defScope st_law_calendar) := ⟨rfl, rfl, rfl, nd_law_calendar, rfl, by decide +kernel, by decide +kernel⟩
/-! _law_days -/
abbrev st_law_days : Stmt := topS 28
def N_law_days : List Str := ["calendar", "many", "found", "day"]
def p_law_days : List Str := ["calendar", "many"]
theorem nd_law_days : N_law_days.Nodup := by decide +kernel
theorem sc_law_days : FnScope N_law_days p_law_days (defScope st_law_days) := ⟨rfl, rfl, rfl, nd_law_days, rfl, by decide +kernel, by decide +kernel⟩
/-! _law_same -/
abbrev st_law_same : Stmt := topS 25
def N_law_same : List Str := ["given", "due", "k"]
def p_law_same : List Str := ["given", "due"]
theorem nd_law_same : N_law_same.Nodup := by decide +kernel
theorem sc_law_same : FnScope N_law_same p_law_same (defScope st_law_same) := ⟨rfl, rfl, rfl, nd_law_same, rfl, by decide +kernel, by decide +kernel⟩
/-! is_integer -/
abbrev st_is_integer : Stmt := topS 7
def N_is_integer : List Str := ["value"]
def p_is_integer : List Str := ["value"]
theorem nd_is_integer : N_is_integer.Nodup := by decide +kernel
theorem sc_is_integer : FnScope N_is_integer p_is_integer (defScope st_is_integer) := ⟨rfl, rfl, rfl, nd_is_integer, rfl, by decide +kernel, by decide +kernel⟩
/-! is_calendar -/
abbrev st_is_calendar : Stmt := topS 11
def N_is_calendar : List Str := ["value", "item"]
def p_is_calendar : List Str := ["value"]
theorem nd_is_calendar : N_is_calendar.Nodup := by decide +kernel
theorem sc_is_calendar : FnScope N_is_calendar p_is_calendar (defScope st_is_calendar) := ⟨rfl, rfl, rfl, nd_is_calendar, rfl, by decide +kernel, by decide +kernel⟩
/-! check_calendar -/
abbrev st_check_calendar : Stmt := topS 12
def N_check_calendar : List Str := ["calendar"]
def p_check_calendar : List Str := ["calendar"]
theorem nd_check_calendar : N_check_calendar.Nodup := by decide +kernel
theorem sc_check_calendar : FnScope N_check_calendar p_check_calendar (defScope st_check_calendar) := ⟨rfl, rfl, rfl, nd_check_calendar, rfl, by decide +kernel, by decide +kernel⟩
/-! days_until -/
abbrev st_days_until : Stmt := topS 13
def N_days_until : List Str := ["calendar", "time", "size"]
def p_days_until : List Str := ["calendar", "time"]
theorem nd_days_until : N_days_until.Nodup := by decide +kernel
theorem sc_days_until : FnScope N_days_until p_days_until (defScope st_days_until) := ⟨rfl, rfl, rfl, nd_days_until, rfl, by decide +kernel, by decide +kernel⟩
/-! time_of_day -/
abbrev st_time_of_day : Stmt := topS 14
def N_time_of_day : List Str := ["calendar", "number", "days", "day", "item"]
def p_time_of_day : List Str := ["calendar", "number"]
theorem nd_time_of_day : N_time_of_day.Nodup := by decide +kernel
theorem sc_time_of_day : FnScope N_time_of_day p_time_of_day (defScope st_time_of_day) := ⟨rfl, rfl, rfl, nd_time_of_day, rfl, by decide +kernel, by decide +kernel⟩
/-! begun_at -/
abbrev st_begun_at : Stmt := topS 18
def N_begun_at : List Str := ["calendar", "end", "duration", "before"]
def p_begun_at : List Str := ["calendar", "end", "duration"]
theorem nd_begun_at : N_begun_at.Nodup := by decide +kernel
theorem sc_begun_at : FnScope N_begun_at p_begun_at (defScope st_begun_at) := ⟨rfl, rfl, rfl, nd_begun_at, rfl, by decide +kernel, by decide +kernel⟩
/-! is_count -/
abbrev st_is_count : Stmt := topS 8
def N_is_count : List Str := ["value"]
def p_is_count : List Str := ["value"]
theorem nd_is_count : N_is_count.Nodup := by decide +kernel
theorem sc_is_count : FnScope N_is_count p_is_count (defScope st_is_count) := ⟨rfl, rfl, rfl, nd_is_count, rfl, by decide +kernel, by decide +kernel⟩
/-! begun -/
abbrev st_begun : Stmt := topS 19
def N_begun : List Str := ["calendar", "end", "duration"]
def p_begun : List Str := ["calendar", "end", "duration"]
theorem nd_begun : N_begun.Nodup := by decide +kernel
theorem sc_begun : FnScope N_begun p_begun (defScope st_begun) := ⟨rfl, rfl, rfl, nd_begun, rfl, by decide +kernel, by decide +kernel⟩
/-! worked -/
abbrev st_worked : Stmt := topS 15
def N_worked : List Str := ["calendar", "start", "end"]
def p_worked : List Str := ["calendar", "start", "end"]
theorem nd_worked : N_worked.Nodup := by decide +kernel
theorem sc_worked : FnScope N_worked p_worked (defScope st_worked) := ⟨rfl, rfl, rfl, nd_worked, rfl, by decide +kernel, by decide +kernel⟩
/-! done_at -/
abbrev st_done_at : Stmt := topS 16
def N_done_at : List Str := ["calendar", "start", "duration"]
def p_done_at : List Str := ["calendar", "start", "duration"]
theorem nd_done_at : N_done_at.Nodup := by decide +kernel
theorem sc_done_at : FnScope N_done_at p_done_at (defScope st_done_at) := ⟨rfl, rfl, rfl, nd_done_at, rfl, by decide +kernel, by decide +kernel⟩
/-! done -/
abbrev st_done : Stmt := topS 17
def N_done : List Str := ["calendar", "start", "duration"]
def p_done : List Str := ["calendar", "start", "duration"]
theorem nd_done : N_done.Nodup := by decide +kernel
theorem sc_done : FnScope N_done p_done (defScope st_done) := ⟨rfl, rfl, rfl, nd_done, rfl, by decide +kernel, by decide +kernel⟩
/-! _law_told -/
abbrev st_law_told : Stmt := topS 31
def N_law_told : List Str := ["word", "calendar", "one", "other", "named"]
def p_law_told : List Str := ["word", "calendar", "one", "other", "named"]
theorem nd_law_told : N_law_told.Nodup := by decide +kernel
theorem sc_law_told : FnScope N_law_told p_law_told (defScope st_law_told) := ⟨rfl, rfl, rfl, nd_law_told, rfl, by decide +kernel, by decide +kernel⟩
/-! _law_begun -/
abbrev st_law_begun : Stmt := topS 30
def N_law_begun : List Str := ["days", "end", "duration", "found", "start"]
def p_law_begun : List Str := ["days", "end", "duration"]
theorem nd_law_begun : N_law_begun.Nodup := by decide +kernel
theorem sc_law_begun : FnScope N_law_begun p_law_begun (defScope st_law_begun) := ⟨rfl, rfl, rfl, nd_law_begun, rfl, by decide +kernel, by decide +kernel⟩
/-! _law_done -/
abbrev st_law_done : Stmt := topS 29
def N_law_done : List Str := ["days", "start", "duration", "end"]
def p_law_done : List Str := ["days", "start", "duration"]
theorem nd_law_done : N_law_done.Nodup := by decide +kernel
theorem sc_law_done : FnScope N_law_done p_law_done (defScope st_law_done) := ⟨rfl, rfl, rfl, nd_law_done, rfl, by decide +kernel, by decide +kernel⟩
/-! _law_calendar_right -/
abbrev st_law_calendar_right : Stmt := topS 32
def N_law_calendar_right : List Str := ["calendar", "named", "days", "start", "end", "duration", "told", "first", "passed"]
def p_law_calendar_right : List Str := ["calendar", "named"]
theorem nd_law_calendar_right : N_law_calendar_right.Nodup := by decide +kernel
theorem sc_law_calendar_right : FnScope N_law_calendar_right p_law_calendar_right (defScope st_law_calendar_right) := ⟨rfl, rfl, rfl, nd_law_calendar_right, rfl, by decide +kernel, by decide +kernel⟩
/-! _law_other_right -/
abbrev st_law_other_right : Stmt := topS 33
def N_law_other_right : List Str := ["box", "calendar", "named", "size", "far", "turn", "twice", "turned", "told", "again", "later", "whole", "back", "start", "duration", "more"]
def p_law_other_right : List Str := ["box", "calendar", "named"]
theorem nd_law_other_right : N_law_other_right.Nodup := by decide +kernel
theorem sc_law_other_right : FnScope N_law_other_right p_law_other_right (defScope st_law_other_right) := ⟨rfl, rfl, rfl, nd_law_other_right, rfl, by decide +kernel, by decide +kernel⟩
/-! _law_judged_right -/
abbrev st_law_judged_right : Stmt := topS 34
def N_law_judged_right : List Str := ["box", "calendar", "named", "rows", "value", "due", "day"]
def p_law_judged_right : List Str := ["box", "calendar", "named"]
theorem nd_law_judged_right : N_law_judged_right.Nodup := by decide +kernel
theorem sc_law_judged_right : FnScope N_law_judged_right p_law_judged_right (defScope st_law_judged_right) := ⟨rfl, rfl, rfl, nd_law_judged_right, rfl, by decide +kernel, by decide +kernel⟩
/-! law -/
abbrev st_law : Stmt := topS 35
def N_law : List Str := ["script", "k", "box", "named", "calendars", "calendar", "turn"]
def p_law : List Str := ["script"]
theorem nd_law : N_law.Nodup := by decide +kernel
theorem sc_law : FnScope N_law p_law (defScope st_law) := ⟨rfl, rfl, rfl, nd_law, rfl, by decide +kernel, by decide +kernel⟩
structure Fx (W : Wd) : Prop where
  b_abs : W.mg "abs" = none
  b_all : W.mg "all" = none
  b_bool : W.mg "bool" = none
  b_dict : W.mg "dict" = none
  b_enumerate : W.mg "enumerate" = none
  b_int : W.mg "int" = none
  b_isinstance : W.mg "isinstance" = none
  b_len : W.mg "len" = none
  b_list : W.mg "list" = none
  b_max : W.mg "max" = none
  b_min : W.mg "min" = none
  b_range : W.mg "range" = none
  b_str : W.mg "str" = none
  b_sum : W.mg "sum" = none
  b_tuple : W.mg "tuple" = none
  g_MOST_DAYS : ∃ t, W.mg "MOST_DAYS" = some (.int 31 t)
  d_law_box : Df W "_law_box" st_law_box p_law_box
  d_law_cell : Df W "_law_cell" st_law_cell p_law_cell
  d_law_take : Df W "_law_take" st_law_take p_law_take
  d_law_calendar : Df W "_law_calendar" st_law_calendar p_law_calendar
  d_law_days : Df W "_law_days" st_law_days p_law_days
  d_law_same : Df W "_law_same" st_law_same p_law_same
  d_is_integer : Df W "is_integer" st_is_integer p_is_integer
  d_is_calendar : Df W "is_calendar" st_is_calendar p_is_calendar
  k_is_calendar0 : Dk W "is_calendar" st_is_calendar p_is_calendar ["value"] [0]
  d_check_calendar : Df W "check_calendar" st_check_calendar p_check_calendar
  d_days_until : Df W "days_until" st_days_until p_days_until
  d_time_of_day : Df W "time_of_day" st_time_of_day p_time_of_day
  d_begun_at : Df W "begun_at" st_begun_at p_begun_at
  d_is_count : Df W "is_count" st_is_count p_is_count
  d_begun : Df W "begun" st_begun p_begun
  k_begun0 : Dk W "begun" st_begun p_begun ["duration", "end", "calendar"] [2, 1, 0]
  d_worked : Df W "worked" st_worked p_worked
  k_worked0 : Dk W "worked" st_worked p_worked ["end", "start", "calendar"] [2, 1, 0]
  d_done_at : Df W "done_at" st_done_at p_done_at
  d_done : Df W "done" st_done p_done
  k_done0 : Dk W "done" st_done p_done ["duration", "start", "calendar"] [2, 1, 0]
  d_law_told : Df W "_law_told" st_law_told p_law_told
  d_law_begun : Df W "_law_begun" st_law_begun p_law_begun
  d_law_done : Df W "_law_done" st_law_done p_law_done
  d_law_calendar_right : Df W "_law_calendar_right" st_law_calendar_right p_law_calendar_right
  d_law_other_right : Df W "_law_other_right" st_law_other_right p_law_other_right
  d_law_judged_right : Df W "_law_judged_right" st_law_judged_right p_law_judged_right
  d_law : Df W "law" st_law p_law
theorem Fx.at {W : Wd} (x : Fx W) {k : Nat} : Fx { W with k := k } := ⟨x.b_abs, x.b_all, x.b_bool, x.b_dict, x.b_enumerate, x.b_int, x.b_isinstance, x.b_len, x.b_list, x.b_max, x.b_min, x.b_range, x.b_str, x.b_sum, x.b_tuple, x.g_MOST_DAYS, ⟨x.d_law_box.ex⟩, ⟨x.d_law_cell.ex⟩, ⟨x.d_law_take.ex⟩, ⟨x.d_law_calendar.ex⟩, ⟨x.d_law_days.ex⟩, ⟨x.d_law_same.ex⟩, ⟨x.d_is_integer.ex⟩, ⟨x.d_is_calendar.ex⟩, ⟨x.k_is_calendar0.ex⟩, ⟨x.d_check_calendar.ex⟩, ⟨x.d_days_until.ex⟩, ⟨x.d_time_of_day.ex⟩, ⟨x.d_begun_at.ex⟩, ⟨x.d_is_count.ex⟩, ⟨x.d_begun.ex⟩, ⟨x.k_begun0.ex⟩, ⟨x.d_worked.ex⟩, ⟨x.k_worked0.ex⟩, ⟨x.d_done_at.ex⟩, ⟨x.d_done.ex⟩, ⟨x.k_done0.ex⟩, ⟨x.d_law_told.ex⟩, ⟨x.d_law_begun.ex⟩, ⟨x.d_law_done.ex⟩, ⟨x.d_law_calendar_right.ex⟩, ⟨x.d_law_other_right.ex⟩, ⟨x.d_law_judged_right.ex⟩, ⟨x.d_law.ex⟩⟩
def b_law_box : XS :=
    (xRet (sCall uLst (aCons (opE (frD (sCall uAbs (aCons (opV 0) aNil)))) (aCons (opE (frD (sBin uGeI (opE (frD (sCall uAbs (aCons (opV 0) aNil)))) (opE (frD (sBin uPowI (opE (dC (.int 10))) (opE (dC (.int 18))))))))) (aCons (opE (frD (sBin uModI (opE (frD (sCall uInt (aCons (opE (frD (sCall uAbs (aCons (opV 0) aNil)))) aNil)))) (opE (dC (.int 2147483629)))))) (aCons (opE (dC (.int 0))) aNil))))))
def F_law_box : FS := mkFS [.br] 0 b_law_box
@[simp] theorem ms_law_box : F_law_box.ms = [.br] := rfl
theorem j_law_box {W : Wd} (x : Fx W) (hk : 0 ≤ W.k) : JSs W ⟨N_law_box, defScope st_law_box, true⟩ (defBody st_law_box) b_law_box :=
    (jss_one (js_ret (jf_lst (ja_cons rfl (jp_d (jd_f (jf_callB clAbs (by decide +kernel) x.b_abs boot_abs (ja_cons rfl (jp_var 0 (by decide +kernel)) ja_nil)))) (ja_cons rfl (jp_d (jd_f (jf_cmp opGe (jp_d (jd_f (jf_callB clAbs (by decide +kernel) x.b_abs boot_abs (ja_cons rfl (jp_var 0 (by decide +kernel)) ja_nil)))) (jp_d (jd_f (jf_bin opPow (jp_d jd_int) (jp_d jd_int)))) rfl))) (ja_cons rfl (jp_d (jd_f (jf_bin opMod (jp_d (jd_f (jf_callT clInt (by decide +kernel) x.b_int boot_int (ja_cons rfl (jp_d (jd_f (jf_callB clAbs (by decide +kernel) x.b_abs boot_abs (ja_cons rfl (jp_var 0 (by decide +kernel)) ja_nil)))) ja_nil)))) (jp_d jd_int)))) (ja_cons rfl (jp_d jd_int) ja_nil)))))))
theorem f_law_box {W : Wd} (x : Fx W) : FnI W 1 "_law_box" F_law_box := fnI_mk x.d_law_box sc_law_box rfl rfl (j_law_box x.at (Nat.le_refl _))
def b_law_cell : XS :=
    (xRet (sIf (toB (frD (sBin uLtI (opV 1) (opE (frD (sCall uLen (aCons (opV 0) aNil))))))) (sBin uIx (opV 0) (opV 1)) (sBin uAdd (opE (frD (sBin uMul (opE (dC (.int 7369))) (opV 1)))) (opE (frD (sBin uModI (opE (frD (sCall uInt (aCons (opE (frD (sCall uSum (aCons (opE (frD (sSl uSl (opV 0) oNone (oSome (dC (.int 1)))))) aNil)))) aNil)))) (opE (dC (.int 1000037)))))))))
def F_law_cell : FS := mkFS [.br, .br] 0 b_law_cell
@[simp] theorem ms_law_cell : F_law_cell.ms = [.br, .br] := rfl
theorem j_law_cell {W : Wd} (x : Fx W) (hk : 0 ≤ W.k) : JSs W ⟨N_law_cell, defScope st_law_cell, true⟩ (defBody st_law_cell) b_law_cell :=
    (jss_one (js_ret (jf_if (jb_cmp opLt (jp_var 1 (by decide +kernel)) (jp_d (jd_f (jf_callB clLen (by decide +kernel) x.b_len boot_len (ja_cons rfl (jp_var 0 (by decide +kernel)) ja_nil)))) rfl) (jf_ix ixA (jp_var 0 (by decide +kernel)) (jp_var 1 (by decide +kernel)) rfl) (jf_bin opAdd (jp_d (jd_f (jf_bin opMul (jp_d jd_int) (jp_var 1 (by decide +kernel))))) (jp_d (jd_f (jf_bin opMod (jp_d (jd_f (jf_callT clInt (by decide +kernel) x.b_int boot_int (ja_cons rfl (jp_d (jd_f (jf_callB clSum (by decide +kernel) x.b_sum boot_sum (ja_cons rfl (jp_d (jd_f (jf_sl slA (jp_var 0 (by decide +kernel)) jo_none (jo_some jd_int)))) ja_nil)))) ja_nil)))) (jp_d jd_int))))))))
theorem f_law_cell {W : Wd} (x : Fx W) : FnI W 1 "_law_cell" F_law_cell := fnI_mk x.d_law_cell sc_law_cell rfl rfl (j_law_cell x.at (Nat.le_refl _))
def b_law_take : XS :=
    (xSeq (xIf (bAnd (toB (frD (sBin uIx (opV 0) (opE (dC (.int 1)))))) (toB (frD (sBin uGtI (opE (frD (sBin uIx (opV 0) (opE (dC (.int 0)))))) (opE (dC (.int 0)))))))
      (xSeq (xAsg (sBin uModI (opE (frD (sCall uInt (aCons (opE (frD (sBin uIx (opV 0) (opE (dC (.int 0)))))) aNil)))) (opV 1)) (gN 3))
      (xSeq (xSet 0 (dC (.int 0)) (sBin uDivI (opE (frD (sBin uIx (opV 0) (opE (dC (.int 0)))))) (opV 1)))
      (xRet (mVar 3))))
      xNext)
    (xSeq (xSet 0 (dC (.int 3)) (sBin uAdd (opE (frD (sBin uIx (opV 0) (opE (dC (.int 3)))))) (opE (dC (.int 1)))))
    (xSeq (xAsg (sBin uModI (opE (frD (sCall uInt (aCons (opE (frD (sBin uPowI (opE (frD (sBin uAdd (opE (frD (sBin uAdd (opE (frD (sBin uIx (opV 0) (opE (dC (.int 2)))))) (opE (frD (sBin uMul (opE (dC (.int 15486413))) (opE (frD (sBin uIx (opV 0) (opE (dC (.int 3)))))))))))) (opE (dC (.int 179424989)))))) (opE (dC (.int 5)))))) aNil)))) (opE (dC (.int 2147483647)))) (gN 2))
    (xRet (sBin uModI (opE (frD (sCall uInt (aCons (opE (frD (sBin uDivI (opE (frD (sBin uModI (opE (frD (sCall uInt (aCons (opE (frD (sBin uPowI (opE (frD (sBin uAdd (opE (frD (sBin uMul (opV 2) (opE (dC (.int 48271)))))) (opE (frD (sBin uMul (opE (dC (.int 7393))) (opE (frD (sBin uIx (opV 0) (opE (dC (.int 3)))))))))))) (opE (dC (.int 3)))))) aNil)))) (opE (dC (.int 2147483587)))))) (opE (dC (.int 64)))))) aNil)))) (opV 1))))))
def F_law_take : FS := mkFS [.io, .br] 2 b_law_take
@[simp] theorem ms_law_take : F_law_take.ms = [.io, .br] := rfl
theorem j_law_take {W : Wd} (x : Fx W) (hk : 0 ≤ W.k) : JSs W ⟨N_law_take, defScope st_law_take, true⟩ (defBody st_law_take) b_law_take :=
    (jss_cons (js_if (jb_w (jb_andc (jb_d rfl (jd_f (jf_ix ixA (jp_var 0 (by decide +kernel)) (jp_d jd_int) rfl))) (jb_and1 (jb_cmp opGt (jp_d (jd_f (jf_ix ixA (jp_var 0 (by decide +kernel)) (jp_d jd_int) rfl))) (jp_d jd_int) rfl))))
      (jss_cons (js_set 3 nd_law_take rfl (by decide +kernel) rfl (jf_bin opMod (jp_d (jd_f (jf_callT clInt (by decide +kernel) x.b_int boot_int (ja_cons rfl (jp_d (jd_f (jf_ix ixA (jp_var 0 (by decide +kernel)) (jp_d jd_int) rfl))) ja_nil)))) (jp_var 1 (by decide +kernel))))
      (jss_cons (js_setI 0 (by decide +kernel) rfl rfl jd_int (jf_bin opDiv (jp_d (jd_f (jf_ix ixA (jp_var 0 (by decide +kernel)) (jp_d jd_int) rfl))) (jp_var 1 (by decide +kernel))))
      (jss_one (js_ret (jf_mv 3 (by decide +kernel))))))
      jss_nil)
    (jss_cons (js_setI 0 (by decide +kernel) rfl rfl jd_int (jf_bin opAdd (jp_d (jd_f (jf_ix ixA (jp_var 0 (by decide +kernel)) (jp_d jd_int) rfl))) (jp_d jd_int)))
    (jss_cons (js_set 2 nd_law_take rfl (by decide +kernel) rfl (jf_bin opMod (jp_d (jd_f (jf_callT clInt (by decide +kernel) x.b_int boot_int (ja_cons rfl (jp_d (jd_f (jf_bin opPow (jp_d (jd_f (jf_bin opAdd (jp_d (jd_f (jf_bin opAdd (jp_d (jd_f (jf_ix ixA (jp_var 0 (by decide +kernel)) (jp_d jd_int) rfl))) (jp_d (jd_f (jf_bin opMul (jp_d jd_int) (jp_d (jd_f (jf_ix ixA (jp_var 0 (by decide +kernel)) (jp_d jd_int) rfl))))))))) (jp_d jd_int)))) (jp_d jd_int)))) ja_nil)))) (jp_d jd_int)))
    (jss_one (js_ret (jf_bin opMod (jp_d (jd_f (jf_callT clInt (by decide +kernel) x.b_int boot_int (ja_cons rfl (jp_d (jd_f (jf_bin opDiv (jp_d (jd_f (jf_bin opMod (jp_d (jd_f (jf_callT clInt (by decide +kernel) x.b_int boot_int (ja_cons rfl (jp_d (jd_f (jf_bin opPow (jp_d (jd_f (jf_bin opAdd (jp_d (jd_f (jf_bin opMul (jp_var 2 (by decide +kernel)) (jp_d jd_int)))) (jp_d (jd_f (jf_bin opMul (jp_d jd_int) (jp_d (jd_f (jf_ix ixA (jp_var 0 (by decide +kernel)) (jp_d jd_int) rfl))))))))) (jp_d jd_int)))) ja_nil)))) (jp_d jd_int)))) (jp_d jd_int)))) ja_nil)))) (jp_var 1 (by decide +kernel))))))))
theorem f_law_take {W : Wd} (x : Fx W) : FnI W 1 "_law_take" F_law_take := fnI_mk x.d_law_take sc_law_take rfl rfl (j_law_take x.at (Nat.le_refl _))
def b_law_calendar : XS :=
    (xSeq (xAsg (sCall uTup (aCons (opE (frD (sBin uAdd (opE (dC (.int 1))) (opE (frD (callF F_law_take (aCons (opV 0) (aCons (opE (frD (sBin uIx (opE (frD (sCall uLst (aCons (opE (dC (.int 3))) (aCons (opE (dC (.int 7))) (aCons (opE (dC (.int 14))) aNil)))))) (opE (frD (callF F_law_take (aCons (opV 0) (aCons (opE (dC (.int 3))) aNil)))))))) aNil)))))))) (aCons (opE (frD (callF F_law_take (aCons (opV 0) (aCons (opE (dC (.int 4))) aNil))))) aNil))) (gTup 2 (gsCons (gN 2) (gsCons (gN 3) gsNil))))
    (xSeq (xIf (toB (frD (sBin uEq (opV 3) (opE (dC (.int 0))))))
      (xSeq (xAsg (callF F_law_take (aCons (opV 0) (aCons (opV 2) aNil))) (gN 4))
      (xRet (sCall uTupleOf (aCons (opE (frD (sComp (iRange (dVar 2)) [5] (gN 5) (fun ρ => some (true, ρ)) (sCall uInt (aCons (opE (frD (sBin uEq (opV 5) (opV 4)))) aNil))))) aNil))))
      xNext)
    (xSeq (xIf (toB (frD (sBin uEq (opV 3) (opE (dC (.int 1))))))
      (xRet (sBin uMul (opE (frD (sCall uTup (aCons (opE (dC (.int 1))) aNil)))) (opV 2)))
      xNext)
    (xSeq (xAsg (sComp (iRange (dVar 2)) [5] (gN 5) (fun ρ => some (true, ρ)) (sIf (toB (frD (sBin uEq (opV 3) (opE (dC (.int 2)))))) (sCall uInt (aCons (opE (frD (sBin uGtI (opE (frD (callF F_law_take (aCons (opV 0) (aCons (opE (dC (.int 4))) aNil))))) (opE (dC (.int 0)))))) aNil)) (sCall uInt (aCons (opE (frD (sBin uEq (opE (frD (callF F_law_take (aCons (opV 0) (aCons (opE (dC (.int 4))) aNil))))) (opE (dC (.int 0)))))) aNil)))) (gN 1))
    (xRet (sIf (toB (frD (sBin (uIn false) (opE (dC (.int 1))) (opV 1)))) (sCall uTupleOf (aCons (opV 1) aNil)) (sCall uTupleOf (aCons (opE (frD (sBin uAdd (opE (frD (sSl uSl (opV 1) oNone (oSome (frD (sUn uNegI (opE (dC (.int 1))))))))) (opE (frD (sCall uLst (aCons (opE (dC (.int 1))) aNil))))))) aNil))))))))
def F_law_calendar : FS := mkFS [.io] 5 b_law_calendar
@[simp] theorem ms_law_calendar : F_law_calendar.ms = [.io] := rfl
theorem j_law_calendar {W : Wd} (x : Fx W) (hk : 1 ≤ W.k) : JSs W ⟨N_law_calendar, defScope st_law_calendar, true⟩ (defBody st_law_calendar) b_law_calendar :=
    (jss_cons (js_unpC (by decide +kernel) (jg_tup (jgs_cons rfl (jg_n 2 nd_law_calendar (by decide +kernel)) (jgs_cons rfl (jg_c 3 nd_law_calendar rfl (by decide +kernel)) jgs_nil))) (jf_tup (ja_cons rfl (jp_d (jd_f (jf_bin opAdd (jp_d jd_int) (jp_d (jd_f (jf_call (f_law_take x.at) (Nat.le_trans (by decide) hk) (by decide +kernel) (ja_cons rfl (jp_var 0 (by decide +kernel)) (ja_cons rfl (jp_d (jd_f (jf_ix ixA (jp_d (jd_f (jf_lst (ja_cons rfl (jp_d jd_int) (ja_cons rfl (jp_d jd_int) (ja_cons rfl (jp_d jd_int) ja_nil)))))) (jp_d (jd_f (jf_call (f_law_take x.at) (Nat.le_trans (by decide) hk) (by decide +kernel) (ja_cons rfl (jp_var 0 (by decide +kernel)) (ja_cons rfl (jp_d jd_int) ja_nil))))) rfl))) ja_nil)))))))) (ja_cons rfl (jp_d (jd_f (jf_call (f_law_take x.at) (Nat.le_trans (by decide) hk) (by decide +kernel) (ja_cons rfl (jp_var 0 (by decide +kernel)) (ja_cons rfl (jp_d jd_int) ja_nil))))) ja_nil))))
    (jss_cons (js_if (jb_cmp opEq (jp_var 3 (by decide +kernel)) (jp_d jd_int) rfl)
      (jss_cons (js_set 4 nd_law_calendar rfl (by decide +kernel) rfl (jf_call (f_law_take x.at) (Nat.le_trans (by decide) hk) (by decide +kernel) (ja_cons rfl (jp_var 0 (by decide +kernel)) (ja_cons rfl (jp_var 2 (by decide +kernel)) ja_nil))))
      (jss_one (js_ret (jf_callT clTuple (by decide +kernel) x.b_tuple boot_tuple (ja_cons rfl (jp_d (jd_f (jf_lc [(("day" : Str), 5)] nd_law_calendar rfl (by decide +kernel) (ji_range (by decide +kernel) x.b_range rfl (jd_var 2 (by decide +kernel))) (jg_n 5 nd_law_calendar (by decide +kernel)) jbs_nil (jf_callT clInt (by decide +kernel) x.b_int boot_int (ja_cons rfl (jp_d (jd_f (jf_cmp opEq (jp_var 5 (by decide +kernel)) (jp_var 4 (by decide +kernel)) rfl))) ja_nil)) rfl (by decide)))) ja_nil)))))
      jss_nil)
    (jss_cons (js_if (jb_cmp opEq (jp_var 3 (by decide +kernel)) (jp_d jd_int) rfl)
      (jss_one (js_ret (jf_bin opMul (jp_d (jd_f (jf_tup (ja_cons rfl (jp_d jd_int) ja_nil)))) (jp_var 2 (by decide +kernel)))))
      jss_nil)
    (jss_cons (js_setLc 1 [(("day" : Str), 5)] nd_law_calendar (by decide +kernel) (by decide +kernel) rfl (by decide +kernel) rfl (by decide +kernel) (ji_range (by decide +kernel) x.b_range rfl (jd_var 2 (by decide +kernel))) (jg_n 5 nd_law_calendar (by decide +kernel)) jbs_nil (jf_if (jb_cmp opEq (jp_var 3 (by decide +kernel)) (jp_d jd_int) rfl) (jf_callT clInt (by decide +kernel) x.b_int boot_int (ja_cons rfl (jp_d (jd_f (jf_cmp opGt (jp_d (jd_f (jf_call (f_law_take x.at) (Nat.le_trans (by decide) hk) (by decide +kernel) (ja_cons rfl (jp_var 0 (by decide +kernel)) (ja_cons rfl (jp_d jd_int) ja_nil))))) (jp_d jd_int) rfl))) ja_nil)) (jf_callT clInt (by decide +kernel) x.b_int boot_int (ja_cons rfl (jp_d (jd_f (jf_cmp opEq (jp_d (jd_f (jf_call (f_law_take x.at) (Nat.le_trans (by decide) hk) (by decide +kernel) (ja_cons rfl (jp_var 0 (by decide +kernel)) (ja_cons rfl (jp_d jd_int) ja_nil))))) (jp_d jd_int) rfl))) ja_nil))) rfl (by decide))
    (jss_one (js_ret (jf_if (jb_cmp opIn (jp_d jd_int) (jp_var 1 (by decide +kernel)) rfl) (jf_callT clTuple (by decide +kernel) x.b_tuple boot_tuple (ja_cons rfl (jp_var 1 (by decide +kernel)) ja_nil)) (jf_callT clTuple (by decide +kernel) x.b_tuple boot_tuple (ja_cons rfl (jp_d (jd_f (jf_bin opAdd (jp_d (jd_f (jf_sl slA (jp_var 1 (by decide +kernel)) jo_none (jo_some (jd_f (jf_un unNeg (jp_d jd_int))))))) (jp_d (jd_f (jf_lst (ja_cons rfl (jp_d jd_int) ja_nil))))))) ja_nil)))))))))
theorem f_law_calendar {W : Wd} (x : Fx W) : FnI W 2 "_law_calendar" F_law_calendar := fnI_mk x.d_law_calendar sc_law_calendar rfl rfl (j_law_calendar x.at (Nat.le_refl _))
def lb_law_days0 : XS :=
      (xDrop (sApp 2 (sBin uAdd (opE (frD (sBin uIx (opV 2) (opE (frD (sUn uNegI (opE (dC (.int 1))))))))) (opE (frD (sBin uIx (opV 0) (opE (frD (sBin uModI (opE (frD (sCall uInt (aCons (opV 3) aNil)))) (opE (frD (sCall uLen (aCons (opV 0) aNil)))))))))))))
def b_law_days : XS :=
    (xSeq (xAsg (sCall uLst (aCons (opE (dC (.int 0))) aNil)) (gN 2))
    (xSeq (xFor (iRange (dVar 1)) (gN 3) lb_law_days0)
    (xRet (mVar 2))))
def F_law_days : FS := mkFS [.br, .br] 2 b_law_days
@[simp] theorem ms_law_days : F_law_days.ms = [.br, .br] := rfl
theorem j_law_days {W : Wd} (x : Fx W) (hk : 0 ≤ W.k) : JSs W ⟨N_law_days, defScope st_law_days, true⟩ (defBody st_law_days) b_law_days :=
    (jss_cons (js_set 2 nd_law_days rfl (by decide +kernel) rfl (jf_lst (ja_cons rfl (jp_d jd_int) ja_nil)))
    (jss_cons (js_for (ji_range (by decide +kernel) x.b_range rfl (jd_var 1 (by decide +kernel))) (jg_n 3 nd_law_days (by decide +kernel))
      (jss_one (js_expr rfl (jf_app 2 (by decide +kernel) rfl rfl (jf_bin opAdd (jp_d (jd_f (jf_ix ixA (jp_var 2 (by decide +kernel)) (jp_d (jd_f (jf_un unNeg (jp_d jd_int)))) rfl))) (jp_d (jd_f (jf_ix ixA (jp_var 0 (by decide +kernel)) (jp_d (jd_f (jf_bin opMod (jp_d (jd_f (jf_callT clInt (by decide +kernel) x.b_int boot_int (ja_cons rfl (jp_var 3 (by decide +kernel)) ja_nil)))) (jp_d (jd_f (jf_callB clLen (by decide +kernel) x.b_len boot_len (ja_cons rfl (jp_var 0 (by decide +kernel)) ja_nil))))))) rfl))))))))
    (jss_one (js_ret (jf_mv 2 (by decide +kernel))))))
theorem f_law_days {W : Wd} (x : Fx W) : FnI W 1 "_law_days" F_law_days := fnI_mk x.d_law_days sc_law_days rfl rfl (j_law_days x.at (Nat.le_refl _))
def b_law_same (R : FS) : XS :=
    (xSeq (xIf (bOr (toB (frD (sBin uIs (opV 1) (opE (dC .none))))) (toB (frD (sUn (uIsi "bool") (opV 1)))))
      (xRet (sIf (toB (frD (sBin uIs (opV 1) (opE (dC .none))))) (sBin uIs (opV 0) (opE (dC .none))) (toO (ofB (bAnd (toB (frD (sUn (uIsi "bool") (opV 0)))) (toB (frD (sBin uEq (opE (frD (sBin uIs (opV 0) (opE (dC (.bool true)))))) (opE (frD (sBin uIs (opV 1) (opE (dC (.bool true))))))))))))))
      xNext)
    (xSeq (xIf (toB (frD (sUn (uIsi "int") (opV 1))))
      (xRet (toO (ofB (bAnd (toB (frD (sUn (uIsi "int") (opV 0)))) (bAnd (bNot (toB (frD (sUn (uIsi "bool") (opV 0))))) (toB (frD (sBin uEq (opE (frD (sBin uSubI (opE (frD (sCall uInt (aCons (opV 0) aNil)))) (opV 1)))) (opE (dC (.int 0)))))))))))
      xNext)
    (xSeq (xIf (toB (frD (sUn (uIsi "str") (opV 1))))
      (xRet (toO (ofB (bAnd (toB (frD (sUn (uIsi "str") (opV 0)))) (bAnd (toB (frD (sBin uEq (opE (frD (sCall uLen (aCons (opV 0) aNil)))) (opE (frD (sCall uLen (aCons (opV 1) aNil))))))) (toB (frD (sBin uEq (opE (frD (sComp (iRange (frD (sCall uLen (aCons (opV 1) aNil)))) [2] (gN 2) (toB (frD (sBin uNe (opE (frD (sSl uSl (opV 0) (oSome (dVar 2)) (oSome (frD (sBin uAdd (opV 2) (opE (dC (.int 1))))))))) (opE (frD (sBin uIx (opV 1) (opV 2))))))) (toO (dVar 2))))) (opE (frD (sCall uLst aNil)))))))))))
      xNext)
    (xSeq (xIf (toB (frD (sUn (uIsi "dict") (opV 1))))
      (xRet (toO (ofB (bAnd (toB (frD (sUn (uIsi "dict") (opV 0)))) (toB (frD (sBin uEq (opV 0) (opV 1))))))))
      xNext)
    (xSeq (xIf (bOr (toB (frD (sBin uNe (opE (frD (sUn (uIsi "list") (opV 0)))) (opE (frD (sUn (uIsi "list") (opV 1))))))) (toB (frD (sBin uNe (opE (frD (sUn (uIsi "tuple") (opV 0)))) (opE (frD (sUn (uIsi "tuple") (opV 1))))))))
      (xRet (toO (dC (.bool false))))
      xNext)
    (xRet (toO (ofB (bAnd (toB (frD (sBin uEq (opE (frD (sCall uLen (aCons (opV 0) aNil)))) (opE (frD (sCall uLen (aCons (opV 1) aNil))))))) (toB (frD (sBin uEq (opE (frD (sComp (iRange (frD (sCall uLen (aCons (opV 1) aNil)))) [2] (gN 2) (bNot (toB (frD (callF R (aCons (opE (frD (sBin uIx (opV 0) (opV 2)))) (aCons (opE (frD (sBin uIx (opV 1) (opV 2)))) aNil)))))) (toO (dVar 2))))) (opE (frD (sCall uLst aNil)))))))))))))))
def F_law_same : Nat → FS
  | 0 => fs0 [.br, .br]
  | n + 1 => mkFS [.br, .br] 1 (b_law_same (F_law_same n))
theorem j_law_same {W : Wd} (x : Fx W) {R : FS} {k : Nat} (hR : FnI W k "_law_same" R) (hkR : k ≤ W.k) (hk : 0 ≤ W.k) : JSs W ⟨N_law_same, defScope st_law_same, true⟩ (defBody st_law_same) (b_law_same R) :=
    (jss_cons (js_if (jb_w (jb_orc (jb_cmp opIs (jp_var 1 (by decide +kernel)) (jp_d jd_non) rfl) (jb_or1 (jb_d rfl (jd_f (jf_isi (by decide +kernel) x.b_isinstance (by decide +kernel) x.b_bool boot_bool rfl (jp_var 1 (by decide +kernel))))))))
      (jss_one (js_ret (jf_if (jb_cmp opIs (jp_var 1 (by decide +kernel)) (jp_d jd_non) rfl) (jf_cmp opIs (jp_var 0 (by decide +kernel)) (jp_d jd_non) rfl) (jf_d (jd_v (jv_and (jv_d (jd_f (jf_isi (by decide +kernel) x.b_isinstance (by decide +kernel) x.b_bool boot_bool rfl (jp_var 0 (by decide +kernel))))) (jv_1 (jv_d (jd_f (jf_cmp opEq (jp_d (jd_f (jf_cmp opIs (jp_var 0 (by decide +kernel)) (jp_d jd_bl) rfl))) (jp_d (jd_f (jf_cmp opIs (jp_var 1 (by decide +kernel)) (jp_d jd_bl) rfl))) rfl))))))))))
      jss_nil)
    (jss_cons (js_if (jb_d rfl (jd_f (jf_isi (by decide +kernel) x.b_isinstance (by decide +kernel) x.b_int boot_int rfl (jp_var 1 (by decide +kernel)))))
      (jss_one (js_ret (jf_d (jd_v (jv_and (jv_d (jd_f (jf_isi (by decide +kernel) x.b_isinstance (by decide +kernel) x.b_int boot_int rfl (jp_var 0 (by decide +kernel))))) (jv_and (jv_not (jv_d (jd_f (jf_isi (by decide +kernel) x.b_isinstance (by decide +kernel) x.b_bool boot_bool rfl (jp_var 0 (by decide +kernel)))))) (jv_1 (jv_d (jd_f (jf_cmp opEq (jp_d (jd_f (jf_bin opSub (jp_d (jd_f (jf_callT clInt (by decide +kernel) x.b_int boot_int (ja_cons rfl (jp_var 0 (by decide +kernel)) ja_nil)))) (jp_var 1 (by decide +kernel))))) (jp_d jd_int) rfl))))))))))
      jss_nil)
    (jss_cons (js_if (jb_d rfl (jd_f (jf_isi (by decide +kernel) x.b_isinstance (by decide +kernel) x.b_str boot_str rfl (jp_var 1 (by decide +kernel)))))
      (jss_one (js_ret (jf_d (jd_v (jv_and (jv_d (jd_f (jf_isi (by decide +kernel) x.b_isinstance (by decide +kernel) x.b_str boot_str rfl (jp_var 0 (by decide +kernel))))) (jv_and (jv_d (jd_f (jf_cmp opEq (jp_d (jd_f (jf_callB clLen (by decide +kernel) x.b_len boot_len (ja_cons rfl (jp_var 0 (by decide +kernel)) ja_nil)))) (jp_d (jd_f (jf_callB clLen (by decide +kernel) x.b_len boot_len (ja_cons rfl (jp_var 1 (by decide +kernel)) ja_nil)))) rfl))) (jv_1 (jv_d (jd_f (jf_cmp opEq (jp_d (jd_f (jf_lc [(("k" : Str), 2)] nd_law_same rfl (by decide +kernel) (ji_range (by decide +kernel) x.b_range rfl (jd_f (jf_callB clLen (by decide +kernel) x.b_len boot_len (ja_cons rfl (jp_var 1 (by decide +kernel)) ja_nil)))) (jg_n 2 nd_law_same (by decide +kernel)) (jbs_one (jb_cmp opNe (jp_d (jd_f (jf_sl slA (jp_var 0 (by decide +kernel)) (jo_some (jd_var 2 (by decide +kernel))) (jo_some (jd_f (jf_bin opAdd (jp_var 2 (by decide +kernel)) (jp_d jd_int))))))) (jp_d (jd_f (jf_ix ixA (jp_var 1 (by decide +kernel)) (jp_var 2 (by decide +kernel)) rfl))) rfl)) (jf_d (jd_var 2 (by decide +kernel))) rfl (by decide)))) (jp_d (jd_f (jf_lst ja_nil))) rfl))))))))))
      jss_nil)
    (jss_cons (js_if (jb_d rfl (jd_f (jf_isi (by decide +kernel) x.b_isinstance (by decide +kernel) x.b_dict boot_dict rfl (jp_var 1 (by decide +kernel)))))
      (jss_one (js_ret (jf_d (jd_v (jv_and (jv_d (jd_f (jf_isi (by decide +kernel) x.b_isinstance (by decide +kernel) x.b_dict boot_dict rfl (jp_var 0 (by decide +kernel))))) (jv_1 (jv_d (jd_f (jf_cmp opEq (jp_var 0 (by decide +kernel)) (jp_var 1 (by decide +kernel)) rfl)))))))))
      jss_nil)
    (jss_cons (js_if (jb_w (jb_orc (jb_cmp opNe (jp_d (jd_f (jf_isi (by decide +kernel) x.b_isinstance (by decide +kernel) x.b_list boot_list rfl (jp_var 0 (by decide +kernel))))) (jp_d (jd_f (jf_isi (by decide +kernel) x.b_isinstance (by decide +kernel) x.b_list boot_list rfl (jp_var 1 (by decide +kernel))))) rfl) (jb_or1 (jb_cmp opNe (jp_d (jd_f (jf_isi (by decide +kernel) x.b_isinstance (by decide +kernel) x.b_tuple boot_tuple rfl (jp_var 0 (by decide +kernel))))) (jp_d (jd_f (jf_isi (by decide +kernel) x.b_isinstance (by decide +kernel) x.b_tuple boot_tuple rfl (jp_var 1 (by decide +kernel))))) rfl))))
      (jss_one (js_ret (jf_d jd_bl)))
      jss_nil)
    (jss_one (js_ret (jf_d (jd_v (jv_and (jv_d (jd_f (jf_cmp opEq (jp_d (jd_f (jf_callB clLen (by decide +kernel) x.b_len boot_len (ja_cons rfl (jp_var 0 (by decide +kernel)) ja_nil)))) (jp_d (jd_f (jf_callB clLen (by decide +kernel) x.b_len boot_len (ja_cons rfl (jp_var 1 (by decide +kernel)) ja_nil)))) rfl))) (jv_1 (jv_d (jd_f (jf_cmp opEq (jp_d (jd_f (jf_lc [(("k" : Str), 2)] nd_law_same rfl (by decide +kernel) (ji_range (by decide +kernel) x.b_range rfl (jd_f (jf_callB clLen (by decide +kernel) x.b_len boot_len (ja_cons rfl (jp_var 1 (by decide +kernel)) ja_nil)))) (jg_n 2 nd_law_same (by decide +kernel)) (jbs_one (jb_not (jb_d rfl (jd_f (jf_call hR hkR (by decide +kernel) (ja_cons rfl (jp_d (jd_f (jf_ix ixA (jp_var 0 (by decide +kernel)) (jp_var 2 (by decide +kernel)) rfl))) (ja_cons rfl (jp_d (jd_f (jf_ix ixA (jp_var 1 (by decide +kernel)) (jp_var 2 (by decide +kernel)) rfl))) ja_nil))))))) (jf_d (jd_var 2 (by decide +kernel))) rfl (by decide)))) (jp_d (jd_f (jf_lst ja_nil))) rfl))))))))))))))
theorem f_law_same {W : Wd} (x : Fx W) : ∀ n : Nat, FnI W (n + 0) "_law_same" (F_law_same n)
  | 0 => fnI_0 x.d_law_same
  | n + 1 => by
    have e : n + 1 + 0 = (n + 0) + 1 := by omega
    rw [e]
    exact fnI_mk x.d_law_same sc_law_same rfl rfl (j_law_same x.at (FnI.at (f_law_same x n)) (Nat.le_refl _) (Nat.le_add_left _ _))
def b_is_integer : XS :=
    (xRet (toO (ofB (bAnd (toB (frD (sUn (uIsi "int") (opV 0)))) (bNot (toB (frD (sUn (uIsi "bool") (opV 0)))))))))
def F_is_integer : FS := mkFS [.br] 0 b_is_integer
@[simp] theorem ms_is_integer : F_is_integer.ms = [.br] := rfl
theorem j_is_integer {W : Wd} (x : Fx W) (hk : 0 ≤ W.k) : JSs W ⟨N_is_integer, defScope st_is_integer, true⟩ (defBody st_is_integer) b_is_integer :=
    (jss_one (js_ret (jf_d (jd_v (jv_and (jv_d (jd_f (jf_isi (by decide +kernel) x.b_isinstance (by decide +kernel) x.b_int boot_int rfl (jp_var 0 (by decide +kernel))))) (jv_1 (jv_not (jv_d (jd_f (jf_isi (by decide +kernel) x.b_isinstance (by decide +kernel) x.b_bool boot_bool rfl (jp_var 0 (by decide +kernel))))))))))))
theorem f_is_integer {W : Wd} (x : Fx W) : FnI W 1 "is_integer" F_is_integer := fnI_mk x.d_is_integer sc_is_integer rfl rfl (j_is_integer x.at (Nat.le_refl _))
def b_is_calendar : XS :=
    (xSeq (xIf (bOr (bNot (toB (frD (sUn (uIsi "tuple") (opV 0))))) (bNot (toB (frD (sChain uLeI uLeI (opE (dC (.int 1))) (opE (frD (sCall uLen (aCons (opV 0) aNil)))) (opE (dC (.int 31))))))))
      (xRet (toO (dC (.bool false))))
      xNext)
    (xRet (toO (ofB (bAnd (toB (frD (sCall (uL1 kAll) (aCons (opE (frD (sComp (iVar 0) [1] (gN 1) (fun ρ => some (true, ρ)) (toO (ofB (bAnd (toB (frD (callF F_is_integer (aCons (opV 1) aNil)))) (toB (frD (sBin (uIn false) (opV 1) (opE (frD (sCall uTup (aCons (opE (dC (.int 0))) (aCons (opE (dC (.int 1))) aNil)))))))))))))) aNil)))) (toB (frD (sBin (uIn false) (opE (dC (.int 1))) (opV 0)))))))))
def F_is_calendar : FS := mkFS [.br] 1 b_is_calendar
@[simp] theorem ms_is_calendar : F_is_calendar.ms = [.br] := rfl
theorem j_is_calendar {W : Wd} (x : Fx W) (hk : 1 ≤ W.k) : JSs W ⟨N_is_calendar, defScope st_is_calendar, true⟩ (defBody st_is_calendar) b_is_calendar :=
    (jss_cons (js_if (jb_w (jb_orc (jb_not (jb_d rfl (jd_f (jf_isi (by decide +kernel) x.b_isinstance (by decide +kernel) x.b_tuple boot_tuple rfl (jp_var 0 (by decide +kernel)))))) (jb_or1 (jb_not (jb_chain opLe opLe (jp_d jd_int) (jp_d (jd_f (jf_callB clLen (by decide +kernel) x.b_len boot_len (ja_cons rfl (jp_var 0 (by decide +kernel)) ja_nil)))) (jp_d (jd_gint (by decide +kernel) x.g_MOST_DAYS)) rfl)))))
      (jss_one (js_ret (jf_d jd_bl)))
      jss_nil)
    (jss_one (js_ret (jf_d (jd_v (jv_and (jv_d (jd_f (jf_callB clAll (by decide +kernel) x.b_all boot_all (ja_cons rfl (jp_d (jd_f (jf_lc [(("item" : Str), 1)] nd_is_calendar rfl (by decide +kernel) (ji_var 0 (by decide +kernel)) (jg_n 1 nd_is_calendar (by decide +kernel)) jbs_nil (jf_d (jd_v (jv_and (jv_d (jd_f (jf_call (f_is_integer x.at) (Nat.le_trans (by decide) hk) (by decide +kernel) (ja_cons rfl (jp_var 1 (by decide +kernel)) ja_nil)))) (jv_1 (jv_d (jd_f (jf_cmp opIn (jp_var 1 (by decide +kernel)) (jp_d (jd_f (jf_tup (ja_cons rfl (jp_d jd_int) (ja_cons rfl (jp_d jd_int) ja_nil))))) rfl))))))) rfl (by decide)))) ja_nil)))) (jv_1 (jv_d (jd_f (jf_cmp opIn (jp_d jd_int) (jp_var 0 (by decide +kernel)) rfl))))))))))
theorem f_is_calendar {W : Wd} (x : Fx W) : FnI W 2 "is_calendar" F_is_calendar := fnI_mk x.d_is_calendar sc_is_calendar rfl rfl (j_is_calendar x.at (Nat.le_refl _))
theorem fk_is_calendar0 {W : Wd} (x : Fx W) : FnK W 2 "is_calendar" F_is_calendar ["value"] [0] := fnK_mk x.k_is_calendar0 sc_is_calendar rfl rfl (j_is_calendar x.at (Nat.le_refl _))
def b_check_calendar : XS :=
    (xIf (bNot (toB (frD (callF F_is_calendar (aCons (opV 0) aNil)))))
      xNever
      xNext)
def F_check_calendar : FS := mkFS [.br] 0 b_check_calendar
@[simp] theorem ms_check_calendar : F_check_calendar.ms = [.br] := rfl
theorem j_check_calendar {W : Wd} (x : Fx W) (hk : 2 ≤ W.k) : JSs W ⟨N_check_calendar, defScope st_check_calendar, true⟩ (defBody st_check_calendar) b_check_calendar :=
    (jss_one (js_if (jb_not (jb_d rfl (jd_f (jf_call (f_is_calendar x.at) (Nat.le_trans (by decide) hk) (by decide +kernel) (ja_cons rfl (jp_var 0 (by decide +kernel)) ja_nil)))))
      (jss_one js_never)
      jss_nil))
theorem f_check_calendar {W : Wd} (x : Fx W) : FnI W 3 "check_calendar" F_check_calendar := fnI_mk x.d_check_calendar sc_check_calendar rfl rfl (j_check_calendar x.at (Nat.le_refl _))
def b_days_until : XS :=
    (xSeq (xAsg (sCall uLen (aCons (opV 0) aNil)) (gN 2))
    (xRet (sBin uAdd (opE (frD (sBin uMul (opE (frD (sBin uDivI (opV 1) (opV 2)))) (opE (frD (sCall uSum (aCons (opV 0) aNil))))))) (opE (frD (sCall uSum (aCons (opE (frD (sSl uSl (opV 0) oNone (oSome (frD (sBin uModI (opV 1) (opV 2))))))) aNil)))))))
def F_days_until : FS := mkFS [.br, .br] 1 b_days_until
@[simp] theorem ms_days_until : F_days_until.ms = [.br, .br] := rfl
theorem j_days_until {W : Wd} (x : Fx W) (hk : 0 ≤ W.k) : JSs W ⟨N_days_until, defScope st_days_until, true⟩ (defBody st_days_until) b_days_until :=
    (jss_cons (js_set 2 nd_days_until rfl (by decide +kernel) rfl (jf_callB clLen (by decide +kernel) x.b_len boot_len (ja_cons rfl (jp_var 0 (by decide +kernel)) ja_nil)))
    (jss_one (js_ret (jf_bin opAdd (jp_d (jd_f (jf_bin opMul (jp_d (jd_f (jf_bin opDiv (jp_var 1 (by decide +kernel)) (jp_var 2 (by decide +kernel))))) (jp_d (jd_f (jf_callB clSum (by decide +kernel) x.b_sum boot_sum (ja_cons rfl (jp_var 0 (by decide +kernel)) ja_nil))))))) (jp_d (jd_f (jf_callB clSum (by decide +kernel) x.b_sum boot_sum (ja_cons rfl (jp_d (jd_f (jf_sl slA (jp_var 0 (by decide +kernel)) jo_none (jo_some (jd_f (jf_bin opMod (jp_var 1 (by decide +kernel)) (jp_var 2 (by decide +kernel)))))))) ja_nil))))))))
theorem f_days_until {W : Wd} (x : Fx W) : FnI W 1 "days_until" F_days_until := fnI_mk x.d_days_until sc_days_until rfl rfl (j_days_until x.at (Nat.le_refl _))
def b_time_of_day : XS :=
    (xSeq (xAsg (sComp (iEnum (dVar 0)) [3, 4] (gTup 2 (gsCons (gN 3) (gsCons (gN 4) gsNil))) (toB (frD (sBin uEq (opV 4) (opE (dC (.int 1)))))) (toO (dVar 3))) (gN 2))
    (xRet (sBin uAdd (opE (frD (sBin uMul (opE (frD (sBin uDivI (opV 1) (opE (frD (sCall uLen (aCons (opV 2) aNil))))))) (opE (frD (sCall uLen (aCons (opV 0) aNil))))))) (opE (frD (sBin uIx (opV 2) (opE (frD (sBin uModI (opV 1) (opE (frD (sCall uLen (aCons (opV 2) aNil)))))))))))))
def F_time_of_day : FS := mkFS [.br, .br] 3 b_time_of_day
@[simp] theorem ms_time_of_day : F_time_of_day.ms = [.br, .br] := rfl
theorem j_time_of_day {W : Wd} (x : Fx W) (hk : 0 ≤ W.k) : JSs W ⟨N_time_of_day, defScope st_time_of_day, true⟩ (defBody st_time_of_day) b_time_of_day :=
    (jss_cons (js_setLc 2 [(("day" : Str), 3), (("item" : Str), 4)] nd_time_of_day (by decide +kernel) (by decide +kernel) rfl (by decide +kernel) rfl (by decide +kernel) (ji_enum (by decide +kernel) x.b_enumerate rfl (jd_var 0 (by decide +kernel))) (jg_tup (jgs_cons rfl (jg_n 3 nd_time_of_day (by decide +kernel)) (jgs_cons rfl (jg_n 4 nd_time_of_day (by decide +kernel)) jgs_nil))) (jbs_one (jb_cmp opEq (jp_var 4 (by decide +kernel)) (jp_d jd_int) rfl)) (jf_d (jd_var 3 (by decide +kernel))) rfl (by decide))
    (jss_one (js_ret (jf_bin opAdd (jp_d (jd_f (jf_bin opMul (jp_d (jd_f (jf_bin opDiv (jp_var 1 (by decide +kernel)) (jp_d (jd_f (jf_callB clLen (by decide +kernel) x.b_len boot_len (ja_cons rfl (jp_var 2 (by decide +kernel)) ja_nil))))))) (jp_d (jd_f (jf_callB clLen (by decide +kernel) x.b_len boot_len (ja_cons rfl (jp_var 0 (by decide +kernel)) ja_nil))))))) (jp_d (jd_f (jf_ix ixA (jp_var 2 (by decide +kernel)) (jp_d (jd_f (jf_bin opMod (jp_var 1 (by decide +kernel)) (jp_d (jd_f (jf_callB clLen (by decide +kernel) x.b_len boot_len (ja_cons rfl (jp_var 2 (by decide +kernel)) ja_nil))))))) rfl)))))))
theorem f_time_of_day {W : Wd} (x : Fx W) : FnI W 1 "time_of_day" F_time_of_day := fnI_mk x.d_time_of_day sc_time_of_day rfl rfl (j_time_of_day x.at (Nat.le_refl _))
def b_begun_at : XS :=
    (xSeq (xIf (toB (frD (sBin uEq (opV 2) (opE (dC (.int 0))))))
      (xRet (mVar 1))
      xNext)
    (xSeq (xAsg (sBin uSubI (opE (frD (callF F_days_until (aCons (opV 0) (aCons (opV 1) aNil))))) (opV 2)) (gN 3))
    (xRet (sIf (toB (frD (sBin uLtI (opV 3) (opE (dC (.int 0)))))) (toO (dC .none)) (callF F_time_of_day (aCons (opV 0) (aCons (opV 3) aNil)))))))
def F_begun_at : FS := mkFS [.br, .sh, .br] 1 b_begun_at
@[simp] theorem ms_begun_at : F_begun_at.ms = [.br, .sh, .br] := rfl
theorem j_begun_at {W : Wd} (x : Fx W) (hk : 1 ≤ W.k) : JSs W ⟨N_begun_at, defScope st_begun_at, true⟩ (defBody st_begun_at) b_begun_at :=
    (jss_cons (js_if (jb_cmp opEq (jp_var 2 (by decide +kernel)) (jp_d jd_int) rfl)
      (jss_one (js_ret (jf_mv 1 (by decide +kernel))))
      jss_nil)
    (jss_cons (js_set 3 nd_begun_at rfl (by decide +kernel) rfl (jf_bin opSub (jp_d (jd_f (jf_call (f_days_until x.at) (Nat.le_trans (by decide) hk) (by decide +kernel) (ja_cons rfl (jp_var 0 (by decide +kernel)) (ja_cons rfl (jp_var 1 (by decide +kernel)) ja_nil))))) (jp_var 2 (by decide +kernel))))
    (jss_one (js_ret (jf_if (jb_cmp opLt (jp_var 3 (by decide +kernel)) (jp_d jd_int) rfl) (jf_d jd_non) (jf_call (f_time_of_day x.at) (Nat.le_trans (by decide) hk) (by decide +kernel) (ja_cons rfl (jp_var 0 (by decide +kernel)) (ja_cons rfl (jp_var 3 (by decide +kernel)) ja_nil))))))))
theorem f_begun_at {W : Wd} (x : Fx W) : FnI W 2 "begun_at" F_begun_at := fnI_mk x.d_begun_at sc_begun_at rfl rfl (j_begun_at x.at (Nat.le_refl _))
def b_is_count : XS :=
    (xRet (toO (ofB (bAnd (toB (frD (callF F_is_integer (aCons (opV 0) aNil)))) (toB (frD (sBin uGeI (opV 0) (opE (dC (.int 0))))))))))
def F_is_count : FS := mkFS [.br] 0 b_is_count
@[simp] theorem ms_is_count : F_is_count.ms = [.br] := rfl
theorem j_is_count {W : Wd} (x : Fx W) (hk : 1 ≤ W.k) : JSs W ⟨N_is_count, defScope st_is_count, true⟩ (defBody st_is_count) b_is_count :=
    (jss_one (js_ret (jf_d (jd_v (jv_and (jv_d (jd_f (jf_call (f_is_integer x.at) (Nat.le_trans (by decide) hk) (by decide +kernel) (ja_cons rfl (jp_var 0 (by decide +kernel)) ja_nil)))) (jv_1 (jv_d (jd_f (jf_cmp opGe (jp_var 0 (by decide +kernel)) (jp_d jd_int) rfl)))))))))
theorem f_is_count {W : Wd} (x : Fx W) : FnI W 2 "is_count" F_is_count := fnI_mk x.d_is_count sc_is_count rfl rfl (j_is_count x.at (Nat.le_refl _))
def b_begun : XS :=
    (xSeq (xDrop (callF F_check_calendar (aCons (opV 0) aNil)))
    (xSeq (xIf (bNot (toB (frD (callF F_is_count (aCons (opV 1) aNil)))))
      xNever
      xNext)
    (xSeq (xIf (bNot (toB (frD (callF F_is_count (aCons (opV 2) aNil)))))
      xNever
      xNext)
    (xRet (callF F_begun_at (aCons (opV 0) (aCons (opE (dVar 1)) (aCons (opV 2) aNil))))))))
def F_begun : FS := mkFS [.br, .sh, .br] 0 b_begun
@[simp] theorem ms_begun : F_begun.ms = [.br, .sh, .br] := rfl
theorem j_begun {W : Wd} (x : Fx W) (hk : 3 ≤ W.k) : JSs W ⟨N_begun, defScope st_begun, true⟩ (defBody st_begun) b_begun :=
    (jss_cons (js_expr rfl (jf_call (f_check_calendar x.at) (Nat.le_trans (by decide) hk) (by decide +kernel) (ja_cons rfl (jp_var 0 (by decide +kernel)) ja_nil)))
    (jss_cons (js_if (jb_not (jb_d rfl (jd_f (jf_call (f_is_count x.at) (Nat.le_trans (by decide) hk) (by decide +kernel) (ja_cons rfl (jp_var 1 (by decide +kernel)) ja_nil)))))
      (jss_one js_never)
      jss_nil)
    (jss_cons (js_if (jb_not (jb_d rfl (jd_f (jf_call (f_is_count x.at) (Nat.le_trans (by decide) hk) (by decide +kernel) (ja_cons rfl (jp_var 2 (by decide +kernel)) ja_nil)))))
      (jss_one js_never)
      jss_nil)
    (jss_one (js_ret (jf_call (f_begun_at x.at) (Nat.le_trans (by decide) hk) (by decide +kernel) (ja_cons rfl (jp_var 0 (by decide +kernel)) (ja_cons rfl (jp_d (jd_var 1 (by decide +kernel))) (ja_cons rfl (jp_var 2 (by decide +kernel)) ja_nil)))))))))
theorem f_begun {W : Wd} (x : Fx W) : FnI W 4 "begun" F_begun := fnI_mk x.d_begun sc_begun rfl rfl (j_begun x.at (Nat.le_refl _))
theorem fk_begun0 {W : Wd} (x : Fx W) : FnK W 4 "begun" F_begun ["duration", "end", "calendar"] [2, 1, 0] := fnK_mk x.k_begun0 sc_begun rfl rfl (j_begun x.at (Nat.le_refl _))
def b_worked : XS :=
    (xSeq (xDrop (callF F_check_calendar (aCons (opV 0) aNil)))
    (xSeq (xIf (bNot (toB (frD (callF F_is_count (aCons (opV 1) aNil)))))
      xNever
      xNext)
    (xSeq (xIf (bNot (toB (frD (callF F_is_count (aCons (opV 2) aNil)))))
      xNever
      xNext)
    (xRet (sCall uMax (aCons (opE (dC (.int 0))) (aCons (opE (frD (sBin uSubI (opE (frD (callF F_days_until (aCons (opV 0) (aCons (opV 2) aNil))))) (opE (frD (callF F_days_until (aCons (opV 0) (aCons (opV 1) aNil)))))))) aNil)))))))
def F_worked : FS := mkFS [.br, .br, .br] 0 b_worked
@[simp] theorem ms_worked : F_worked.ms = [.br, .br, .br] := rfl
theorem j_worked {W : Wd} (x : Fx W) (hk : 3 ≤ W.k) : JSs W ⟨N_worked, defScope st_worked, true⟩ (defBody st_worked) b_worked :=
    (jss_cons (js_expr rfl (jf_call (f_check_calendar x.at) (Nat.le_trans (by decide) hk) (by decide +kernel) (ja_cons rfl (jp_var 0 (by decide +kernel)) ja_nil)))
    (jss_cons (js_if (jb_not (jb_d rfl (jd_f (jf_call (f_is_count x.at) (Nat.le_trans (by decide) hk) (by decide +kernel) (ja_cons rfl (jp_var 1 (by decide +kernel)) ja_nil)))))
      (jss_one js_never)
      jss_nil)
    (jss_cons (js_if (jb_not (jb_d rfl (jd_f (jf_call (f_is_count x.at) (Nat.le_trans (by decide) hk) (by decide +kernel) (ja_cons rfl (jp_var 2 (by decide +kernel)) ja_nil)))))
      (jss_one js_never)
      jss_nil)
    (jss_one (js_ret (jf_callB clMax (by decide +kernel) x.b_max boot_max (ja_cons rfl (jp_d jd_int) (ja_cons rfl (jp_d (jd_f (jf_bin opSub (jp_d (jd_f (jf_call (f_days_until x.at) (Nat.le_trans (by decide) hk) (by decide +kernel) (ja_cons rfl (jp_var 0 (by decide +kernel)) (ja_cons rfl (jp_var 2 (by decide +kernel)) ja_nil))))) (jp_d (jd_f (jf_call (f_days_until x.at) (Nat.le_trans (by decide) hk) (by decide +kernel) (ja_cons rfl (jp_var 0 (by decide +kernel)) (ja_cons rfl (jp_var 1 (by decide +kernel)) ja_nil)))))))) ja_nil))))))))
theorem f_worked {W : Wd} (x : Fx W) : FnI W 4 "worked" F_worked := fnI_mk x.d_worked sc_worked rfl rfl (j_worked x.at (Nat.le_refl _))
theorem fk_worked0 {W : Wd} (x : Fx W) : FnK W 4 "worked" F_worked ["end", "start", "calendar"] [2, 1, 0] := fnK_mk x.k_worked0 sc_worked rfl rfl (j_worked x.at (Nat.le_refl _))
def b_done_at : XS :=
    (xRet (sIf (toB (frD (sBin uEq (opV 2) (opE (dC (.int 0)))))) (mVar 1) (sBin uAdd (opE (dC (.int 1))) (opE (frD (callF F_time_of_day (aCons (opV 0) (aCons (opE (frD (sBin uSubI (opE (frD (sBin uAdd (opE (frD (callF F_days_until (aCons (opV 0) (aCons (opV 1) aNil))))) (opV 2)))) (opE (dC (.int 1)))))) aNil))))))))
def F_done_at : FS := mkFS [.br, .sh, .br] 0 b_done_at
@[simp] theorem ms_done_at : F_done_at.ms = [.br, .sh, .br] := rfl
theorem j_done_at {W : Wd} (x : Fx W) (hk : 1 ≤ W.k) : JSs W ⟨N_done_at, defScope st_done_at, true⟩ (defBody st_done_at) b_done_at :=
    (jss_one (js_ret (jf_if (jb_cmp opEq (jp_var 2 (by decide +kernel)) (jp_d jd_int) rfl) (jf_mv 1 (by decide +kernel)) (jf_bin opAdd (jp_d jd_int) (jp_d (jd_f (jf_call (f_time_of_day x.at) (Nat.le_trans (by decide) hk) (by decide +kernel) (ja_cons rfl (jp_var 0 (by decide +kernel)) (ja_cons rfl (jp_d (jd_f (jf_bin opSub (jp_d (jd_f (jf_bin opAdd (jp_d (jd_f (jf_call (f_days_until x.at) (Nat.le_trans (by decide) hk) (by decide +kernel) (ja_cons rfl (jp_var 0 (by decide +kernel)) (ja_cons rfl (jp_var 1 (by decide +kernel)) ja_nil))))) (jp_var 2 (by decide +kernel))))) (jp_d jd_int)))) ja_nil)))))))))
theorem f_done_at {W : Wd} (x : Fx W) : FnI W 2 "done_at" F_done_at := fnI_mk x.d_done_at sc_done_at rfl rfl (j_done_at x.at (Nat.le_refl _))
def b_done : XS :=
    (xSeq (xDrop (callF F_check_calendar (aCons (opV 0) aNil)))
    (xSeq (xIf (bNot (toB (frD (callF F_is_count (aCons (opV 1) aNil)))))
      xNever
      xNext)
    (xSeq (xIf (bNot (toB (frD (callF F_is_count (aCons (opV 2) aNil)))))
      xNever
      xNext)
    (xRet (callF F_done_at (aCons (opV 0) (aCons (opE (dVar 1)) (aCons (opV 2) aNil))))))))
def F_done : FS := mkFS [.br, .sh, .br] 0 b_done
@[simp] theorem ms_done : F_done.ms = [.br, .sh, .br] := rfl
theorem j_done {W : Wd} (x : Fx W) (hk : 3 ≤ W.k) : JSs W ⟨N_done, defScope st_done, true⟩ (defBody st_done) b_done :=
    (jss_cons (js_expr rfl (jf_call (f_check_calendar x.at) (Nat.le_trans (by decide) hk) (by decide +kernel) (ja_cons rfl (jp_var 0 (by decide +kernel)) ja_nil)))
    (jss_cons (js_if (jb_not (jb_d rfl (jd_f (jf_call (f_is_count x.at) (Nat.le_trans (by decide) hk) (by decide +kernel) (ja_cons rfl (jp_var 1 (by decide +kernel)) ja_nil)))))
      (jss_one js_never)
      jss_nil)
    (jss_cons (js_if (jb_not (jb_d rfl (jd_f (jf_call (f_is_count x.at) (Nat.le_trans (by decide) hk) (by decide +kernel) (ja_cons rfl (jp_var 2 (by decide +kernel)) ja_nil)))))
      (jss_one js_never)
      jss_nil)
    (jss_one (js_ret (jf_call (f_done_at x.at) (Nat.le_trans (by decide) hk) (by decide +kernel) (ja_cons rfl (jp_var 0 (by decide +kernel)) (ja_cons rfl (jp_d (jd_var 1 (by decide +kernel))) (ja_cons rfl (jp_var 2 (by decide +kernel)) ja_nil)))))))))
theorem f_done {W : Wd} (x : Fx W) : FnI W 4 "done" F_done := fnI_mk x.d_done sc_done rfl rfl (j_done x.at (Nat.le_refl _))
theorem fk_done0 {W : Wd} (x : Fx W) : FnK W 4 "done" F_done ["duration", "start", "calendar"] [2, 1, 0] := fnK_mk x.k_done0 sc_done rfl rfl (j_done x.at (Nat.le_refl _))
def b_law_told : XS :=
    (xSeq (xIf (toB (frD (sBin uEq (opV 0) (opE (dC (.str ("worked" : Str)))))))
      (xRet (sIf (toB (dVar 4)) (callF F_worked (aReord [2, 1, 0] (aCons (opV 3) (aCons (opV 2) (aCons (opV 1) aNil))))) (callF F_worked (aCons (opV 1) (aCons (opV 2) (aCons (opV 3) aNil))))))
      xNext)
    (xSeq (xIf (toB (frD (sBin uEq (opV 0) (opE (dC (.str ("done" : Str)))))))
      (xRet (sIf (toB (dVar 4)) (callF F_done (aReord [2, 1, 0] (aCons (opV 3) (aCons (opE (dVar 2)) (aCons (opV 1) aNil))))) (callF F_done (aCons (opV 1) (aCons (opE (dVar 2)) (aCons (opV 3) aNil))))))
      xNext)
    (xRet (sIf (toB (dVar 4)) (callF F_begun (aReord [2, 1, 0] (aCons (opV 3) (aCons (opE (dVar 2)) (aCons (opV 1) aNil))))) (callF F_begun (aCons (opV 1) (aCons (opE (dVar 2)) (aCons (opV 3) aNil))))))))
def F_law_told : FS := mkFS [.br, .br, .sh, .br, .br] 0 b_law_told
@[simp] theorem ms_law_told : F_law_told.ms = [.br, .br, .sh, .br, .br] := rfl
theorem j_law_told {W : Wd} (x : Fx W) (hk : 4 ≤ W.k) : JSs W ⟨N_law_told, defScope st_law_told, true⟩ (defBody st_law_told) b_law_told :=
    (jss_cons (js_if (jb_cmp opEq (jp_var 0 (by decide +kernel)) (jp_d jd_str) rfl)
      (jss_one (js_ret (jf_if (jb_d rfl (jd_var 4 (by decide +kernel))) (jf_callK (fk_worked0 x.at) (Nat.le_trans (by decide) hk) (by decide +kernel) (jk_cons (jp_var 3 (by decide +kernel)) (jk_cons (jp_var 2 (by decide +kernel)) (jk_cons (jp_var 1 (by decide +kernel)) jk_nil)))) (jf_call (f_worked x.at) (Nat.le_trans (by decide) hk) (by decide +kernel) (ja_cons rfl (jp_var 1 (by decide +kernel)) (ja_cons rfl (jp_var 2 (by decide +kernel)) (ja_cons rfl (jp_var 3 (by decide +kernel)) ja_nil)))))))
      jss_nil)
    (jss_cons (js_if (jb_cmp opEq (jp_var 0 (by decide +kernel)) (jp_d jd_str) rfl)
      (jss_one (js_ret (jf_if (jb_d rfl (jd_var 4 (by decide +kernel))) (jf_callK (fk_done0 x.at) (Nat.le_trans (by decide) hk) (by decide +kernel) (jk_cons (jp_var 3 (by decide +kernel)) (jk_cons (jp_d (jd_var 2 (by decide +kernel))) (jk_cons (jp_var 1 (by decide +kernel)) jk_nil)))) (jf_call (f_done x.at) (Nat.le_trans (by decide) hk) (by decide +kernel) (ja_cons rfl (jp_var 1 (by decide +kernel)) (ja_cons rfl (jp_d (jd_var 2 (by decide +kernel))) (ja_cons rfl (jp_var 3 (by decide +kernel)) ja_nil)))))))
      jss_nil)
    (jss_one (js_ret (jf_if (jb_d rfl (jd_var 4 (by decide +kernel))) (jf_callK (fk_begun0 x.at) (Nat.le_trans (by decide) hk) (by decide +kernel) (jk_cons (jp_var 3 (by decide +kernel)) (jk_cons (jp_d (jd_var 2 (by decide +kernel))) (jk_cons (jp_var 1 (by decide +kernel)) jk_nil)))) (jf_call (f_begun x.at) (Nat.le_trans (by decide) hk) (by decide +kernel) (ja_cons rfl (jp_var 1 (by decide +kernel)) (ja_cons rfl (jp_d (jd_var 2 (by decide +kernel))) (ja_cons rfl (jp_var 3 (by decide +kernel)) ja_nil)))))))))
theorem f_law_told {W : Wd} (x : Fx W) : FnI W 5 "_law_told" F_law_told := fnI_mk x.d_law_told sc_law_told rfl rfl (j_law_told x.at (Nat.le_refl _))
def lb_law_begun0 : XS :=
      (xIf (toB (frD (sBin uGeI (opE (frD (sBin uSubI (opE (frD (sBin uIx (opV 0) (opV 1)))) (opE (frD (sBin uIx (opV 0) (opV 4))))))) (opV 2))))
        (xAsg (toO (dVar 4)) (gN 3))
        xNext)
def b_law_begun : XS :=
    (xSeq (xAsg (toO (dC .none)) (gN 3))
    (xSeq (xFor (iRange (frD (sBin uAdd (opV 1) (opE (dC (.int 1)))))) (gN 4) lb_law_begun0)
    (xRet (mVar 3))))
def F_law_begun : FS := mkFS [.br, .br, .br] 2 b_law_begun
@[simp] theorem ms_law_begun : F_law_begun.ms = [.br, .br, .br] := rfl
theorem j_law_begun {W : Wd} (x : Fx W) (hk : 0 ≤ W.k) : JSs W ⟨N_law_begun, defScope st_law_begun, true⟩ (defBody st_law_begun) b_law_begun :=
    (jss_cons (js_set 3 nd_law_begun rfl (by decide +kernel) rfl (jf_d jd_non))
    (jss_cons (js_for (ji_range (by decide +kernel) x.b_range rfl (jd_f (jf_bin opAdd (jp_var 1 (by decide +kernel)) (jp_d jd_int)))) (jg_n 4 nd_law_begun (by decide +kernel))
      (jss_one (js_if (jb_cmp opGe (jp_d (jd_f (jf_bin opSub (jp_d (jd_f (jf_ix ixA (jp_var 0 (by decide +kernel)) (jp_var 1 (by decide +kernel)) rfl))) (jp_d (jd_f (jf_ix ixA (jp_var 0 (by decide +kernel)) (jp_var 4 (by decide +kernel)) rfl)))))) (jp_var 2 (by decide +kernel)) rfl)
        (jss_one (js_set 3 nd_law_begun rfl (by decide +kernel) rfl (jf_d (jd_var 4 (by decide +kernel)))))
        jss_nil)))
    (jss_one (js_ret (jf_mv 3 (by decide +kernel))))))
theorem f_law_begun {W : Wd} (x : Fx W) : FnI W 1 "_law_begun" F_law_begun := fnI_mk x.d_law_begun sc_law_begun rfl rfl (j_law_begun x.at (Nat.le_refl _))
def lb_law_done0 : XS :=
      (xIf (toB (frD (sBin uGeI (opE (frD (sBin uSubI (opE (frD (sBin uIx (opV 0) (opV 3)))) (opE (frD (sBin uIx (opV 0) (opV 1))))))) (opV 2))))
        (xRet (mVar 3))
        xNext)
def b_law_done : XS :=
    (xSeq (xFor (iRange2 (dVar 1) (frD (sCall uLen (aCons (opV 0) aNil)))) (gN 3) lb_law_done0)
    (xRet (toO (dC .none))))
def F_law_done : FS := mkFS [.br, .br, .br] 1 b_law_done
@[simp] theorem ms_law_done : F_law_done.ms = [.br, .br, .br] := rfl
theorem j_law_done {W : Wd} (x : Fx W) (hk : 0 ≤ W.k) : JSs W ⟨N_law_done, defScope st_law_done, true⟩ (defBody st_law_done) b_law_done :=
    (jss_cons (js_for (ji_range2 (by decide +kernel) x.b_range rfl rfl (jd_var 1 (by decide +kernel)) (jd_f (jf_callB clLen (by decide +kernel) x.b_len boot_len (ja_cons rfl (jp_var 0 (by decide +kernel)) ja_nil)))) (jg_n 3 nd_law_done (by decide +kernel))
      (jss_one (js_if (jb_cmp opGe (jp_d (jd_f (jf_bin opSub (jp_d (jd_f (jf_ix ixA (jp_var 0 (by decide +kernel)) (jp_var 3 (by decide +kernel)) rfl))) (jp_d (jd_f (jf_ix ixA (jp_var 0 (by decide +kernel)) (jp_var 1 (by decide +kernel)) rfl)))))) (jp_var 2 (by decide +kernel)) rfl)
        (jss_one (js_ret (jf_mv 3 (by decide +kernel))))
        jss_nil)))
    (jss_one (js_ret (jf_d jd_non))))
theorem f_law_done {W : Wd} (x : Fx W) : FnI W 1 "_law_done" F_law_done := fnI_mk x.d_law_done sc_law_done rfl rfl (j_law_done x.at (Nat.le_refl _))
def lb_law_calendar_right0 : XS :=
      (xSeq (xIf (bNot (toB (frD (callF (F_law_same 4) (aCons (opE (frD (callF F_law_told (aCons (opE (dC (.str ("worked" : Str)))) (aCons (opV 0) (aCons (opE (dVar 3)) (aCons (opV 4) (aCons (opV 1) aNil)))))))) (aCons (opE (frD (sIf (toB (frD (sBin uGtI (opV 4) (opV 3)))) (sCall uMax (aCons (opE (dC (.int 0))) (aCons (opE (frD (sBin uSubI (opE (frD (sBin uIx (opV 2) (opV 4)))) (opE (frD (sBin uIx (opV 2) (opV 3))))))) aNil))) (toO (dC (.int 0)))))) aNil))))))
          (xRet (toO (dC (.bool false))))
          xNext)
        (xAsg (toO (ofB (bNot (toB (dVar 1))))) (gN 1)))
def lb_law_calendar_right1 : XS :=
      (xSeq (xAsg (callF F_law_begun (aCons (opV 2) (aCons (opV 4) (aCons (opV 5) aNil)))) (gN 7))
          (xSeq (xAsg (sBin uGeI (opE (frD (sBin uSubI (opE (frD (sBin uIx (opV 2) (opV 4)))) (opE (frD (sBin uIx (opV 2) (opV 3))))))) (opV 5)) (gN 8))
          (xIf (bOr (toB (frD (sBin uNe (opV 8) (opE (frD (sBin uLeI (opE (frD (sBin uIx (opV 6) (opE (dC (.int 0)))))) (opV 4))))))) (toB (frD (sBin uNe (opV 8) (opE (ofB (bAnd (toB (frD (sBin uIsNot (opV 7) (opE (dC .none))))) (toB (frD (sBin uGeI (opV 7) (opV 3)))))))))))
            (xRet (toO (dC (.bool false))))
            xNext)))
def lb_law_calendar_right2 : XS :=
      (xSeq (xAsg (sCall uLst (aCons (opE (frD (callF F_law_told (aCons (opE (dC (.str ("done" : Str)))) (aCons (opV 0) (aCons (opE (dVar 3)) (aCons (opV 5) (aCons (opV 1) aNil)))))))) (aCons (opE (frD (callF F_law_told (aCons (opE (dC (.str ("begun" : Str)))) (aCons (opV 0) (aCons (opE (dVar 3)) (aCons (opV 5) (aCons (opE (ofB (bNot (toB (dVar 1))))) aNil)))))))) aNil))) (gN 6))
        (xSeq (xIf (bNot (toB (frD (callF (F_law_same 4) (aCons (opV 6) (aCons (opE (frD (sCall uLst (aCons (opE (frD (callF F_law_done (aCons (opV 2) (aCons (opV 3) (aCons (opV 5) aNil)))))) (aCons (opE (frD (callF F_law_begun (aCons (opV 2) (aCons (opV 3) (aCons (opV 5) aNil)))))) aNil))))) aNil))))))
          (xRet (toO (dC (.bool false))))
          xNext)
        (xSeq (xFor (iRange2 (dVar 3) (dC (.int 12))) (gN 4) lb_law_calendar_right1)
        (xAsg (toO (ofB (bNot (toB (dVar 1))))) (gN 1)))))
def lb_law_calendar_right3 : XS :=
      (xSeq (xFor (iRange (dC (.int 12))) (gN 4) lb_law_calendar_right0)
      (xFor (iRange (dC (.int 7))) (gN 5) lb_law_calendar_right2))
def b_law_calendar_right : XS :=
    (xSeq (xAsg (callF F_law_days (aCons (opV 0) (aCons (opE (frD (sBin uAdd (opE (dC (.int 12))) (opE (frD (sBin uMul (opE (dC (.int 7))) (opE (frD (sCall uLen (aCons (opV 0) aNil)))))))))) aNil))) (gN 2))
    (xSeq (xFor (iRange (dC (.int 12))) (gN 3) lb_law_calendar_right3)
    (xRet (toO (dC (.bool true))))))
def F_law_calendar_right : FS := mkFS [.br, .sh] 7 b_law_calendar_right
@[simp] theorem ms_law_calendar_right : F_law_calendar_right.ms = [.br, .sh] := rfl
theorem j_law_calendar_right {W : Wd} (x : Fx W) (hk : 5 ≤ W.k) : JSs W ⟨N_law_calendar_right, defScope st_law_calendar_right, true⟩ (defBody st_law_calendar_right) b_law_calendar_right :=
    (jss_cons (js_set 2 nd_law_calendar_right rfl (by decide +kernel) rfl (jf_call (f_law_days x.at) (Nat.le_trans (by decide) hk) (by decide +kernel) (ja_cons rfl (jp_var 0 (by decide +kernel)) (ja_cons rfl (jp_d (jd_f (jf_bin opAdd (jp_d jd_int) (jp_d (jd_f (jf_bin opMul (jp_d jd_int) (jp_d (jd_f (jf_callB clLen (by decide +kernel) x.b_len boot_len (ja_cons rfl (jp_var 0 (by decide +kernel)) ja_nil)))))))))) ja_nil))))
    (jss_cons (js_for (ji_range (by decide +kernel) x.b_range rfl jd_int) (jg_n 3 nd_law_calendar_right (by decide +kernel))
      (jss_cons (js_for (ji_range (by decide +kernel) x.b_range rfl jd_int) (jg_n 4 nd_law_calendar_right (by decide +kernel))
        (jss_cons (js_if (jb_not (jb_d rfl (jd_f (jf_call (f_law_same x.at 4).at (Nat.le_trans (by decide) hk) (by decide +kernel) (ja_cons rfl (jp_d (jd_f (jf_call (f_law_told x.at) (Nat.le_trans (by decide) hk) (by decide +kernel) (ja_cons rfl (jp_d jd_str) (ja_cons rfl (jp_var 0 (by decide +kernel)) (ja_cons rfl (jp_d (jd_var 3 (by decide +kernel))) (ja_cons rfl (jp_var 4 (by decide +kernel)) (ja_cons rfl (jp_var 1 (by decide +kernel)) ja_nil)))))))) (ja_cons rfl (jp_d (jd_f (jf_if (jb_cmp opGt (jp_var 4 (by decide +kernel)) (jp_var 3 (by decide +kernel)) rfl) (jf_callB clMax (by decide +kernel) x.b_max boot_max (ja_cons rfl (jp_d jd_int) (ja_cons rfl (jp_d (jd_f (jf_bin opSub (jp_d (jd_f (jf_ix ixA (jp_var 2 (by decide +kernel)) (jp_var 4 (by decide +kernel)) rfl))) (jp_d (jd_f (jf_ix ixA (jp_var 2 (by decide +kernel)) (jp_var 3 (by decide +kernel)) rfl)))))) ja_nil))) (jf_d jd_int)))) ja_nil))))))
          (jss_one (js_ret (jf_d jd_bl)))
          jss_nil)
        (jss_one (js_set 1 nd_law_calendar_right rfl (by decide +kernel) rfl (jf_d (jd_v (jv_not (jv_d (jd_var 1 (by decide +kernel))))))))))
      (jss_one (js_for (ji_range (by decide +kernel) x.b_range rfl jd_int) (jg_n 5 nd_law_calendar_right (by decide +kernel))
        (jss_cons (js_set 6 nd_law_calendar_right rfl (by decide +kernel) rfl (jf_lst (ja_cons rfl (jp_d (jd_f (jf_call (f_law_told x.at) (Nat.le_trans (by decide) hk) (by decide +kernel) (ja_cons rfl (jp_d jd_str) (ja_cons rfl (jp_var 0 (by decide +kernel)) (ja_cons rfl (jp_d (jd_var 3 (by decide +kernel))) (ja_cons rfl (jp_var 5 (by decide +kernel)) (ja_cons rfl (jp_var 1 (by decide +kernel)) ja_nil)))))))) (ja_cons rfl (jp_d (jd_f (jf_call (f_law_told x.at) (Nat.le_trans (by decide) hk) (by decide +kernel) (ja_cons rfl (jp_d jd_str) (ja_cons rfl (jp_var 0 (by decide +kernel)) (ja_cons rfl (jp_d (jd_var 3 (by decide +kernel))) (ja_cons rfl (jp_var 5 (by decide +kernel)) (ja_cons rfl (jp_d (jd_v (jv_not (jv_d (jd_var 1 (by decide +kernel)))))) ja_nil)))))))) ja_nil))))
        (jss_cons (js_if (jb_not (jb_d rfl (jd_f (jf_call (f_law_same x.at 4).at (Nat.le_trans (by decide) hk) (by decide +kernel) (ja_cons rfl (jp_var 6 (by decide +kernel)) (ja_cons rfl (jp_d (jd_f (jf_lst (ja_cons rfl (jp_d (jd_f (jf_call (f_law_done x.at) (Nat.le_trans (by decide) hk) (by decide +kernel) (ja_cons rfl (jp_var 2 (by decide +kernel)) (ja_cons rfl (jp_var 3 (by decide +kernel)) (ja_cons rfl (jp_var 5 (by decide +kernel)) ja_nil)))))) (ja_cons rfl (jp_d (jd_f (jf_call (f_law_begun x.at) (Nat.le_trans (by decide) hk) (by decide +kernel) (ja_cons rfl (jp_var 2 (by decide +kernel)) (ja_cons rfl (jp_var 3 (by decide +kernel)) (ja_cons rfl (jp_var 5 (by decide +kernel)) ja_nil)))))) ja_nil))))) ja_nil))))))
          (jss_one (js_ret (jf_d jd_bl)))
          jss_nil)
        (jss_cons (js_for (ji_range2 (by decide +kernel) x.b_range rfl rfl (jd_var 3 (by decide +kernel)) jd_int) (jg_n 4 nd_law_calendar_right (by decide +kernel))
          (jss_cons (js_set 7 nd_law_calendar_right rfl (by decide +kernel) rfl (jf_call (f_law_begun x.at) (Nat.le_trans (by decide) hk) (by decide +kernel) (ja_cons rfl (jp_var 2 (by decide +kernel)) (ja_cons rfl (jp_var 4 (by decide +kernel)) (ja_cons rfl (jp_var 5 (by decide +kernel)) ja_nil)))))
          (jss_cons (js_set 8 nd_law_calendar_right rfl (by decide +kernel) rfl (jf_cmp opGe (jp_d (jd_f (jf_bin opSub (jp_d (jd_f (jf_ix ixA (jp_var 2 (by decide +kernel)) (jp_var 4 (by decide +kernel)) rfl))) (jp_d (jd_f (jf_ix ixA (jp_var 2 (by decide +kernel)) (jp_var 3 (by decide +kernel)) rfl)))))) (jp_var 5 (by decide +kernel)) rfl))
          (jss_one (js_if (jb_w (jb_orc (jb_cmp opNe (jp_var 8 (by decide +kernel)) (jp_d (jd_f (jf_cmp opLe (jp_d (jd_f (jf_ix ixA (jp_var 6 (by decide +kernel)) (jp_d jd_int) rfl))) (jp_var 4 (by decide +kernel)) rfl))) rfl) (jb_or1 (jb_cmp opNe (jp_var 8 (by decide +kernel)) (jp_d (jd_v (jv_and (jv_d (jd_f (jf_cmp opIsNot (jp_var 7 (by decide +kernel)) (jp_d jd_non) rfl))) (jv_1 (jv_d (jd_f (jf_cmp opGe (jp_var 7 (by decide +kernel)) (jp_var 3 (by decide +kernel)) rfl))))))) rfl))))
            (jss_one (js_ret (jf_d jd_bl)))
            jss_nil)))))
        (jss_one (js_set 1 nd_law_calendar_right rfl (by decide +kernel) rfl (jf_d (jd_v (jv_not (jv_d (jd_var 1 (by decide +kernel)))))))))))))))
    (jss_one (js_ret (jf_d jd_bl)))))
theorem f_law_calendar_right {W : Wd} (x : Fx W) : FnI W 6 "_law_calendar_right" F_law_calendar_right := fnI_mk x.d_law_calendar_right sc_law_calendar_right rfl rfl (j_law_calendar_right x.at (Nat.le_refl _))
def lb_law_other_right0 : XS :=
      (xSeq (xPar3 13 14 15 (lCons (callF F_law_take (aCons (opV 0) (aCons (opE (dC (.int 30))) aNil))) (lCons (callF F_law_take (aCons (opV 0) (aCons (opE (dC (.int 12))) aNil))) (lCons (callF F_law_take (aCons (opV 0) (aCons (opE (dC (.int 25))) aNil))) lNil))))
      (xSeq (xAsg (sCall uLst (aCons (opE (frD (callF F_law_told (aCons (opE (dC (.str ("worked" : Str)))) (aCons (opV 1) (aCons (opE (dVar 13)) (aCons (opE (frD (sBin uAdd (opV 13) (opV 15)))) (aCons (opV 2) aNil)))))))) (aCons (opE (frD (callF F_law_told (aCons (opE (dC (.str ("done" : Str)))) (aCons (opV 1) (aCons (opE (dVar 13)) (aCons (opV 14) (aCons (opV 2) aNil)))))))) (aCons (opE (frD (callF F_law_told (aCons (opE (dC (.str ("begun" : Str)))) (aCons (opV 1) (aCons (opE (dVar 13)) (aCons (opV 14) (aCons (opE (ofB (bNot (toB (dVar 2))))) aNil)))))))) aNil)))) (gN 8))
      (xSeq (xAsg (sCall uLst (aCons (opE (frD (callF F_law_told (aCons (opE (dC (.str ("worked" : Str)))) (aCons (opV 6) (aCons (opE (dVar 13)) (aCons (opE (frD (sBin uAdd (opV 13) (opV 15)))) (aCons (opE (ofB (bNot (toB (dVar 2))))) aNil)))))))) (aCons (opE (frD (callF F_law_told (aCons (opE (dC (.str ("done" : Str)))) (aCons (opV 6) (aCons (opE (dVar 13)) (aCons (opV 14) (aCons (opE (ofB (bNot (toB (dVar 2))))) aNil)))))))) (aCons (opE (frD (callF F_law_told (aCons (opE (dC (.str ("begun" : Str)))) (aCons (opV 6) (aCons (opE (dVar 13)) (aCons (opV 14) (aCons (opV 2) aNil)))))))) aNil)))) (gN 9))
      (xSeq (xIf (bNot (toB (frD (callF (F_law_same 4) (aCons (opV 9) (aCons (opV 8) aNil))))))
        (xRet (toO (dC (.bool false))))
        xNext)
      (xSeq (xAsg (sCall uLst (aCons (opE (frD (callF F_law_told (aCons (opE (dC (.str ("worked" : Str)))) (aCons (opV 1) (aCons (opE (frD (sBin uAdd (opV 13) (opV 4)))) (aCons (opE (frD (sBin uAdd (opE (frD (sBin uAdd (opV 13) (opV 4)))) (opV 15)))) (aCons (opV 2) aNil)))))))) (aCons (opE (frD (callF F_law_told (aCons (opE (dC (.str ("done" : Str)))) (aCons (opV 1) (aCons (opE (frD (sBin uAdd (opV 13) (opV 4)))) (aCons (opV 14) (aCons (opV 2) aNil)))))))) aNil))) (gN 10))
      (xSeq (xIf (bNot (toB (frD (callF (F_law_same 4) (aCons (opV 10) (aCons (opE (frD (sCall uLst (aCons (opE (frD (sBin uIx (opV 8) (opE (dC (.int 0)))))) (aCons (opE (frD (sBin uAdd (opE (frD (sBin uIx (opV 8) (opE (dC (.int 1)))))) (opV 4)))) aNil))))) aNil))))))
        (xRet (toO (dC (.bool false))))
        xNext)
      (xSeq (xIf (bAnd (toB (frD (sBin uIsNot (opE (frD (sBin uIx (opV 8) (opE (dC (.int 2)))))) (opE (dC .none))))) (bNot (toB (frD (callF (F_law_same 4) (aCons (opE (frD (callF F_law_told (aCons (opE (dC (.str ("begun" : Str)))) (aCons (opV 1) (aCons (opE (frD (sBin uAdd (opV 13) (opV 4)))) (aCons (opV 14) (aCons (opV 2) aNil)))))))) (aCons (opE (frD (sBin uAdd (opE (frD (sBin uIx (opV 8) (opE (dC (.int 2)))))) (opV 4)))) aNil)))))))
        (xRet (toO (dC (.bool false))))
        xNext)
      (xSeq (xAsg (sBin uMul (opV 3) (opE (frD (sBin uAdd (opE (dC (.int 1))) (opE (frD (sBin uDivI (opE (frD (sCall uMax (aCons (opE (frD (sBin uIx (opV 8) (opE (dC (.int 1)))))) (aCons (opE (frD (sBin uAdd (opV 13) (opV 15)))) aNil))))) (opV 3)))))))) (gN 11))
      (xSeq (xAsg (sCall uLst (aCons (opE (frD (callF F_law_told (aCons (opE (dC (.str ("worked" : Str)))) (aCons (opV 7) (aCons (opE (frD (sBin uSubI (opE (frD (sBin uSubI (opV 11) (opV 13)))) (opV 15)))) (aCons (opE (frD (sBin uSubI (opV 11) (opV 13)))) (aCons (opE (ofB (bNot (toB (dVar 2))))) aNil)))))))) (aCons (opE (frD (callF F_law_told (aCons (opE (dC (.str ("begun" : Str)))) (aCons (opV 7) (aCons (opE (frD (sBin uSubI (opV 11) (opV 13)))) (aCons (opV 14) (aCons (opV 2) aNil)))))))) aNil))) (gN 12))
      (xSeq (xIf (bNot (toB (frD (callF (F_law_same 4) (aCons (opV 12) (aCons (opE (frD (sCall uLst (aCons (opE (frD (sBin uIx (opV 8) (opE (dC (.int 0)))))) (aCons (opE (frD (sBin uSubI (opV 11) (opE (frD (sBin uIx (opV 8) (opE (dC (.int 1))))))))) aNil))))) aNil))))))
        (xRet (toO (dC (.bool false))))
        xNext)
      (xSeq (xIf (bAnd (toB (frD (sBin uIsNot (opE (frD (sBin uIx (opV 8) (opE (dC (.int 2)))))) (opE (dC .none))))) (bNot (toB (frD (callF (F_law_same 4) (aCons (opE (frD (callF F_law_told (aCons (opE (dC (.str ("done" : Str)))) (aCons (opV 7) (aCons (opE (frD (sBin uSubI (opV 11) (opV 13)))) (aCons (opV 14) (aCons (opE (ofB (bNot (toB (dVar 2))))) aNil)))))))) (aCons (opE (frD (sBin uSubI (opV 11) (opE (frD (sBin uIx (opV 8) (opE (dC (.int 2))))))))) aNil)))))))
        (xRet (toO (dC (.bool false))))
        xNext)
      (xAsg (toO (ofB (bNot (toB (dVar 2))))) (gN 2)))))))))))))
def b_law_other_right : XS :=
    (xSeq (xAsg (sCall uLen (aCons (opV 1) aNil)) (gN 3))
    (xSeq (xPar 6 7 (lCons (sBin uAdd (opV 1) (opV 1)) (lCons (sUn uRev (opV 1)) lNil)))
    (xSeq (xAsg (sBin uMul (opE (frD (sBin uMul (opV 3) (opE (frD (sBin uAdd (opE (dC (.int 1))) (opE (frD (callF F_law_take (aCons (opV 0) (aCons (opE (dC (.int 5))) aNil))))))))))) (opE (frD (sBin uIx (opE (frD (sCall uLst (aCons (opE (dC (.int 1))) (aCons (opE (frD (sBin uPowI (opE (frD (sBin uPowI (opE (dC (.int 10))) (opE (dC (.int 60)))))) (opE (dC (.int 3)))))) aNil))))) (opE (frD (callF F_law_take (aCons (opV 0) (aCons (opE (dC (.int 2))) aNil))))))))) (gN 4))
    (xSeq (xFor (iRange (dC (.int 8))) (gN 5) lb_law_other_right0)
    (xRet (toO (dC (.bool true))))))))
def F_law_other_right : FS := mkFS [.io, .br, .sh] 13 b_law_other_right
@[simp] theorem ms_law_other_right : F_law_other_right.ms = [.io, .br, .sh] := rfl
theorem j_law_other_right {W : Wd} (x : Fx W) (hk : 5 ≤ W.k) : JSs W ⟨N_law_other_right, defScope st_law_other_right, true⟩ (defBody st_law_other_right) b_law_other_right :=
    (jss_cons (js_set 3 nd_law_other_right rfl (by decide +kernel) rfl (jf_callB clLen (by decide +kernel) x.b_len boot_len (ja_cons rfl (jp_var 1 (by decide +kernel)) ja_nil)))
    (jss_cons (js_par2 6 7 nd_law_other_right (by decide +kernel) (by decide +kernel) (jl_cons rfl (jf_bin opAdd (jp_var 1 (by decide +kernel)) (jp_var 1 (by decide +kernel))) (jl_cons rfl (jf_rev (jp_var 1 (by decide +kernel))) jl_nil)))
    (jss_cons (js_set 4 nd_law_other_right rfl (by decide +kernel) rfl (jf_bin opMul (jp_d (jd_f (jf_bin opMul (jp_var 3 (by decide +kernel)) (jp_d (jd_f (jf_bin opAdd (jp_d jd_int) (jp_d (jd_f (jf_call (f_law_take x.at) (Nat.le_trans (by decide) hk) (by decide +kernel) (ja_cons rfl (jp_var 0 (by decide +kernel)) (ja_cons rfl (jp_d jd_int) ja_nil))))))))))) (jp_d (jd_f (jf_ix ixA (jp_d (jd_f (jf_lst (ja_cons rfl (jp_d jd_int) (ja_cons rfl (jp_d (jd_f (jf_bin opPow (jp_d (jd_f (jf_bin opPow (jp_d jd_int) (jp_d jd_int)))) (jp_d jd_int)))) ja_nil))))) (jp_d (jd_f (jf_call (f_law_take x.at) (Nat.le_trans (by decide) hk) (by decide +kernel) (ja_cons rfl (jp_var 0 (by decide +kernel)) (ja_cons rfl (jp_d jd_int) ja_nil))))) rfl)))))
    (jss_cons (js_for (ji_range (by decide +kernel) x.b_range rfl jd_int) (jg_n 5 nd_law_other_right (by decide +kernel))
      (jss_cons (js_par3 13 14 15 nd_law_other_right (by decide +kernel) (by decide +kernel) (jl_cons rfl (jf_call (f_law_take x.at) (Nat.le_trans (by decide) hk) (by decide +kernel) (ja_cons rfl (jp_var 0 (by decide +kernel)) (ja_cons rfl (jp_d jd_int) ja_nil))) (jl_cons rfl (jf_call (f_law_take x.at) (Nat.le_trans (by decide) hk) (by decide +kernel) (ja_cons rfl (jp_var 0 (by decide +kernel)) (ja_cons rfl (jp_d jd_int) ja_nil))) (jl_cons rfl (jf_call (f_law_take x.at) (Nat.le_trans (by decide) hk) (by decide +kernel) (ja_cons rfl (jp_var 0 (by decide +kernel)) (ja_cons rfl (jp_d jd_int) ja_nil))) jl_nil))))
      (jss_cons (js_set 8 nd_law_other_right rfl (by decide +kernel) rfl (jf_lst (ja_cons rfl (jp_d (jd_f (jf_call (f_law_told x.at) (Nat.le_trans (by decide) hk) (by decide +kernel) (ja_cons rfl (jp_d jd_str) (ja_cons rfl (jp_var 1 (by decide +kernel)) (ja_cons rfl (jp_d (jd_var 13 (by decide +kernel))) (ja_cons rfl (jp_d (jd_f (jf_bin opAdd (jp_var 13 (by decide +kernel)) (jp_var 15 (by decide +kernel))))) (ja_cons rfl (jp_var 2 (by decide +kernel)) ja_nil)))))))) (ja_cons rfl (jp_d (jd_f (jf_call (f_law_told x.at) (Nat.le_trans (by decide) hk) (by decide +kernel) (ja_cons rfl (jp_d jd_str) (ja_cons rfl (jp_var 1 (by decide +kernel)) (ja_cons rfl (jp_d (jd_var 13 (by decide +kernel))) (ja_cons rfl (jp_var 14 (by decide +kernel)) (ja_cons rfl (jp_var 2 (by decide +kernel)) ja_nil)))))))) (ja_cons rfl (jp_d (jd_f (jf_call (f_law_told x.at) (Nat.le_trans (by decide) hk) (by decide +kernel) (ja_cons rfl (jp_d jd_str) (ja_cons rfl (jp_var 1 (by decide +kernel)) (ja_cons rfl (jp_d (jd_var 13 (by decide +kernel))) (ja_cons rfl (jp_var 14 (by decide +kernel)) (ja_cons rfl (jp_d (jd_v (jv_not (jv_d (jd_var 2 (by decide +kernel)))))) ja_nil)))))))) ja_nil)))))
      (jss_cons (js_set 9 nd_law_other_right rfl (by decide +kernel) rfl (jf_lst (ja_cons rfl (jp_d (jd_f (jf_call (f_law_told x.at) (Nat.le_trans (by decide) hk) (by decide +kernel) (ja_cons rfl (jp_d jd_str) (ja_cons rfl (jp_var 6 (by decide +kernel)) (ja_cons rfl (jp_d (jd_var 13 (by decide +kernel))) (ja_cons rfl (jp_d (jd_f (jf_bin opAdd (jp_var 13 (by decide +kernel)) (jp_var 15 (by decide +kernel))))) (ja_cons rfl (jp_d (jd_v (jv_not (jv_d (jd_var 2 (by decide +kernel)))))) ja_nil)))))))) (ja_cons rfl (jp_d (jd_f (jf_call (f_law_told x.at) (Nat.le_trans (by decide) hk) (by decide +kernel) (ja_cons rfl (jp_d jd_str) (ja_cons rfl (jp_var 6 (by decide +kernel)) (ja_cons rfl (jp_d (jd_var 13 (by decide +kernel))) (ja_cons rfl (jp_var 14 (by decide +kernel)) (ja_cons rfl (jp_d (jd_v (jv_not (jv_d (jd_var 2 (by decide +kernel)))))) ja_nil)))))))) (ja_cons rfl (jp_d (jd_f (jf_call (f_law_told x.at) (Nat.le_trans (by decide) hk) (by decide +kernel) (ja_cons rfl (jp_d jd_str) (ja_cons rfl (jp_var 6 (by decide +kernel)) (ja_cons rfl (jp_d (jd_var 13 (by decide +kernel))) (ja_cons rfl (jp_var 14 (by decide +kernel)) (ja_cons rfl (jp_var 2 (by decide +kernel)) ja_nil)))))))) ja_nil)))))
      (jss_cons (js_if (jb_not (jb_d rfl (jd_f (jf_call (f_law_same x.at 4).at (Nat.le_trans (by decide) hk) (by decide +kernel) (ja_cons rfl (jp_var 9 (by decide +kernel)) (ja_cons rfl (jp_var 8 (by decide +kernel)) ja_nil))))))
        (jss_one (js_ret (jf_d jd_bl)))
        jss_nil)
      (jss_cons (js_set 10 nd_law_other_right rfl (by decide +kernel) rfl (jf_lst (ja_cons rfl (jp_d (jd_f (jf_call (f_law_told x.at) (Nat.le_trans (by decide) hk) (by decide +kernel) (ja_cons rfl (jp_d jd_str) (ja_cons rfl (jp_var 1 (by decide +kernel)) (ja_cons rfl (jp_d (jd_f (jf_bin opAdd (jp_var 13 (by decide +kernel)) (jp_var 4 (by decide +kernel))))) (ja_cons rfl (jp_d (jd_f (jf_bin opAdd (jp_d (jd_f (jf_bin opAdd (jp_var 13 (by decide +kernel)) (jp_var 4 (by decide +kernel))))) (jp_var 15 (by decide +kernel))))) (ja_cons rfl (jp_var 2 (by decide +kernel)) ja_nil)))))))) (ja_cons rfl (jp_d (jd_f (jf_call (f_law_told x.at) (Nat.le_trans (by decide) hk) (by decide +kernel) (ja_cons rfl (jp_d jd_str) (ja_cons rfl (jp_var 1 (by decide +kernel)) (ja_cons rfl (jp_d (jd_f (jf_bin opAdd (jp_var 13 (by decide +kernel)) (jp_var 4 (by decide +kernel))))) (ja_cons rfl (jp_var 14 (by decide +kernel)) (ja_cons rfl (jp_var 2 (by decide +kernel)) ja_nil)))))))) ja_nil))))
      (jss_cons (js_if (jb_not (jb_d rfl (jd_f (jf_call (f_law_same x.at 4).at (Nat.le_trans (by decide) hk) (by decide +kernel) (ja_cons rfl (jp_var 10 (by decide +kernel)) (ja_cons rfl (jp_d (jd_f (jf_lst (ja_cons rfl (jp_d (jd_f (jf_ix ixA (jp_var 8 (by decide +kernel)) (jp_d jd_int) rfl))) (ja_cons rfl (jp_d (jd_f (jf_bin opAdd (jp_d (jd_f (jf_ix ixA (jp_var 8 (by decide +kernel)) (jp_d jd_int) rfl))) (jp_var 4 (by decide +kernel))))) ja_nil))))) ja_nil))))))
        (jss_one (js_ret (jf_d jd_bl)))
        jss_nil)
      (jss_cons (js_if (jb_w (jb_andc (jb_cmp opIsNot (jp_d (jd_f (jf_ix ixA (jp_var 8 (by decide +kernel)) (jp_d jd_int) rfl))) (jp_d jd_non) rfl) (jb_and1 (jb_not (jb_d rfl (jd_f (jf_call (f_law_same x.at 4).at (Nat.le_trans (by decide) hk) (by decide +kernel) (ja_cons rfl (jp_d (jd_f (jf_call (f_law_told x.at) (Nat.le_trans (by decide) hk) (by decide +kernel) (ja_cons rfl (jp_d jd_str) (ja_cons rfl (jp_var 1 (by decide +kernel)) (ja_cons rfl (jp_d (jd_f (jf_bin opAdd (jp_var 13 (by decide +kernel)) (jp_var 4 (by decide +kernel))))) (ja_cons rfl (jp_var 14 (by decide +kernel)) (ja_cons rfl (jp_var 2 (by decide +kernel)) ja_nil)))))))) (ja_cons rfl (jp_d (jd_f (jf_bin opAdd (jp_d (jd_f (jf_ix ixA (jp_var 8 (by decide +kernel)) (jp_d jd_int) rfl))) (jp_var 4 (by decide +kernel))))) ja_nil)))))))))
        (jss_one (js_ret (jf_d jd_bl)))
        jss_nil)
      (jss_cons (js_set 11 nd_law_other_right rfl (by decide +kernel) rfl (jf_bin opMul (jp_var 3 (by decide +kernel)) (jp_d (jd_f (jf_bin opAdd (jp_d jd_int) (jp_d (jd_f (jf_bin opDiv (jp_d (jd_f (jf_callB clMax (by decide +kernel) x.b_max boot_max (ja_cons rfl (jp_d (jd_f (jf_ix ixA (jp_var 8 (by decide +kernel)) (jp_d jd_int) rfl))) (ja_cons rfl (jp_d (jd_f (jf_bin opAdd (jp_var 13 (by decide +kernel)) (jp_var 15 (by decide +kernel))))) ja_nil))))) (jp_var 3 (by decide +kernel))))))))))
      (jss_cons (js_set 12 nd_law_other_right rfl (by decide +kernel) rfl (jf_lst (ja_cons rfl (jp_d (jd_f (jf_call (f_law_told x.at) (Nat.le_trans (by decide) hk) (by decide +kernel) (ja_cons rfl (jp_d jd_str) (ja_cons rfl (jp_var 7 (by decide +kernel)) (ja_cons rfl (jp_d (jd_f (jf_bin opSub (jp_d (jd_f (jf_bin opSub (jp_var 11 (by decide +kernel)) (jp_var 13 (by decide +kernel))))) (jp_var 15 (by decide +kernel))))) (ja_cons rfl (jp_d (jd_f (jf_bin opSub (jp_var 11 (by decide +kernel)) (jp_var 13 (by decide +kernel))))) (ja_cons rfl (jp_d (jd_v (jv_not (jv_d (jd_var 2 (by decide +kernel)))))) ja_nil)))))))) (ja_cons rfl (jp_d (jd_f (jf_call (f_law_told x.at) (Nat.le_trans (by decide) hk) (by decide +kernel) (ja_cons rfl (jp_d jd_str) (ja_cons rfl (jp_var 7 (by decide +kernel)) (ja_cons rfl (jp_d (jd_f (jf_bin opSub (jp_var 11 (by decide +kernel)) (jp_var 13 (by decide +kernel))))) (ja_cons rfl (jp_var 14 (by decide +kernel)) (ja_cons rfl (jp_var 2 (by decide +kernel)) ja_nil)))))))) ja_nil))))
      (jss_cons (js_if (jb_not (jb_d rfl (jd_f (jf_call (f_law_same x.at 4).at (Nat.le_trans (by decide) hk) (by decide +kernel) (ja_cons rfl (jp_var 12 (by decide +kernel)) (ja_cons rfl (jp_d (jd_f (jf_lst (ja_cons rfl (jp_d (jd_f (jf_ix ixA (jp_var 8 (by decide +kernel)) (jp_d jd_int) rfl))) (ja_cons rfl (jp_d (jd_f (jf_bin opSub (jp_var 11 (by decide +kernel)) (jp_d (jd_f (jf_ix ixA (jp_var 8 (by decide +kernel)) (jp_d jd_int) rfl)))))) ja_nil))))) ja_nil))))))
        (jss_one (js_ret (jf_d jd_bl)))
        jss_nil)
      (jss_cons (js_if (jb_w (jb_andc (jb_cmp opIsNot (jp_d (jd_f (jf_ix ixA (jp_var 8 (by decide +kernel)) (jp_d jd_int) rfl))) (jp_d jd_non) rfl) (jb_and1 (jb_not (jb_d rfl (jd_f (jf_call (f_law_same x.at 4).at (Nat.le_trans (by decide) hk) (by decide +kernel) (ja_cons rfl (jp_d (jd_f (jf_call (f_law_told x.at) (Nat.le_trans (by decide) hk) (by decide +kernel) (ja_cons rfl (jp_d jd_str) (ja_cons rfl (jp_var 7 (by decide +kernel)) (ja_cons rfl (jp_d (jd_f (jf_bin opSub (jp_var 11 (by decide +kernel)) (jp_var 13 (by decide +kernel))))) (ja_cons rfl (jp_var 14 (by decide +kernel)) (ja_cons rfl (jp_d (jd_v (jv_not (jv_d (jd_var 2 (by decide +kernel)))))) ja_nil)))))))) (ja_cons rfl (jp_d (jd_f (jf_bin opSub (jp_var 11 (by decide +kernel)) (jp_d (jd_f (jf_ix ixA (jp_var 8 (by decide +kernel)) (jp_d jd_int) rfl)))))) ja_nil)))))))))
        (jss_one (js_ret (jf_d jd_bl)))
        jss_nil)
      (jss_one (js_set 2 nd_law_other_right rfl (by decide +kernel) rfl (jf_d (jd_v (jv_not (jv_d (jd_var 2 (by decide +kernel))))))))))))))))))))
    (jss_one (js_ret (jf_d jd_bl)))))))
theorem f_law_other_right {W : Wd} (x : Fx W) : FnI W 6 "_law_other_right" F_law_other_right := fnI_mk x.d_law_other_right sc_law_other_right rfl rfl (j_law_other_right x.at (Nat.le_refl _))
def lb_law_judged_right0 : XS :=
      (xSeq (xAsg (toO (ofB (bAnd (toB (frD (sUn (uIsi "tuple") (opV 4)))) (bAnd (toB (frD (sChain uLtI uLtI (opE (dC (.int 0))) (opE (frD (sCall uLen (aCons (opV 4) aNil)))) (opE (dC (.int 32)))))) (bAnd (toB (frD (sBin (uIn false) (opE (dC (.int 1))) (opV 4)))) (toB (frD (sBin uEq (opE (frD (sComp (iVar 4) [6] (gN 6) (bOr (toB (frD (sUn (uIsi "bool") (opV 6)))) (bOr (bNot (toB (frD (sUn (uIsi "int") (opV 6))))) (toB (frD (sBin (uIn true) (opV 6) (opE (frD (sCall uTup (aCons (opE (dC (.int 0))) (aCons (opE (dC (.int 1))) aNil)))))))))) (toO (dVar 6))))) (opE (frD (sCall uLst aNil))))))))))) (gN 5))
      (xSeq (xIf (bNot (toB (frD (callF (F_law_same 4) (aCons (opE (frD (sIf (toB (dVar 2)) (callF F_is_calendar (aReord [0] (aCons (opV 4) aNil))) (callF F_is_calendar (aCons (opV 4) aNil))))) (aCons (opV 5) aNil))))))
        (xRet (toO (dC (.bool false))))
        xNext)
      (xAsg (toO (ofB (bNot (toB (dVar 2))))) (gN 2))))
def b_law_judged_right : XS :=
    (xSeq (xAsg (sCall uLst (aCons (opE (dVar 1)) (aCons (opE (frD (sCall uListOf (aCons (opV 1) aNil)))) (aCons (opE (frD (sBin uMul (opV 1) (opE (dC (.int 31)))))) (aCons (opE (frD (sBin uMul (opE (frD (sCall uTup (aCons (opE (dC (.int 0))) aNil)))) (opE (frD (sCall uLen (aCons (opV 1) aNil))))))) (aCons (opE (frD (sCall uTup aNil))) (aCons (opE (dC .none)) (aCons (opE (dC (.int 7))) (aCons (opE (dC (.str ("1" : Str)))) (aCons (opE (frD (sCall uTup (aCons (opE (dC (.int 1))) (aCons (opE (dC (.int 2))) aNil))))) (aCons (opE (frD (sCall uTup (aCons (opE (dC (.bool true))) aNil)))) (aCons (opE (frD (sCall uTup (aCons (opE (dC (.int 1))) (aCons (opE (dC (.str ("0" : Str)))) aNil))))) (aCons (opE (frD (sCall uTup (aCons (opE (frD (sUn uNegI (opE (dC (.int 1)))))) (aCons (opE (dC (.int 1))) aNil))))) aNil))))))))))))) (gN 3))
    (xSeq (xFor (iSeq (frD (sBin uAdd (opV 3) (opE (frD (sCall uLst (aCons (opE (frD (sBin uAdd (opV 1) (opE (frD (sCall uTup (aCons (opE (dC .none)) aNil))))))) (aCons (opE (frD (sCall uTup (aCons (opE (dVar 1)) aNil)))) (aCons (opE (frD (sCall uTup (aCons (opE (frD (sCall uTup (aCons (opE (dC (.int 1))) aNil)))) aNil)))) (aCons (opE (frD (sDict1 1 1))) (aCons (opE (frD (sBin uAdd (opV 1) (opE (frD (sCall uTup (aCons (opE (dC (.int 2))) aNil))))))) (aCons (opE (frD (sCall uTup (aCons (opE (dC (.bool false))) (aCons (opE (dC (.int 1))) aNil))))) aNil)))))))))))) (gN 4) lb_law_judged_right0)
    (xRet (toO (dC (.bool true))))))
def F_law_judged_right : FS := mkFS [.br, .sh, .sh] 4 b_law_judged_right
@[simp] theorem ms_law_judged_right : F_law_judged_right.ms = [.br, .sh, .sh] := rfl
theorem j_law_judged_right {W : Wd} (x : Fx W) (hk : 4 ≤ W.k) : JSs W ⟨N_law_judged_right, defScope st_law_judged_right, true⟩ (defBody st_law_judged_right) b_law_judged_right :=
    (jss_cons (js_set 3 nd_law_judged_right rfl (by decide +kernel) rfl (jf_lst (ja_cons rfl (jp_d (jd_var 1 (by decide +kernel))) (ja_cons rfl (jp_d (jd_f (jf_callT clList (by decide +kernel) x.b_list boot_list (ja_cons rfl (jp_var 1 (by decide +kernel)) ja_nil)))) (ja_cons rfl (jp_d (jd_f (jf_bin opMul (jp_var 1 (by decide +kernel)) (jp_d jd_int)))) (ja_cons rfl (jp_d (jd_f (jf_bin opMul (jp_d (jd_f (jf_tup (ja_cons rfl (jp_d jd_int) ja_nil)))) (jp_d (jd_f (jf_callB clLen (by decide +kernel) x.b_len boot_len (ja_cons rfl (jp_var 1 (by decide +kernel)) ja_nil))))))) (ja_cons rfl (jp_d (jd_f (jf_tup ja_nil))) (ja_cons rfl (jp_d jd_non) (ja_cons rfl (jp_d jd_int) (ja_cons rfl (jp_d jd_str) (ja_cons rfl (jp_d (jd_f (jf_tup (ja_cons rfl (jp_d jd_int) (ja_cons rfl (jp_d jd_int) ja_nil))))) (ja_cons rfl (jp_d (jd_f (jf_tup (ja_cons rfl (jp_d jd_bl) ja_nil)))) (ja_cons rfl (jp_d (jd_f (jf_tup (ja_cons rfl (jp_d jd_int) (ja_cons rfl (jp_d jd_str) ja_nil))))) (ja_cons rfl (jp_d (jd_f (jf_tup (ja_cons rfl (jp_d (jd_f (jf_un unNeg (jp_d jd_int)))) (ja_cons rfl (jp_d jd_int) ja_nil))))) ja_nil))))))))))))))
    (jss_cons (js_for (ji_seq rfl (jd_f (jf_bin opAdd (jp_var 3 (by decide +kernel)) (jp_d (jd_f (jf_lst (ja_cons rfl (jp_d (jd_f (jf_bin opAdd (jp_var 1 (by decide +kernel)) (jp_d (jd_f (jf_tup (ja_cons rfl (jp_d jd_non) ja_nil))))))) (ja_cons rfl (jp_d (jd_f (jf_tup (ja_cons rfl (jp_d (jd_var 1 (by decide +kernel))) ja_nil)))) (ja_cons rfl (jp_d (jd_f (jf_tup (ja_cons rfl (jp_d (jd_f (jf_tup (ja_cons rfl (jp_d jd_int) ja_nil)))) ja_nil)))) (ja_cons rfl (jp_d (jd_f jf_dict1)) (ja_cons rfl (jp_d (jd_f (jf_bin opAdd (jp_var 1 (by decide +kernel)) (jp_d (jd_f (jf_tup (ja_cons rfl (jp_d jd_int) ja_nil))))))) (ja_cons rfl (jp_d (jd_f (jf_tup (ja_cons rfl (jp_d jd_bl) (ja_cons rfl (jp_d jd_int) ja_nil))))) ja_nil)))))))))))) (jg_n 4 nd_law_judged_right (by decide +kernel))
      (jss_cons (js_set 5 nd_law_judged_right rfl (by decide +kernel) rfl (jf_d (jd_v (jv_and (jv_d (jd_f (jf_isi (by decide +kernel) x.b_isinstance (by decide +kernel) x.b_tuple boot_tuple rfl (jp_var 4 (by decide +kernel))))) (jv_and (jv_d (jd_f (jf_chain opLt opLt (jp_d jd_int) (jp_d (jd_f (jf_callB clLen (by decide +kernel) x.b_len boot_len (ja_cons rfl (jp_var 4 (by decide +kernel)) ja_nil)))) (jp_d jd_int) rfl))) (jv_and (jv_d (jd_f (jf_cmp opIn (jp_d jd_int) (jp_var 4 (by decide +kernel)) rfl))) (jv_1 (jv_d (jd_f (jf_cmp opEq (jp_d (jd_f (jf_lc [(("day" : Str), 6)] nd_law_judged_right rfl (by decide +kernel) (ji_var 4 (by decide +kernel)) (jg_n 6 nd_law_judged_right (by decide +kernel)) (jbs_one (jb_w (jb_orc (jb_d rfl (jd_f (jf_isi (by decide +kernel) x.b_isinstance (by decide +kernel) x.b_bool boot_bool rfl (jp_var 6 (by decide +kernel))))) (jb_orc (jb_not (jb_d rfl (jd_f (jf_isi (by decide +kernel) x.b_isinstance (by decide +kernel) x.b_int boot_int rfl (jp_var 6 (by decide +kernel)))))) (jb_or1 (jb_cmp opNotIn (jp_var 6 (by decide +kernel)) (jp_d (jd_f (jf_tup (ja_cons rfl (jp_d jd_int) (ja_cons rfl (jp_d jd_int) ja_nil))))) rfl)))))) (jf_d (jd_var 6 (by decide +kernel))) rfl (by decide)))) (jp_d (jd_f (jf_lst ja_nil))) rfl))))))))))
      (jss_cons (js_if (jb_not (jb_d rfl (jd_f (jf_call (f_law_same x.at 4).at (Nat.le_trans (by decide) hk) (by decide +kernel) (ja_cons rfl (jp_d (jd_f (jf_if (jb_d rfl (jd_var 2 (by decide +kernel))) (jf_callK (fk_is_calendar0 x.at) (Nat.le_trans (by decide) hk) (by decide +kernel) (jk_cons (jp_var 4 (by decide +kernel)) jk_nil)) (jf_call (f_is_calendar x.at) (Nat.le_trans (by decide) hk) (by decide +kernel) (ja_cons rfl (jp_var 4 (by decide +kernel)) ja_nil))))) (ja_cons rfl (jp_var 5 (by decide +kernel)) ja_nil))))))
        (jss_one (js_ret (jf_d jd_bl)))
        jss_nil)
      (jss_one (js_set 2 nd_law_judged_right rfl (by decide +kernel) rfl (jf_d (jd_v (jv_not (jv_d (jd_var 2 (by decide +kernel)))))))))))
    (jss_one (js_ret (jf_d jd_bl)))))
theorem f_law_judged_right {W : Wd} (x : Fx W) : FnI W 5 "_law_judged_right" F_law_judged_right := fnI_mk x.d_law_judged_right sc_law_judged_right rfl rfl (j_law_judged_right x.at (Nat.le_refl _))
def lb_law0 : XS :=
      (xSeq (xIf (bOr (bNot (toB (frD (callF F_law_calendar_right (aCons (opV 5) (aCons (opE (dVar 3)) aNil)))))) (bOr (bNot (toB (frD (callF F_law_other_right (aCons (opV 2) (aCons (opV 5) (aCons (opE (ofB (bNot (toB (dVar 3))))) aNil))))))) (bNot (toB (frD (callF F_law_judged_right (aCons (opV 2) (aCons (opE (dVar 5)) (aCons (opE (dVar 3)) aNil)))))))))
          (xRet (toO (dC (.bool false))))
          xNext)
        (xAsg (toO (ofB (bNot (toB (dVar 3))))) (gN 3)))
def lb_law1 : XS :=
      (xSeq (xAsg (callF F_law_box (aCons (opE (frD (callF F_law_cell (aCons (opV 0) (aCons (opV 1) aNil))))) aNil)) (gN 2))
      (xSeq (xAsg (sBin uEq (opE (frD (callF F_law_take (aCons (opV 2) (aCons (opE (dC (.int 2))) aNil))))) (opE (dC (.int 0)))) (gN 3))
      (xSeq (xAsg (sComp (iRange (dC (.int 2))) [6] (gN 6) (fun ρ => some (true, ρ)) (callF F_law_calendar (aCons (opV 2) aNil))) (gN 4))
      (xFor (iSeq (frD (sBin uAdd (opV 4) (opE (frD (sSl uSl (opV 4) oNone (oSome (dC (.int 1))))))))) (gN 5) lb_law0))))
def b_law : XS :=
    (xSeq (xFor (iRange (frD (sCall uMax (aCons (opE (dC (.int 2))) (aCons (opE (frD (sCall uMin (aCons (opE (dC (.int 3))) (aCons (opE (frD (sCall uLen (aCons (opV 0) aNil)))) aNil))))) aNil))))) (gN 1) lb_law1)
    (xRet (toO (dC (.bool true)))))
def F_law : FS := mkFS [.br] 6 b_law
@[simp] theorem ms_law : F_law.ms = [.br] := rfl
theorem j_law {W : Wd} (x : Fx W) (hk : 6 ≤ W.k) : JSs W ⟨N_law, defScope st_law, true⟩ (defBody st_law) b_law :=
    (jss_cons (js_for (ji_range (by decide +kernel) x.b_range rfl (jd_f (jf_callB clMax (by decide +kernel) x.b_max boot_max (ja_cons rfl (jp_d jd_int) (ja_cons rfl (jp_d (jd_f (jf_callB clMin (by decide +kernel) x.b_min boot_min (ja_cons rfl (jp_d jd_int) (ja_cons rfl (jp_d (jd_f (jf_callB clLen (by decide +kernel) x.b_len boot_len (ja_cons rfl (jp_var 0 (by decide +kernel)) ja_nil)))) ja_nil))))) ja_nil))))) (jg_n 1 nd_law (by decide +kernel))
      (jss_cons (js_set 2 nd_law rfl (by decide +kernel) rfl (jf_call (f_law_box x.at) (Nat.le_trans (by decide) hk) (by decide +kernel) (ja_cons rfl (jp_d (jd_f (jf_call (f_law_cell x.at) (Nat.le_trans (by decide) hk) (by decide +kernel) (ja_cons rfl (jp_var 0 (by decide +kernel)) (ja_cons rfl (jp_var 1 (by decide +kernel)) ja_nil))))) ja_nil)))
      (jss_cons (js_set 3 nd_law rfl (by decide +kernel) rfl (jf_cmp opEq (jp_d (jd_f (jf_call (f_law_take x.at) (Nat.le_trans (by decide) hk) (by decide +kernel) (ja_cons rfl (jp_var 2 (by decide +kernel)) (ja_cons rfl (jp_d jd_int) ja_nil))))) (jp_d jd_int) rfl))
      (jss_cons (js_setLc 4 [(("turn" : Str), 6)] nd_law (by decide +kernel) (by decide +kernel) rfl (by decide +kernel) rfl (by decide +kernel) (ji_range (by decide +kernel) x.b_range rfl jd_int) (jg_n 6 nd_law (by decide +kernel)) jbs_nil (jf_call (f_law_calendar x.at) (Nat.le_trans (by decide) hk) (by decide +kernel) (ja_cons rfl (jp_var 2 (by decide +kernel)) ja_nil)) rfl (by decide))
      (jss_one (js_for (ji_seq rfl (jd_f (jf_bin opAdd (jp_var 4 (by decide +kernel)) (jp_d (jd_f (jf_sl slA (jp_var 4 (by decide +kernel)) jo_none (jo_some jd_int))))))) (jg_n 5 nd_law (by decide +kernel))
        (jss_cons (js_if (jb_w (jb_orc (jb_not (jb_d rfl (jd_f (jf_call (f_law_calendar_right x.at) (Nat.le_trans (by decide) hk) (by decide +kernel) (ja_cons rfl (jp_var 5 (by decide +kernel)) (ja_cons rfl (jp_d (jd_var 3 (by decide +kernel))) ja_nil)))))) (jb_orc (jb_not (jb_d rfl (jd_f (jf_call (f_law_other_right x.at) (Nat.le_trans (by decide) hk) (by decide +kernel) (ja_cons rfl (jp_var 2 (by decide +kernel)) (ja_cons rfl (jp_var 5 (by decide +kernel)) (ja_cons rfl (jp_d (jd_v (jv_not (jv_d (jd_var 3 (by decide +kernel)))))) ja_nil))))))) (jb_or1 (jb_not (jb_d rfl (jd_f (jf_call (f_law_judged_right x.at) (Nat.le_trans (by decide) hk) (by decide +kernel) (ja_cons rfl (jp_var 2 (by decide +kernel)) (ja_cons rfl (jp_d (jd_var 5 (by decide +kernel))) (ja_cons rfl (jp_d (jd_var 3 (by decide +kernel))) ja_nil)))))))))))
          (jss_one (js_ret (jf_d jd_bl)))
          jss_nil)
        (jss_one (js_set 3 nd_law rfl (by decide +kernel) rfl (jf_d (jd_v (jv_not (jv_d (jd_var 3 (by decide +kernel)))))))))))))))
    (jss_one (js_ret (jf_d jd_bl))))
theorem f_law {W : Wd} (x : Fx W) : FnI W 7 "law" F_law := fnI_mk x.d_law sc_law rfl rfl (j_law x.at (Nat.le_refl _))
/-! the top -/
def DefIn (K : PySem.W.Frag) (x : Str) (st : Stmt) : Prop := ∃ (f : Addr) (oc : Value) (od an : Option Addr) (sl : Array (Option Value)) (kV dc pm cd ct : Value), PySem.W.nsIn K mainGlobals x = some (some (.ref f)) ∧ K.lookup f = some ⟨oc, od, .func (PySem.W.fnOf x x (defArgs st) (defBody st) (defScope st) .none kV dc pm an cd ct), sl⟩ ∧ PySem.W.codeIn K cd x = true ∧ PySem.W.keepIn K (.ref f) = true
theorem defIn_mk {K : PySem.W.Frag} {x : Str} {st : Stmt} {f : Addr} {oc : Value} {od an : Option Addr} {sl : Array (Option Value)} {kV dc pm cd ct : Value} (a : PySem.W.nsIn K mainGlobals x = some (some (.ref f))) (l : K.lookup f = some ⟨oc, od, .func (PySem.W.fnOf x x (defArgs st) (defBody st) (defScope st) .none kV dc pm an cd ct), sl⟩) (c : PySem.W.codeIn K cd x = true) (k : PySem.W.keepIn K (.ref f) = true) : DefIn K x st := ⟨f, oc, od, an, sl, kV, dc, pm, cd, ct, a, l, c, k⟩
theorem dm_law_box {P : Program} {w : World} {K : PySem.W.Frag} {h base : Heap} {mg : Str → Option Value} {k : Nat} (X : K.In h) (G : h.Ns mainGlobals mg) (d_law_box : DefIn K "_law_box" st_law_box) : Df ⟨P, w, K, mg, base, k⟩ "_law_box" st_law_box p_law_box :=
  let ⟨_, _, _, _, _, _, _, _, _, _, a, l, c, k⟩ := d_law_box
  Df.mk' (fun_mk l c k) (PySem.W.mg_of X G a) fun _ _ _ _ _ _ us hl => match us, hl with | [_], _ => rfl
theorem dm_law_cell {P : Program} {w : World} {K : PySem.W.Frag} {h base : Heap} {mg : Str → Option Value} {k : Nat} (X : K.In h) (G : h.Ns mainGlobals mg) (d_law_cell : DefIn K "_law_cell" st_law_cell) : Df ⟨P, w, K, mg, base, k⟩ "_law_cell" st_law_cell p_law_cell :=
  let ⟨_, _, _, _, _, _, _, _, _, _, a, l, c, k⟩ := d_law_cell
  Df.mk' (fun_mk l c k) (PySem.W.mg_of X G a) fun _ _ _ _ _ _ us hl => match us, hl with | [_, _], _ => rfl
theorem dm_law_take {P : Program} {w : World} {K : PySem.W.Frag} {h base : Heap} {mg : Str → Option Value} {k : Nat} (X : K.In h) (G : h.Ns mainGlobals mg) (d_law_take : DefIn K "_law_take" st_law_take) : Df ⟨P, w, K, mg, base, k⟩ "_law_take" st_law_take p_law_take :=
  let ⟨_, _, _, _, _, _, _, _, _, _, a, l, c, k⟩ := d_law_take
  Df.mk' (fun_mk l c k) (PySem.W.mg_of X G a) fun _ _ _ _ _ _ us hl => match us, hl with | [_, _], _ => rfl
theorem dm_law_calendar {P : Program} {w : World} {K : PySem.W.Frag} {h base : Heap} {mg : Str → Option Value} {k : Nat} (X : K.In h) (G : h.Ns mainGlobals mg) (d_law_calendar : DefIn K "_law_calendar" st_law_calendar) : Df ⟨P, w, K, mg, base, k⟩ "_law_calendar" st_law_calendar p_law_calendar :=
  let ⟨_, _, _, _, _, _, _, _, _, _, a, l, c, k⟩ := d_law_calendar
  Df.mk' (fun_mk l c k) (PySem.W.mg_of X G a) fun _ _ _ _ _ _ us hl => match us, hl with | [_], _ => rfl
theorem dm_law_days {P : Program} {w : World} {K : PySem.W.Frag} {h base : Heap} {mg : Str → Option Value} {k : Nat} (X : K.In h) (G : h.Ns mainGlobals mg) (d_law_days : DefIn K "_law_days" st_law_days) : Df ⟨P, w, K, mg, base, k⟩ "_law_days" st_law_days p_law_days :=
  let ⟨_, _, _, _, _, _, _, _, _, _, a, l, c, k⟩ := d_law_days
  Df.mk' (fun_mk l c k) (PySem.W.mg_of X G a) fun _ _ _ _ _ _ us hl => match us, hl with | [_, _], _ => rfl
theorem dm_law_same {P : Program} {w : World} {K : PySem.W.Frag} {h base : Heap} {mg : Str → Option Value} {k : Nat} (X : K.In h) (G : h.Ns mainGlobals mg) (d_law_same : DefIn K "_law_same" st_law_same) : Df ⟨P, w, K, mg, base, k⟩ "_law_same" st_law_same p_law_same :=
  let ⟨_, _, _, _, _, _, _, _, _, _, a, l, c, k⟩ := d_law_same
  Df.mk' (fun_mk l c k) (PySem.W.mg_of X G a) fun _ _ _ _ _ _ us hl => match us, hl with | [_, _], _ => rfl
theorem dm_is_integer {P : Program} {w : World} {K : PySem.W.Frag} {h base : Heap} {mg : Str → Option Value} {k : Nat} (X : K.In h) (G : h.Ns mainGlobals mg) (d_is_integer : DefIn K "is_integer" st_is_integer) : Df ⟨P, w, K, mg, base, k⟩ "is_integer" st_is_integer p_is_integer :=
  let ⟨_, _, _, _, _, _, _, _, _, _, a, l, c, k⟩ := d_is_integer
  Df.mk' (fun_mk l c k) (PySem.W.mg_of X G a) fun _ _ _ _ _ _ us hl => match us, hl with | [_], _ => rfl
theorem dm_is_calendar {P : Program} {w : World} {K : PySem.W.Frag} {h base : Heap} {mg : Str → Option Value} {k : Nat} (X : K.In h) (G : h.Ns mainGlobals mg) (d_is_calendar : DefIn K "is_calendar" st_is_calendar) : Df ⟨P, w, K, mg, base, k⟩ "is_calendar" st_is_calendar p_is_calendar :=
  let ⟨_, _, _, _, _, _, _, _, _, _, a, l, c, k⟩ := d_is_calendar
  Df.mk' (fun_mk l c k) (PySem.W.mg_of X G a) fun _ _ _ _ _ _ us hl => match us, hl with | [_], _ => rfl
theorem km_is_calendar0 {P : Program} {w : World} {K : PySem.W.Frag} {h base : Heap} {mg : Str → Option Value} {k : Nat} (X : K.In h) (G : h.Ns mainGlobals mg) (d_is_calendar : DefIn K "is_calendar" st_is_calendar) : Dk ⟨P, w, K, mg, base, k⟩ "is_calendar" st_is_calendar p_is_calendar ["value"] [0] :=
  let ⟨_, _, _, _, _, _, _, _, _, _, a, l, c, k⟩ := d_is_calendar
  Dk.mk' (fun_mk l c k) (PySem.W.mg_of X G a) (fun _ _ _ _ _ _ us hl => match us, hl with | [_], _ => rfl) fun _ _ _ _ _ _ us hl => match us, hl with | [_], _ => rfl
theorem dm_check_calendar {P : Program} {w : World} {K : PySem.W.Frag} {h base : Heap} {mg : Str → Option Value} {k : Nat} (X : K.In h) (G : h.Ns mainGlobals mg) (d_check_calendar : DefIn K "check_calendar" st_check_calendar) : Df ⟨P, w, K, mg, base, k⟩ "check_calendar" st_check_calendar p_check_calendar :=
  let ⟨_, _, _, _, _, _, _, _, _, _, a, l, c, k⟩ := d_check_calendar
  Df.mk' (fun_mk l c k) (PySem.W.mg_of X G a) fun _ _ _ _ _ _ us hl => match us, hl with | [_], _ => rfl
theorem dm_days_until {P : Program} {w : World} {K : PySem.W.Frag} {h base : Heap} {mg : Str → Option Value} {k : Nat} (X : K.In h) (G : h.Ns mainGlobals mg) (d_days_until : DefIn K "days_until" st_days_until) : Df ⟨P, w, K, mg, base, k⟩ "days_until" st_days_until p_days_until :=
  let ⟨_, _, _, _, _, _, _, _, _, _, a, l, c, k⟩ := d_days_until
  Df.mk' (fun_mk l c k) (PySem.W.mg_of X G a) fun _ _ _ _ _ _ us hl => match us, hl with | [_, _], _ => rfl
theorem dm_time_of_day {P : Program} {w : World} {K : PySem.W.Frag} {h base : Heap} {mg : Str → Option Value} {k : Nat} (X : K.In h) (G : h.Ns mainGlobals mg) (d_time_of_day : DefIn K "time_of_day" st_time_of_day) : Df ⟨P, w, K, mg, base, k⟩ "time_of_day" st_time_of_day p_time_of_day :=
  let ⟨_, _, _, _, _, _, _, _, _, _, a, l, c, k⟩ := d_time_of_day
  Df.mk' (fun_mk l c k) (PySem.W.mg_of X G a) fun _ _ _ _ _ _ us hl => match us, hl with | [_, _], _ => rfl
theorem dm_begun_at {P : Program} {w : World} {K : PySem.W.Frag} {h base : Heap} {mg : Str → Option Value} {k : Nat} (X : K.In h) (G : h.Ns mainGlobals mg) (d_begun_at : DefIn K "begun_at" st_begun_at) : Df ⟨P, w, K, mg, base, k⟩ "begun_at" st_begun_at p_begun_at :=
  let ⟨_, _, _, _, _, _, _, _, _, _, a, l, c, k⟩ := d_begun_at
  Df.mk' (fun_mk l c k) (PySem.W.mg_of X G a) fun _ _ _ _ _ _ us hl => match us, hl with | [_, _, _], _ => rfl
theorem dm_is_count {P : Program} {w : World} {K : PySem.W.Frag} {h base : Heap} {mg : Str → Option Value} {k : Nat} (X : K.In h) (G : h.Ns mainGlobals mg) (d_is_count : DefIn K "is_count" st_is_count) : Df ⟨P, w, K, mg, base, k⟩ "is_count" st_is_count p_is_count :=
  let ⟨_, _, _, _, _, _, _, _, _, _, a, l, c, k⟩ := d_is_count
  Df.mk' (fun_mk l c k) (PySem.W.mg_of X G a) fun _ _ _ _ _ _ us hl => match us, hl with | [_], _ => rfl
theorem dm_begun {P : Program} {w : World} {K : PySem.W.Frag} {h base : Heap} {mg : Str → Option Value} {k : Nat} (X : K.In h) (G : h.Ns mainGlobals mg) (d_begun : DefIn K "begun" st_begun) : Df ⟨P, w, K, mg, base, k⟩ "begun" st_begun p_begun :=
  let ⟨_, _, _, _, _, _, _, _, _, _, a, l, c, k⟩ := d_begun
  Df.mk' (fun_mk l c k) (PySem.W.mg_of X G a) fun _ _ _ _ _ _ us hl => match us, hl with | [_, _, _], _ => rfl
theorem km_begun0 {P : Program} {w : World} {K : PySem.W.Frag} {h base : Heap} {mg : Str → Option Value} {k : Nat} (X : K.In h) (G : h.Ns mainGlobals mg) (d_begun : DefIn K "begun" st_begun) : Dk ⟨P, w, K, mg, base, k⟩ "begun" st_begun p_begun ["duration", "end", "calendar"] [2, 1, 0] :=
  let ⟨_, _, _, _, _, _, _, _, _, _, a, l, c, k⟩ := d_begun
  Dk.mk' (fun_mk l c k) (PySem.W.mg_of X G a) (fun _ _ _ _ _ _ us hl => match us, hl with | [_, _, _], _ => rfl) fun _ _ _ _ _ _ us hl => match us, hl with | [_, _, _], _ => rfl
theorem dm_worked {P : Program} {w : World} {K : PySem.W.Frag} {h base : Heap} {mg : Str → Option Value} {k : Nat} (X : K.In h) (G : h.Ns mainGlobals mg) (d_worked : DefIn K "worked" st_worked) : Df ⟨P, w, K, mg, base, k⟩ "worked" st_worked p_worked :=
  let ⟨_, _, _, _, _, _, _, _, _, _, a, l, c, k⟩ := d_worked
  Df.mk' (fun_mk l c k) (PySem.W.mg_of X G a) fun _ _ _ _ _ _ us hl => match us, hl with | [_, _, _], _ => rfl
theorem km_worked0 {P : Program} {w : World} {K : PySem.W.Frag} {h base : Heap} {mg : Str → Option Value} {k : Nat} (X : K.In h) (G : h.Ns mainGlobals mg) (d_worked : DefIn K "worked" st_worked) : Dk ⟨P, w, K, mg, base, k⟩ "worked" st_worked p_worked ["end", "start", "calendar"] [2, 1, 0] :=
  let ⟨_, _, _, _, _, _, _, _, _, _, a, l, c, k⟩ := d_worked
  Dk.mk' (fun_mk l c k) (PySem.W.mg_of X G a) (fun _ _ _ _ _ _ us hl => match us, hl with | [_, _, _], _ => rfl) fun _ _ _ _ _ _ us hl => match us, hl with | [_, _, _], _ => rfl
theorem dm_done_at {P : Program} {w : World} {K : PySem.W.Frag} {h base : Heap} {mg : Str → Option Value} {k : Nat} (X : K.In h) (G : h.Ns mainGlobals mg) (d_done_at : DefIn K "done_at" st_done_at) : Df ⟨P, w, K, mg, base, k⟩ "done_at" st_done_at p_done_at :=
  let ⟨_, _, _, _, _, _, _, _, _, _, a, l, c, k⟩ := d_done_at
  Df.mk' (fun_mk l c k) (PySem.W.mg_of X G a) fun _ _ _ _ _ _ us hl => match us, hl with | [_, _, _], _ => rfl
theorem dm_done {P : Program} {w : World} {K : PySem.W.Frag} {h base : Heap} {mg : Str → Option Value} {k : Nat} (X : K.In h) (G : h.Ns mainGlobals mg) (d_done : DefIn K "done" st_done) : Df ⟨P, w, K, mg, base, k⟩ "done" st_done p_done :=
  let ⟨_, _, _, _, _, _, _, _, _, _, a, l, c, k⟩ := d_done
  Df.mk' (fun_mk l c k) (PySem.W.mg_of X G a) fun _ _ _ _ _ _ us hl => match us, hl with | [_, _, _], _ => rfl
theorem km_done0 {P : Program} {w : World} {K : PySem.W.Frag} {h base : Heap} {mg : Str → Option Value} {k : Nat} (X : K.In h) (G : h.Ns mainGlobals mg) (d_done : DefIn K "done" st_done) : Dk ⟨P, w, K, mg, base, k⟩ "done" st_done p_done ["duration", "start", "calendar"] [2, 1, 0] :=
  let ⟨_, _, _, _, _, _, _, _, _, _, a, l, c, k⟩ := d_done
  Dk.mk' (fun_mk l c k) (PySem.W.mg_of X G a) (fun _ _ _ _ _ _ us hl => match us, hl with | [_, _, _], _ => rfl) fun _ _ _ _ _ _ us hl => match us, hl with | [_, _, _], _ => rfl
theorem dm_law_told {P : Program} {w : World} {K : PySem.W.Frag} {h base : Heap} {mg : Str → Option Value} {k : Nat} (X : K.In h) (G : h.Ns mainGlobals mg) (d_law_told : DefIn K "_law_told" st_law_told) : Df ⟨P, w, K, mg, base, k⟩ "_law_told" st_law_told p_law_told :=
  let ⟨_, _, _, _, _, _, _, _, _, _, a, l, c, k⟩ := d_law_told
  Df.mk' (fun_mk l c k) (PySem.W.mg_of X G a) fun _ _ _ _ _ _ us hl => match us, hl with | [_, _, _, _, _], _ => rfl
theorem dm_law_begun {P : Program} {w : World} {K : PySem.W.Frag} {h base : Heap} {mg : Str → Option Value} {k : Nat} (X : K.In h) (G : h.Ns mainGlobals mg) (d_law_begun : DefIn K "_law_begun" st_law_begun) : Df ⟨P, w, K, mg, base, k⟩ "_law_begun" st_law_begun p_law_begun :=
  let ⟨_, _, _, _, _, _, _, _, _, _, a, l, c, k⟩ := d_law_begun
  Df.mk' (fun_mk l c k) (PySem.W.mg_of X G a) fun _ _ _ _ _ _ us hl => match us, hl with | [_, _, _], _ => rfl
theorem dm_law_done {P : Program} {w : World} {K : PySem.W.Frag} {h base : Heap} {mg : Str → Option Value} {k : Nat} (X : K.In h) (G : h.Ns mainGlobals mg) (d_law_done : DefIn K "_law_done" st_law_done) : Df ⟨P, w, K, mg, base, k⟩ "_law_done" st_law_done p_law_done :=
  let ⟨_, _, _, _, _, _, _, _, _, _, a, l, c, k⟩ := d_law_done
  Df.mk' (fun_mk l c k) (PySem.W.mg_of X G a) fun _ _ _ _ _ _ us hl => match us, hl with | [_, _, _], _ => rfl
theorem dm_law_calendar_right {P : Program} {w : World} {K : PySem.W.Frag} {h base : Heap} {mg : Str → Option Value} {k : Nat} (X : K.In h) (G : h.Ns mainGlobals mg) (d_law_calendar_right : DefIn K "_law_calendar_right" st_law_calendar_right) : Df ⟨P, w, K, mg, base, k⟩ "_law_calendar_right" st_law_calendar_right p_law_calendar_right :=
  let ⟨_, _, _, _, _, _, _, _, _, _, a, l, c, k⟩ := d_law_calendar_right
  Df.mk' (fun_mk l c k) (PySem.W.mg_of X G a) fun _ _ _ _ _ _ us hl => match us, hl with | [_, _], _ => rfl
theorem dm_law_other_right {P : Program} {w : World} {K : PySem.W.Frag} {h base : Heap} {mg : Str → Option Value} {k : Nat} (X : K.In h) (G : h.Ns mainGlobals mg) (d_law_other_right : DefIn K "_law_other_right" st_law_other_right) : Df ⟨P, w, K, mg, base, k⟩ "_law_other_right" st_law_other_right p_law_other_right :=
  let ⟨_, _, _, _, _, _, _, _, _, _, a, l, c, k⟩ := d_law_other_right
  Df.mk' (fun_mk l c k) (PySem.W.mg_of X G a) fun _ _ _ _ _ _ us hl => match us, hl with | [_, _, _], _ => rfl
theorem dm_law_judged_right {P : Program} {w : World} {K : PySem.W.Frag} {h base : Heap} {mg : Str → Option Value} {k : Nat} (X : K.In h) (G : h.Ns mainGlobals mg) (d_law_judged_right : DefIn K "_law_judged_right" st_law_judged_right) : Df ⟨P, w, K, mg, base, k⟩ "_law_judged_right" st_law_judged_right p_law_judged_right :=
  let ⟨_, _, _, _, _, _, _, _, _, _, a, l, c, k⟩ := d_law_judged_right
  Df.mk' (fun_mk l c k) (PySem.W.mg_of X G a) fun _ _ _ _ _ _ us hl => match us, hl with | [_, _, _], _ => rfl
theorem dm_law {P : Program} {w : World} {K : PySem.W.Frag} {h base : Heap} {mg : Str → Option Value} {k : Nat} (X : K.In h) (G : h.Ns mainGlobals mg) (d_law : DefIn K "law" st_law) : Df ⟨P, w, K, mg, base, k⟩ "law" st_law p_law :=
  let ⟨_, _, _, _, _, _, _, _, _, _, a, l, c, k⟩ := d_law
  Df.mk' (fun_mk l c k) (PySem.W.mg_of X G a) fun _ _ _ _ _ _ us hl => match us, hl with | [_], _ => rfl
theorem fx_mk {P : Program} {w : World} {K : PySem.W.Frag} {h base : Heap} {mg : Str → Option Value} {k : Nat} (X : K.In h) (G : h.Ns mainGlobals mg) (b_abs : PySem.W.nsIn K mainGlobals "abs" = some none) (b_all : PySem.W.nsIn K mainGlobals "all" = some none) (b_bool : PySem.W.nsIn K mainGlobals "bool" = some none) (b_dict : PySem.W.nsIn K mainGlobals "dict" = some none) (b_enumerate : PySem.W.nsIn K mainGlobals "enumerate" = some none) (b_int : PySem.W.nsIn K mainGlobals "int" = some none) (b_isinstance : PySem.W.nsIn K mainGlobals "isinstance" = some none) (b_len : PySem.W.nsIn K mainGlobals "len" = some none) (b_list : PySem.W.nsIn K mainGlobals "list" = some none) (b_max : PySem.W.nsIn K mainGlobals "max" = some none) (b_min : PySem.W.nsIn K mainGlobals "min" = some none) (b_range : PySem.W.nsIn K mainGlobals "range" = some none) (b_str : PySem.W.nsIn K mainGlobals "str" = some none) (b_sum : PySem.W.nsIn K mainGlobals "sum" = some none) (b_tuple : PySem.W.nsIn K mainGlobals "tuple" = some none) (g_MOST_DAYS : ∃ t, PySem.W.nsIn K mainGlobals "MOST_DAYS" = some (some (.int 31 t))) (d_law_box : DefIn K "_law_box" st_law_box) (d_law_cell : DefIn K "_law_cell" st_law_cell) (d_law_take : DefIn K "_law_take" st_law_take) (d_law_calendar : DefIn K "_law_calendar" st_law_calendar) (d_law_days : DefIn K "_law_days" st_law_days) (d_law_same : DefIn K "_law_same" st_law_same) (d_is_integer : DefIn K "is_integer" st_is_integer) (d_is_calendar : DefIn K "is_calendar" st_is_calendar) (d_check_calendar : DefIn K "check_calendar" st_check_calendar) (d_days_until : DefIn K "days_until" st_days_until) (d_time_of_day : DefIn K "time_of_day" st_time_of_day) (d_begun_at : DefIn K "begun_at" st_begun_at) (d_is_count : DefIn K "is_count" st_is_count) (d_begun : DefIn K "begun" st_begun) (d_worked : DefIn K "worked" st_worked) (d_done_at : DefIn K "done_at" st_done_at) (d_done : DefIn K "done" st_done) (d_law_told : DefIn K "_law_told" st_law_told) (d_law_begun : DefIn K "_law_begun" st_law_begun) (d_law_done : DefIn K "_law_done" st_law_done) (d_law_calendar_right : DefIn K "_law_calendar_right" st_law_calendar_right) (d_law_other_right : DefIn K "_law_other_right" st_law_other_right) (d_law_judged_right : DefIn K "_law_judged_right" st_law_judged_right) (d_law : DefIn K "law" st_law) : Fx ⟨P, w, K, mg, base, k⟩ :=
  ⟨PySem.W.mg_none_of X G b_abs,
    PySem.W.mg_none_of X G b_all,
    PySem.W.mg_none_of X G b_bool,
    PySem.W.mg_none_of X G b_dict,
    PySem.W.mg_none_of X G b_enumerate,
    PySem.W.mg_none_of X G b_int,
    PySem.W.mg_none_of X G b_isinstance,
    PySem.W.mg_none_of X G b_len,
    PySem.W.mg_none_of X G b_list,
    PySem.W.mg_none_of X G b_max,
    PySem.W.mg_none_of X G b_min,
    PySem.W.mg_none_of X G b_range,
    PySem.W.mg_none_of X G b_str,
    PySem.W.mg_none_of X G b_sum,
    PySem.W.mg_none_of X G b_tuple,
    (let ⟨t, e⟩ := g_MOST_DAYS; ⟨t, PySem.W.mg_of X G e⟩),
    dm_law_box X G d_law_box,
    dm_law_cell X G d_law_cell,
    dm_law_take X G d_law_take,
    dm_law_calendar X G d_law_calendar,
    dm_law_days X G d_law_days,
    dm_law_same X G d_law_same,
    dm_is_integer X G d_is_integer,
    dm_is_calendar X G d_is_calendar,
    km_is_calendar0 X G d_is_calendar,
    dm_check_calendar X G d_check_calendar,
    dm_days_until X G d_days_until,
    dm_time_of_day X G d_time_of_day,
    dm_begun_at X G d_begun_at,
    dm_is_count X G d_is_count,
    dm_begun X G d_begun,
    km_begun0 X G d_begun,
    dm_worked X G d_worked,
    km_worked0 X G d_worked,
    dm_done_at X G d_done_at,
    dm_done X G d_done,
    km_done0 X G d_done,
    dm_law_told X G d_law_told,
    dm_law_begun X G d_law_begun,
    dm_law_done X G d_law_done,
    dm_law_calendar_right X G d_law_calendar_right,
    dm_law_other_right X G d_law_other_right,
    dm_law_judged_right X G d_law_judged_right,
    dm_law X G d_law⟩
theorem all_mk {P : Program} {w : World} {K : PySem.W.Frag} {h : Heap} {mg : Str → Option Value} {fa : Addr} (X : K.In h) (G : h.Ns mainGlobals mg) (hfa : mg "law" = some (.ref fa)) (b_abs : PySem.W.nsIn K mainGlobals "abs" = some none) (b_all : PySem.W.nsIn K mainGlobals "all" = some none) (b_bool : PySem.W.nsIn K mainGlobals "bool" = some none) (b_dict : PySem.W.nsIn K mainGlobals "dict" = some none) (b_enumerate : PySem.W.nsIn K mainGlobals "enumerate" = some none) (b_int : PySem.W.nsIn K mainGlobals "int" = some none) (b_isinstance : PySem.W.nsIn K mainGlobals "isinstance" = some none) (b_len : PySem.W.nsIn K mainGlobals "len" = some none) (b_list : PySem.W.nsIn K mainGlobals "list" = some none) (b_max : PySem.W.nsIn K mainGlobals "max" = some none) (b_min : PySem.W.nsIn K mainGlobals "min" = some none) (b_range : PySem.W.nsIn K mainGlobals "range" = some none) (b_str : PySem.W.nsIn K mainGlobals "str" = some none) (b_sum : PySem.W.nsIn K mainGlobals "sum" = some none) (b_tuple : PySem.W.nsIn K mainGlobals "tuple" = some none) (g_MOST_DAYS : ∃ t, PySem.W.nsIn K mainGlobals "MOST_DAYS" = some (some (.int 31 t))) (d_law_box : DefIn K "_law_box" st_law_box) (d_law_cell : DefIn K "_law_cell" st_law_cell) (d_law_take : DefIn K "_law_take" st_law_take) (d_law_calendar : DefIn K "_law_calendar" st_law_calendar) (d_law_days : DefIn K "_law_days" st_law_days) (d_law_same : DefIn K "_law_same" st_law_same) (d_is_integer : DefIn K "is_integer" st_is_integer) (d_is_calendar : DefIn K "is_calendar" st_is_calendar) (d_check_calendar : DefIn K "check_calendar" st_check_calendar) (d_days_until : DefIn K "days_until" st_days_until) (d_time_of_day : DefIn K "time_of_day" st_time_of_day) (d_begun_at : DefIn K "begun_at" st_begun_at) (d_is_count : DefIn K "is_count" st_is_count) (d_begun : DefIn K "begun" st_begun) (d_worked : DefIn K "worked" st_worked) (d_done_at : DefIn K "done_at" st_done_at) (d_done : DefIn K "done" st_done) (d_law_told : DefIn K "_law_told" st_law_told) (d_law_begun : DefIn K "_law_begun" st_law_begun) (d_law_done : DefIn K "_law_done" st_law_done) (d_law_calendar_right : DefIn K "_law_calendar_right" st_law_calendar_right) (d_law_other_right : DefIn K "_law_other_right" st_law_other_right) (d_law_judged_right : DefIn K "_law_judged_right" st_law_judged_right) (d_law : DefIn K "law" st_law) :
    ∃ fd : FuncData, (∀ (s : Shared) (v : Value), BindsTo s fd ⟨[v], []⟩ [("script", v)]) ∧ ∀ base : Heap, K.In base → base.Ns mainGlobals mg → FnOk P w K mg base CX0 7 fa fd ["script"] (spF K F_law) := by
  have d0 := d_law
  obtain ⟨f, oc, od, an, sl, kV, dc, pm, cd, ct, a, l, c, k⟩ := d0
  cases hfa.symm.trans (PySem.W.mg_of X G a)
  refine ⟨PySem.W.fnOf "law" "law" (defArgs st_law) (defBody st_law) (defScope st_law) .none kV dc pm an cd ct, fun s v => .of_eq rfl, fun base _ _ => ?_⟩
  exact fnOk_mk (W := ⟨P, w, K, mg, base, 0⟩) (fun_mk l c k) sc_law rfl rfl (j_law (fx_mk X G b_abs b_all b_bool b_dict b_enumerate b_int b_isinstance b_len b_list b_max b_min b_range b_str b_sum b_tuple g_MOST_DAYS d_law_box d_law_cell d_law_take d_law_calendar d_law_days d_law_same d_is_integer d_is_calendar d_check_calendar d_days_until d_time_of_day d_begun_at d_is_count d_begun d_worked d_done_at d_done d_law_told d_law_begun d_law_done d_law_calendar_right d_law_other_right d_law_judged_right d_law) (Nat.le_refl _))
end L67

namespace L67
/-- worked days among the first t -/
def du (c : List Int) (t : Int) : Int := t / c.length * c.sum + (c.take (t % c.length).toNat).sum
def dayAt (c : List Int) (t : Int) : Int := c.getD (t % c.length).toNat 0
structure Cal (c : List Int) : Prop where
  bits : ∀ x ∈ c, x = 0 ∨ x = 1
  one : (1 : Int) ∈ c
theorem Cal.pos {c : List Int} (h : Cal c) : 0 < (c.length : Int) := by
  have := List.length_pos_of_mem h.one
  omega
theorem sum_take_succ : ∀ (c : List Int) (i : Nat), i < c.length → (c.take (i + 1)).sum = (c.take i).sum + c.getD i 0
  | [], i, h => by simp at h
  | x :: c, 0, h => by simp
  | x :: c, i + 1, h => by
    have := sum_take_succ c i (by simpa using h)
    simp only [List.take_succ_cons, List.sum_cons, List.getD_cons_succ]
    omega
theorem dm {n : Int} (h : 0 < n) (q r : Int) (h0 : 0 ≤ r) (h1 : r < n) : (r + n * q) / n = q ∧ (r + n * q) % n = r :=
  (Int.ediv_emod_unique h).mpr ⟨rfl, h0, h1⟩
theorem du_succ {c : List Int} (hn : 0 < (c.length : Int)) (t : Int) : du c (t + 1) = du c t + dayAt c t := by
  have h0 := Int.emod_nonneg t (show (c.length : Int) ≠ 0 by omega)
  have h1 := Int.emod_lt_of_pos t hn
  have h2 := Int.emod_add_mul_ediv t c.length
  generalize hq : t / (c.length : Int) = q at h2
  generalize hr : t % (c.length : Int) = r at h0 h1 h2
  unfold du dayAt
  rw [hq, hr]
  by_cases h : r + 1 < c.length
  · have e := dm hn q (r + 1) (by omega) h
    have e3 : r + 1 + (c.length : Int) * q = t + 1 := by omega
    rw [e3] at e
    rw [e.1, e.2]
    have e2 : (r + 1).toNat = r.toNat + 1 := by omega
    rw [e2, sum_take_succ c r.toNat (by omega)]
    omega
  · have e := dm hn (q + 1) 0 (by omega) hn
    have e4 : (c.length : Int) * (q + 1) = (c.length : Int) * q + c.length := by rw [Int.mul_add, Int.mul_one]
    have e3 : 0 + (c.length : Int) * (q + 1) = t + 1 := by omega
    rw [e3] at e
    rw [e.1, e.2]
    have := sum_take_succ c r.toNat (by omega)
    have e2 : r.toNat + 1 = c.length := by omega
    rw [e2, List.take_length] at this
    have e5 : (q + 1) * c.sum = q * c.sum + c.sum := by rw [Int.add_mul, Int.one_mul]
    simp only [Int.toNat_zero, List.take_zero, List.sum_nil]
    omega
theorem du_zero (c : List Int) : du c 0 = 0 := by simp [du]
theorem dayAt_bits {c : List Int} (h : Cal c) (t : Int) : dayAt c t = 0 ∨ dayAt c t = 1 := by
  unfold dayAt
  rw [List.getD_eq_getElem?_getD]
  cases e : c[(t % (c.length : Int)).toNat]? with
  | none => exact .inl rfl
  | some x => exact h.bits x (List.mem_of_getElem? e)
theorem du_le_succ {c : List Int} (h : Cal c) (t : Int) : du c t ≤ du c (t + 1) ∧ du c (t + 1) ≤ du c t + 1 := by
  have := du_succ h.pos t
  have := dayAt_bits h t
  omega
theorem du_mono {c : List Int} (h : Cal c) (s : Int) (k : Nat) : du c s ≤ du c (s + k) := by
  induction k with
  | zero => simp
  | succ k ih =>
    have := (du_le_succ h (s + k)).1
    have e : s + ((k + 1 : Nat) : Int) = s + k + 1 := by omega
    rw [e]
    omega
theorem du_mono' {c : List Int} (h : Cal c) {s t : Int} (hs : s ≤ t) : du c s ≤ du c t := by
  have := du_mono h s (t - s).toNat
  have e : s + ((t - s).toNat : Int) = t := by omega
  rw [e] at this
  exact this
theorem du_shift {c : List Int} (hn : 0 < (c.length : Int)) (t q : Int) : du c (t + c.length * q) = du c t + q * c.sum := by
  unfold du
  rw [Int.add_mul_ediv_left _ _ (by omega), Int.add_mul_emod_self_left, Int.add_mul]
  omega
def ones : Nat → List Int → List Int
  | _, [] => []
  | k, x :: c => if x = 1 then (k : Int) :: ones (k + 1) c else ones (k + 1) c
theorem ones_len : ∀ (c : List Int) (k : Nat), (∀ x ∈ c, x = 0 ∨ x = 1) → ((ones k c).length : Int) = c.sum
  | [], k, h => rfl
  | x :: c, k, h => by
    have ih := ones_len c (k + 1) fun y hy => h y (List.mem_cons_of_mem _ hy)
    rcases h x List.mem_cons_self with rfl | rfl
    · simp only [ones, List.sum_cons]
      rw [if_neg (by decide)]
      omega
    · simp only [ones, List.sum_cons, if_true, List.length_cons]
      omega
theorem ones_spec : ∀ (c : List Int) (k j : Nat) (p : Int), (∀ x ∈ c, x = 0 ∨ x = 1) → (ones k c)[j]? = some p → ∃ i : Nat, p = k + i ∧ i < c.length ∧ c.getD i 0 = 1 ∧ (c.take i).sum = j
  | [], k, j, p, h, e => by simp [ones] at e
  | x :: c, k, j, p, h, e => by
    have hc : ∀ y ∈ c, y = 0 ∨ y = 1 := fun y hy => h y (List.mem_cons_of_mem _ hy)
    rcases h x List.mem_cons_self with rfl | rfl
    · simp only [ones] at e
      rw [if_neg (by decide)] at e
      obtain ⟨i, h1, h2, h3, h4⟩ := ones_spec c (k + 1) j p hc e
      exact ⟨i + 1, by omega, by simpa using h2, by simpa using h3, by simpa using h4⟩
    · simp only [ones, if_true] at e
      cases j with
      | zero =>
        simp only [List.getElem?_cons_zero, Option.some.injEq] at e
        exact ⟨0, by omega, by simp, by simp, by simp⟩
      | succ j =>
        rw [List.getElem?_cons_succ] at e
        obtain ⟨i, h1, h2, h3, h4⟩ := ones_spec c (k + 1) j p hc e
        refine ⟨i + 1, by omega, by simpa using h2, by simpa using h3, ?_⟩
        simp only [List.take_succ_cons, List.sum_cons]
        omega
theorem Cal.sum_pos {c : List Int} (h : Cal c) : 0 < c.sum := by
  have h1 := du_mono' h (s := 0) (t := c.length) (by omega)
  rw [du_zero] at h1
  obtain ⟨c1, c2, e⟩ := List.append_of_mem h.one
  rw [e, List.sum_append, List.sum_cons]
  have hs : ∀ l : List Int, (∀ x ∈ l, x = 0 ∨ x = 1) → 0 ≤ l.sum := by
    intro l
    induction l with
    | nil => intro _; simp
    | cons x l ih =>
      intro hl
      have := ih fun y hy => hl y (List.mem_cons_of_mem _ hy)
      have := hl x List.mem_cons_self
      rw [List.sum_cons]
      omega
  have a1 := hs c1 fun x hx => h.bits x (by rw [e]; simp [hx])
  have a2 := hs c2 fun x hx => h.bits x (by rw [e]; simp [hx])
  omega
/-- the day at which the k-th work falls -/
def tod (c : List Int) (k : Int) : Int := k / (ones 0 c).length * c.length + (ones 0 c).getD (k % (ones 0 c).length).toNat 0
theorem tod_ok {c : List Int} (h : Cal c) (k : Int) : (∃ p, (ones 0 c)[(k % (ones 0 c).length).toNat]? = some p) ∧ du c (tod c k) = k ∧ du c (tod c k + 1) = k + 1 := by
  have hl := ones_len c 0 h.bits
  have hp := h.sum_pos
  have h0 := Int.emod_nonneg k (show ((ones 0 c).length : Int) ≠ 0 by omega)
  have h1 := Int.emod_lt_of_pos k (show 0 < ((ones 0 c).length : Int) by omega)
  have hlt : (k % ((ones 0 c).length : Int)).toNat < (ones 0 c).length := by omega
  have e := List.getElem?_eq_getElem hlt
  obtain ⟨i, e1, e2, e3, e4⟩ := ones_spec c 0 _ _ h.bits e
  have et : tod c k = i + c.length * (k / (ones 0 c).length) := by
    unfold tod
    rw [List.getD_eq_getElem?_getD, e]
    simp only [Option.getD_some]
    rw [e1, Int.mul_comm]
    omega
  have n0 := h.pos
  have dd := dm n0 (k / (ones 0 c).length) i (by omega) (by omega)
  have hk := Int.emod_add_mul_ediv k (ones 0 c).length
  have e5 : du c (tod c k) = k := by
    rw [et]
    unfold du
    rw [dd.1, dd.2]
    have : ((i : Int)).toNat = i := by omega
    rw [this, e4, ← hl, Int.mul_comm]
    omega
  have e6 : dayAt c (tod c k) = 1 := by
    rw [et]
    unfold dayAt
    rw [dd.2]
    have : ((i : Int)).toNat = i := by omega
    rw [this, e3]
  refine ⟨⟨_, e⟩, e5, ?_⟩
  rw [du_succ n0, e5, e6]
theorem tod_nonneg {c : List Int} (h : Cal c) {k : Int} (hk : 0 ≤ k) : 0 ≤ tod c k := by
  have := (tod_ok h k).2.2
  refine Int.not_lt.mp fun z => ?_
  have := du_mono' h (s := tod c k + 1) (t := 0) (by omega)
  rw [du_zero] at this
  omega
/-- the first end at which d days are done; the last start that d days need -/
def IsDone (f : Int → Int) (s d e : Int) : Prop := s ≤ e ∧ d ≤ f e - f s ∧ ∀ e', s ≤ e' → e' < e → ¬ d ≤ f e' - f s
def IsBegun (f : Int → Int) (e d : Int) : Option Int → Prop
  | some s => 0 ≤ s ∧ s ≤ e ∧ d ≤ f e - f s ∧ ∀ s', s < s' → s' ≤ e → ¬ d ≤ f e - f s'
  | none => ∀ s', 0 ≤ s' → s' ≤ e → ¬ d ≤ f e - f s'
theorem IsDone.uniq {f : Int → Int} {s d a b : Int} (h : IsDone f s d a) (h' : IsDone f s d b) : a = b := by
  rcases Int.lt_trichotomy a b with z | z | z
  · exact absurd h.2.1 (h'.2.2 a h.1 z)
  · exact z
  · exact absurd h'.2.1 (h.2.2 b h'.1 z)
theorem IsBegun.uniq {f : Int → Int} {e d : Int} {a b : Option Int} (h : IsBegun f e d a) (h' : IsBegun f e d b) : a = b := by
  cases a with
  | none =>
    cases b with
    | none => rfl
    | some b => exact absurd h'.2.2.1 (h b h'.1 h'.2.1)
  | some a =>
    cases b with
    | none => exact absurd h.2.2.1 (h' a h.1 h.2.1)
    | some b =>
      rcases Int.lt_trichotomy a b with z | z | z
      · exact absurd h'.2.2.1 (h.2.2.2 b z h'.2.1)
      · rw [z]
      · exact absurd h.2.2.1 (h'.2.2.2 a z h.2.1)
def doneAt (c : List Int) (s d : Int) : Int := if d = 0 then s else 1 + tod c (du c s + d - 1)
def begunAt (c : List Int) (e d : Int) : Option Int := if d = 0 then some e else if du c e - d < 0 then none else some (tod c (du c e - d))
theorem doneAt_ok {c : List Int} (h : Cal c) {s d : Int} (hd : 0 ≤ d) : IsDone (du c) s d (doneAt c s d) := by
  unfold doneAt
  by_cases z : d = 0
  · rw [if_pos z]
    refine ⟨Int.le_refl _, by omega, fun e' h1 h2 => by omega⟩
  · rw [if_neg z]
    obtain ⟨_, t1, t2⟩ := tod_ok h (du c s + d - 1)
    have e : 1 + tod c (du c s + d - 1) = tod c (du c s + d - 1) + 1 := by omega
    rw [e]
    refine ⟨Int.not_lt.mp fun w => ?_, by omega, fun e' h1 h2 => ?_⟩
    · have := du_mono' h (s := tod c (du c s + d - 1) + 1) (t := s) (by omega)
      omega
    · have := du_mono' h (s := e') (t := tod c (du c s + d - 1)) (by omega)
      omega
theorem begunAt_ok {c : List Int} (h : Cal c) {e d : Int} (he : 0 ≤ e) (hd : 0 ≤ d) : IsBegun (du c) e d (begunAt c e d) := by
  unfold begunAt
  by_cases z : d = 0
  · rw [if_pos z]
    exact ⟨he, Int.le_refl _, by omega, fun s' h1 h2 => by omega⟩
  · rw [if_neg z]
    by_cases n : du c e - d < 0
    · rw [if_pos n]
      intro s' h1 h2
      have := du_mono' h h1
      rw [du_zero] at this
      omega
    · rw [if_neg n]
      obtain ⟨_, t1, t2⟩ := tod_ok h (du c e - d)
      refine ⟨tod_nonneg h (by omega), Int.not_lt.mp fun w => ?_, by omega, fun s' h1 h2 => ?_⟩
      · have := du_mono' h (s := e) (t := tod c (du c e - d)) (by omega)
        omega
      · have := du_mono' h (s := tod c (du c e - d) + 1) (t := s') (by omega)
        omega
/-! twice, turned, later -/
theorem Cal.twice {c : List Int} (h : Cal c) : Cal (c ++ c) := ⟨fun x hx => h.bits x (by simpa using hx), by simp [h.one]⟩
theorem Cal.rev {c : List Int} (h : Cal c) : Cal c.reverse := ⟨fun x hx => h.bits x (by simpa using hx), by simp [h.one]⟩
theorem ext_du {c c' : List Int} (h : Cal c) (h' : Cal c') (g : Int → Int) (k0 : Int) (e0 : du c' 0 = du c 0) (e : ∀ t, 0 ≤ t → dayAt c' t = dayAt c t) (t : Int) (ht : 0 ≤ t) : du c' t = du c t := by
  obtain ⟨n, rfl⟩ := Int.eq_ofNat_of_zero_le ht
  induction n with
  | zero => exact e0
  | succ n ih =>
    have e1 : ((n + 1 : Nat) : Int) = (n : Int) + 1 := by omega
    rw [e1, du_succ h.pos, du_succ h'.pos, ih (by omega), e _ (by omega)]
theorem du_twice {c : List Int} (h : Cal c) (t : Int) (ht : 0 ≤ t) : du (c ++ c) t = du c t := by
  refine ext_du h h.twice (fun x => x) 0 (by rw [du_zero, du_zero]) (fun t ht => ?_) t ht
  have n0 := h.pos
  have n2 := h.twice.pos
  have h0 := Int.emod_nonneg t (show ((c ++ c).length : Int) ≠ 0 by omega)
  have h1 := Int.emod_lt_of_pos t n2
  have hl : ((c ++ c).length : Int) = c.length * 2 := by rw [List.length_append]; omega
  unfold dayAt
  have e : t % (c.length : Int) = (t % ((c ++ c).length : Int)) % c.length := by
    rw [hl]
    exact (Int.emod_emod_of_dvd t ⟨2, rfl⟩).symm
  rw [e]
  generalize t % ((c ++ c).length : Int) = r at h0 h1
  by_cases z : r < c.length
  · rw [Int.emod_eq_of_lt h0 z, List.getD_eq_getElem?_getD, List.getD_eq_getElem?_getD, List.getElem?_append_left (by omega)]
  · have e2 : r % (c.length : Int) = r - c.length := by
      rw [← Int.sub_emod_right, Int.emod_eq_of_lt (by omega) (by omega)]
    rw [e2, List.getD_eq_getElem?_getD, List.getD_eq_getElem?_getD, List.getElem?_append_right (by omega)]
    congr 2
    omega
theorem dayAt_rev {c : List Int} (h : Cal c) (q t : Int) : dayAt c.reverse (c.length * q - 1 - t) = dayAt c t := by
  have n0 := h.pos
  have h0 := Int.emod_nonneg t (show (c.length : Int) ≠ 0 by omega)
  have h1 := Int.emod_lt_of_pos t n0
  have h2 := Int.emod_add_mul_ediv t c.length
  have e := dm n0 (q - 1 - t / c.length) (c.length - 1 - t % c.length) (by omega) (by omega)
  have e2 : (c.length : Int) - 1 - t % c.length + c.length * (q - 1 - t / c.length) = c.length * q - 1 - t := by
    rw [Int.mul_sub, Int.mul_sub, Int.mul_one]
    omega
  rw [e2] at e
  unfold dayAt
  rw [List.length_reverse, e.2, List.getD_eq_getElem?_getD, List.getD_eq_getElem?_getD, List.getElem?_reverse (by omega)]
  congr 2
  omega
theorem du_rev {c : List Int} (h : Cal c) (q a : Int) (k : Nat) : du c.reverse (c.length * q - a) - du c.reverse (c.length * q - (a + k)) = du c (a + k) - du c a := by
  induction k with
  | zero => simp
  | succ k ih =>
    have e1 : a + ((k + 1 : Nat) : Int) = a + k + 1 := by omega
    have s1 := du_succ h.pos (a + k)
    have s2 := du_succ h.rev.pos (c.length * q - 1 - (a + k))
    rw [dayAt_rev h] at s2
    have e2 : (c.length : Int) * q - 1 - (a + k) + 1 = c.length * q - (a + k) := by omega
    have e3 : (c.length : Int) * q - 1 - (a + k) = c.length * q - (a + k + 1) := by omega
    rw [e2, e3] at s2
    rw [e1]
    omega
theorem du_rev' {c : List Int} (h : Cal c) (q : Int) {a b : Int} (hab : a ≤ b) : du c.reverse (c.length * q - a) - du c.reverse (c.length * q - b) = du c b - du c a := by
  have := du_rev h q a (b - a).toNat
  have e : a + ((b - a).toNat : Int) = b := by omega
  rw [e] at this
  exact this
theorem done_rev {c : List Int} (h : Cal c) {q s d e : Int} (hd : IsDone (du c) s d e) (he : e ≤ c.length * q) : IsBegun (du c.reverse) (c.length * q - s) d (some (c.length * q - e)) := by
  obtain ⟨h1, h2, h3⟩ := hd
  refine ⟨by omega, by omega, ?_, fun s' g1 g2 => ?_⟩
  · rw [du_rev' h q h1]; exact h2
  · have e1 : s' = c.length * q - (c.length * q - s') := by omega
    rw [e1, du_rev' h q (by omega)]
    exact h3 _ (by omega) (by omega)
theorem begun_rev {c : List Int} (h : Cal c) {q s d e : Int} (hb : IsBegun (du c) e d (some s)) (he : e ≤ c.length * q) : IsDone (du c.reverse) (c.length * q - e) d (c.length * q - s) := by
  obtain ⟨h0, h1, h2, h3⟩ := hb
  refine ⟨by omega, ?_, fun s' g1 g2 => ?_⟩
  · rw [du_rev' h q h1]; exact h2
  · have e1 : s' = c.length * q - (c.length * q - s') := by omega
    rw [e1, du_rev' h q (by omega)]
    exact h3 _ (by omega) (by omega)
theorem done_shift {c : List Int} (h : Cal c) {q s d e : Int} (hd : IsDone (du c) s d e) : IsDone (du c) (s + c.length * q) d (e + c.length * q) := by
  obtain ⟨h1, h2, h3⟩ := hd
  refine ⟨by omega, by rw [du_shift h.pos, du_shift h.pos]; omega, fun e' g1 g2 => ?_⟩
  have e1 : e' = (e' - c.length * q) + c.length * q := by omega
  rw [e1, du_shift h.pos, du_shift h.pos]
  have := h3 (e' - c.length * q) (by omega) (by omega)
  omega
theorem begun_shift {c : List Int} (h : Cal c) {q s d e : Int} (hq : 0 ≤ c.length * q) (hb : IsBegun (du c) e d (some s)) : IsBegun (du c) (e + c.length * q) d (some (s + c.length * q)) := by
  obtain ⟨h0, h1, h2, h3⟩ := hb
  refine ⟨by omega, by omega, by rw [du_shift h.pos, du_shift h.pos]; omega, fun e' g1 g2 => ?_⟩
  have e1 : e' = (e' - c.length * q) + c.length * q := by omega
  rw [e1, du_shift h.pos, du_shift h.pos]
  have := h3 (e' - c.length * q) (by omega) (by omega)
  omega
end L67

namespace L67
open PySem PySem.Spec PyProof.Rows L2 PL
abbrev dI (i : Int) : O := .sh (.int i)
abbrev dB (b : Bool) : O := .sh (.bool b)
abbrev cal (c : List Int) : O := .sh (.tuple (c.map .int))
/-- far from what the model counts -/
def Sm (i : Int) : Prop := i.natAbs < 2 ^ 2000
theorem Sm.big {i : Int} (h : Sm i) : bigOk i = true := decide_eq_true (Nat.lt_of_lt_of_le h (Nat.pow_le_pow_right (by decide) (by decide)))
theorem Sm.mul {i j : Int} (h : Sm i) (h' : Sm j) : mulOk i j = true := by unfold mulOk; rw [h.big, h'.big]; rfl
theorem sm_of {i : Int} (h : i.natAbs ≤ 1000000000000) : Sm i := Nat.lt_of_le_of_lt h (Nat.lt_of_lt_of_le (by decide : 1000000000000 < 2 ^ 100) (Nat.pow_le_pow_right (by decide) (by decide)))
theorem divOk_of {i j : Int} (h : 0 < j) (h' : j ≤ 100000000000) : divOk i j = true := by
  unfold divOk
  rw [decide_eq_true h, decide_eq_true (show j.natAbs < 2 ^ 8000 from Nat.lt_of_le_of_lt (show _ ≤ 100000000000 by omega) (Nat.lt_of_lt_of_le (by decide : 100000000000 < 2 ^ 100) (Nat.pow_le_pow_right (by decide) (by decide))))]
  rfl
theorem modOk_of {i j : Int} (h : 0 < j) : modOk i j = true := decide_eq_true h
def isI : D → Bool
  | .int _ => true
  | _ => false
theorem v_is_integer (d : D) : F_is_integer.f [.sh d] = some (dB (isI d), [.sh d]) := by
  cases d <;> simp [F_is_integer, b_is_integer, tyO, tyD, instOf, clsOk, isI]
theorem v_is_count (i : Int) : F_is_count.f [dI i] = some (dB (decide (0 ≤ i)), [dI i]) := by
  simp [F_is_count, b_is_count, v_is_integer, isI]
theorem cut_take (c : List D) (k : Nat) (h : k ≤ c.length) : PL.cutD c none (some (k : Int)) = c.take k := by
  unfold PL.cutD
  have e1 : HT.sIx c.length 0 none = 0 := HT.sIx_none ..
  have e2 : HT.sIx c.length c.length (some (k : Int)) = min k c.length := HT.sIx_nat ..
  rw [e1, e2]
  simp [Nat.min_eq_left h]
theorem sum_bits : ∀ {c : List Int}, (∀ x ∈ c, x = 0 ∨ x = 1) → 0 ≤ c.sum ∧ c.sum ≤ c.length
  | [], _ => by simp
  | x :: c, h => by
    have := sum_bits fun y hy => h y (List.mem_cons_of_mem _ hy)
    have := h x List.mem_cons_self
    simp only [List.sum_cons, List.length_cons]
    omega
theorem ediv_abs {t n : Int} (h : 0 < n) : (t / n).natAbs ≤ t.natAbs := by
  have h1 := Int.emod_add_mul_ediv t n
  have h2 := Int.emod_nonneg t (show n ≠ 0 by omega)
  have h3 := Int.emod_lt_of_pos t h
  rcases Int.le_total 0 (t / n) with z | z
  · have : t / n ≤ n * (t / n) := by
      have := Int.mul_le_mul_of_nonneg_right (show 1 ≤ n by omega) z
      omega
    omega
  · have : n * (t / n) ≤ t / n := by
      have := Int.mul_le_mul_of_nonpos_right (show 1 ≤ n by omega) z
      omega
    rcases Int.lt_or_eq_of_le z with w | w
    · -- below zero: the quotient rounds down
      have e : n * (t / n) = n * (t / n + 1) - n := by rw [Int.mul_add, Int.mul_one]; omega
      have g : n * (t / n + 1) ≤ t / n + 1 := by
        have := Int.mul_le_mul_of_nonpos_right (show 1 ≤ n by omega) (show t / n + 1 ≤ 0 by omega)
        omega
      omega
    · rw [w]; simp
theorem v_days_until {c : List Int} (h : Cal c) (hl : c.length ≤ 1000) {t : Int} (ht : Sm t) : F_days_until.f [cal c, dI t] = some (dI (du c t), [cal c, dI t]) := by
  have n0 := h.pos
  have h0 := Int.emod_nonneg t (show (c.length : Int) ≠ 0 by omega)
  have h1 := Int.emod_lt_of_pos t n0
  have e1 : divOk t c.length = true := divOk_of n0 (by omega)
  have e2 : modOk t c.length = true := modOk_of n0
  have sb := sum_bits h.bits
  have e3 : mulOk (t / c.length) c.sum = true := Sm.mul (Nat.lt_of_le_of_lt (ediv_abs n0) ht) (sm_of (by omega))
  have e4 : t % (c.length : Int) = (((t % (c.length : Int)).toNat : Nat) : Int) := by omega
  have e5 : PL.cutD (c.map PyData.int) none (some (t % (c.length : Int))) = (c.take (t % (c.length : Int)).toNat).map .int := by
    rw [e4, cut_take _ _ (by rw [List.length_map]; omega), List.map_take, ← e4]
  simp [F_days_until, b_days_until, e1, e2, e3, e5, du, -List.map_take]
/-! the days that are worked -/
theorem comp_ones (g0 g1 days : Option Bd) : ∀ (c : List Int) (k : Nat), compF [3, 4] (gTup 2 (gsCons (gN 3) (gsCons (gN 4) gsNil))) (toB (frD (sBin uEq (opV 4) (opE (dC (.int 1)))))) (toO (dVar 3)) (enumD k (c.map .int)) [g0, g1, days, none, none] = some (((ones k c).map .int).map .sh, [g0, g1, days, none, none])
  | [], k => by simp [enumD, ones]
  | x :: c, k => by
    have ih := comp_ones g0 g1 days c (k + 1)
    by_cases z : x = 1
    · subst z
      simp [ev_cp1, enumD, ones, ih, -List.map_map]
    · simp [ev_cp1, enumD, ones, ih, z, -List.map_map]
theorem atI_int {l : List Int} {i : Int} {p : Int} (h0 : 0 ≤ i) (h : l[i.toNat]? = some p) : L2.atI (l.map PyData.int) i = some (PyData.int p) := by
  have := atI_nat (xs := l.map PyData.int) (j := i.toNat) (v := PyData.int p) (by rw [List.getElem?_map, h]; rfl)
  have e : ((i.toNat : Nat) : Int) = i := by omega
  rw [e] at this
  exact this
theorem v_time_of_day {c : List Int} (h : Cal c) (hl : c.length ≤ 1000) {k : Int} (ht : Sm k) : F_time_of_day.f [cal c, dI k] = some (dI (tod c k), [cal c, dI k]) := by
  have n0 := h.pos
  have sb := sum_bits h.bits
  have sp := h.sum_pos
  have hL := ones_len c 0 h.bits
  obtain ⟨⟨p, hp⟩, _, _⟩ := tod_ok h k
  have e1 : divOk k (ones 0 c).length = true := divOk_of (by omega) (by omega)
  have e2 : modOk k (ones 0 c).length = true := modOk_of (by omega)
  have e3 : mulOk (k / (ones 0 c).length) c.length = true := Sm.mul (Nat.lt_of_le_of_lt (ediv_abs (by omega)) ht) (sm_of (by omega))
  have e4 := atI_int (Int.emod_nonneg k (show ((ones 0 c).length : Int) ≠ 0 by omega)) hp
  have e5 : c.length < 16777216 := by omega
  simp [F_time_of_day, b_time_of_day, comp_ones, enumD_len, e1, e2, e3, e4, e5, tod, hp, List.getD_eq_getElem?_getD, -List.map_map]
end L67

namespace L67
open PySem PySem.Spec PyProof.Rows L2 PL
/-! what data may be compared -/
def shd (n : Nat) (d : D) : Prop := d.canLay0 = true ∧ d.depth ≤ n
theorem shd.ok {n : Nat} {d : D} (h : shd n d) (hn : n ≤ 64) : SeqAt.shaped d = true := by
  unfold SeqAt.shaped
  rw [h.1, decide_eq_true (Nat.le_trans h.2 hn)]
  rfl
theorem shd_all {n : Nat} : ∀ {ds : List D}, (∀ d ∈ ds, shd n d) → PyData.canLayAll0 ds = true ∧ PyData.depthAll ds ≤ n
  | [], _ => ⟨rfl, Nat.zero_le _⟩
  | d :: ds, h => by
    obtain ⟨h1, h2⟩ := shd_all fun x hx => h x (List.mem_cons_of_mem _ hx)
    obtain ⟨h3, h4⟩ := h d List.mem_cons_self
    refine ⟨by simp [PyData.canLayAll0, h1, h3], ?_⟩
    simp only [PyData.depthAll]
    omega
theorem shd_tup {n : Nat} {ds : List D} (h : ∀ d ∈ ds, shd n d) : shd (n + 1) (.tuple ds) := by
  obtain ⟨h1, h2⟩ := shd_all h
  refine ⟨by simpa [PyData.canLay0] using h1, ?_⟩
  simp only [PyData.depth]
  omega
theorem shd_lst {n : Nat} {ds : List D} (h : ∀ d ∈ ds, shd n d) : shd (n + 1) (.list ds) := by
  obtain ⟨h1, h2⟩ := shd_all h
  refine ⟨by simpa [PyData.canLay0] using h1, ?_⟩
  simp only [PyData.depth]
  omega
theorem shd_int (i : Int) : shd 0 (.int i) := ⟨rfl, Nat.le_refl _⟩
theorem shd.mono {n m : Nat} {d : D} (h : shd n d) (hm : n ≤ m) : shd m d := ⟨h.1, Nat.le_trans h.2 hm⟩
theorem shd_ints (c : List Int) : shd 1 (.tuple (c.map .int)) := shd_tup fun d hd => by
  obtain ⟨i, _, rfl⟩ := List.mem_map.mp hd
  exact shd_int i
/-! is_calendar -/
def okIt : D → Bool
  | .int i => i == 0 || i == 1
  | _ => false
theorem tup01 (ρ : Ev) : (sCall uTup (aCons (opE (dC (.int 0))) (aCons (opE (dC (.int 1))) aNil))) ρ = some (.sh (.tuple [.int 0, .int 1]), ρ) := by simp
theorem in01 (i : Int) (neg : Bool) : uIn neg (.sh (.int i)) (.sh (.tuple [.int 0, .int 1])) = some (dB (neg != (i == 0 || i == 1))) := by
  have e : SeqAt.shaped (.tuple [.int 0, .int 1]) = true := by decide
  have e2 : ((0 : Int) == i || (1 : Int) == i) = (i == 0 || i == 1) := by
    rw [Bool.eq_iff_iff]
    simp only [Bool.or_eq_true, beq_iff_eq]
    omega
  simp only [uIn, ev_sht, shp_i, e, Bool.and_self, if_true, List.any_cons, List.any_nil, eqv_ii, Bool.or_false, e2]
theorem comp_ok (g0 : Option Bd) : ∀ ds : List D, compF [1] (gN 1) (fun ρ => some (true, ρ)) (toO (ofB (bAnd (toB (frD (callF F_is_integer (aCons (opV 1) aNil)))) (toB (frD (sBin (uIn false) (opV 1) (opE (frD (sCall uTup (aCons (opE (dC (.int 0))) (aCons (opE (dC (.int 1))) aNil))))))))))) ds [g0, none] = some ((ds.map fun d => .bool (okIt d)).map .sh, [g0, none])
  | [] => by simp
  | d :: ds => by
    have ih := comp_ok g0 ds
    cases d with
    | int i => simp [ev_cp1, ih, v_is_integer, isI, in01, okIt, -List.map_map]
    | _ => simp [ev_cp1, ih, v_is_integer, isI, okIt, -List.map_map]
theorem boolsM (bs : List Bool) : boolsOf (bs.map .bool) = some bs := boolsOf_map bs
def isCal (ds : List D) : Bool := decide (1 ≤ ds.length) && decide (ds.length ≤ 31) && ds.all okIt && ds.any fun z => PyData.eqv z (.int 1)
theorem all_ints : ∀ {ds : List D}, ds.all okIt = true → ∃ c : List Int, ds = c.map .int
  | [], _ => ⟨[], rfl⟩
  | d :: ds, h => by
    simp only [List.all_cons, Bool.and_eq_true] at h
    obtain ⟨c, rfl⟩ := all_ints h.2
    cases d with
    | int i => exact ⟨i :: c, rfl⟩
    | _ => simp [okIt] at h
theorem v_is_calendarT (ds : List D) : F_is_calendar.f [.sh (.tuple ds)] = some (dB (isCal ds), [.sh (.tuple ds)]) := by
  have hb : uL1 kAll [.sh (.list (ds.map fun d => PyData.bool (okIt d)))] = some (dB (ds.all okIt)) := by
    have e : (ds.map fun d => PyData.bool (okIt d)) = (ds.map okIt).map .bool := by simp
    rw [e, ev_all, List.all_map]
    rfl
  by_cases h1 : 1 ≤ ds.length
  · by_cases h2 : ds.length ≤ 31
    · have h3 : ds.length < 16777216 := by omega
      by_cases h4 : ds.all okIt = true
      · have h5 : SeqAt.shaped (.tuple ds) = true := by
          obtain ⟨c, rfl⟩ := all_ints h4
          exact (shd_ints c).ok (by decide)
        have h6 : uIn false (dI 1) (.sh (.tuple ds)) = some (dB (ds.any fun z => PyData.eqv z (.int 1))) := by
          simp [uIn, h5]
        have h1' : (1 : Int) ≤ ds.length := by omega
        have h2' : (ds.length : Int) ≤ 31 := by omega
        simp [F_is_calendar, b_is_calendar, tyO, tyD, instOf, clsOk, h1', h2', h3, comp_ok, hb, h4, h6, isCal, h1, h2, -List.map_map]
      · have h4' : ds.all okIt = false := by simpa using h4
        have h1' : (1 : Int) ≤ ds.length := by omega
        have h2' : (ds.length : Int) ≤ 31 := by omega
        simp [F_is_calendar, b_is_calendar, tyO, tyD, instOf, clsOk, h1', h2', h3, comp_ok, hb, h4', isCal, h1, h2, -List.map_map]
    · have h2' : ¬ (ds.length : Int) ≤ 31 := by omega
      have h1' : (1 : Int) ≤ ds.length := by omega
      simp [F_is_calendar, b_is_calendar, tyO, tyD, instOf, clsOk, h1', h2', isCal, h1, h2]
  · have h1' : ¬ (1 : Int) ≤ ds.length := by omega
    simp [F_is_calendar, b_is_calendar, tyO, tyD, instOf, clsOk, h1', isCal, h1]
theorem v_is_calendarN (d : D) (h : tyD d ≠ "tuple") : F_is_calendar.f [.sh d] = some (dB false, [.sh d]) := by
  cases d <;> first
    | exact absurd rfl h
    | simp [F_is_calendar, b_is_calendar, tyO, tyD, instOf, clsOk]
theorem isCal_cal {c : List Int} (h : Cal c) (hl : c.length ≤ 31) : isCal (c.map .int) = true := by
  have h1 := h.pos
  unfold isCal
  rw [List.length_map, decide_eq_true (show 1 ≤ c.length by omega), decide_eq_true hl]
  simp only [Bool.true_and, Bool.and_eq_true, List.all_eq_true, List.any_eq_true]
  refine ⟨fun d hd => ?_, .int 1, List.mem_map.mpr ⟨1, h.one, rfl⟩, rfl⟩
  obtain ⟨i, hi, rfl⟩ := List.mem_map.mp hd
  rcases h.bits i hi with rfl | rfl <;> rfl
theorem v_check {c : List Int} (h : Cal c) (hl : c.length ≤ 31) : F_check_calendar.f [cal c] = some (.sh .none, [cal c]) := by
  simp [F_check_calendar, b_check_calendar, v_is_calendarT, isCal_cal h hl]
theorem Tm.sm {t : Int} (ht : t.natAbs < 2 ^ 1000) : Sm t := Nat.lt_of_lt_of_le ht (Nat.pow_le_pow_right (by decide) (by decide))
def oD : Option Int → D
  | some i => .int i
  | none => .none
abbrev sS (x : String) : O := .sh (.str (Str.ofString x))
theorem eqStr (x y : Str) (hx : SeqAt.shaped (.str x) = true) (hy : SeqAt.shaped (.str y) = true) : uEq (.sh (.str x)) (.sh (.str y)) = some (dB (x == y)) := by
  unfold uEq shp
  simp only [ev_sht, hx, hy, Bool.and_self, if_true]
  rfl
section
variable {c : List Int} (h : Cal c) (hl : c.length ≤ 31)
include h hl
theorem v_worked {s e : Int} (hs : Sm s) (he : Sm e) (h0 : 0 ≤ s) (h1 : 0 ≤ e) : F_worked.f [cal c, dI s, dI e] = some (dI (max 0 (du c e - du c s)), [cal c, dI s, dI e]) := by
  simp [F_worked, b_worked, v_check h hl, v_is_count, h0, h1, v_days_until h (by omega) hs, v_days_until h (by omega) he]
  rw [Int.max_def]
  split <;> split <;> omega
theorem du_abs (t : Int) : (du c t).natAbs ≤ t.natAbs * 31 + 31 := by
  have n0 := h.pos
  have sb := sum_bits h.bits
  have st := sum_bits (c := c.take (t % (c.length : Int)).toNat) fun x hx => h.bits x (List.mem_of_mem_take hx)
  have hlen : (c.take (t % (c.length : Int)).toNat).length ≤ 31 := by rw [List.length_take]; omega
  have e1 : (t / (c.length : Int) * c.sum).natAbs ≤ t.natAbs * 31 := by
    rw [Int.natAbs_mul]
    exact Nat.mul_le_mul (ediv_abs n0) (by omega)
  unfold du
  omega
theorem tod_abs (k : Int) : (tod c k).natAbs ≤ k.natAbs * 31 + 31 := by
  have n0 := h.pos
  have sp := h.sum_pos
  have hL := ones_len c 0 h.bits
  obtain ⟨⟨p, hp⟩, _, _⟩ := tod_ok h k
  obtain ⟨i, e1, e2, _, _⟩ := ones_spec c 0 _ _ h.bits hp
  have e3 : (k / ((ones 0 c).length : Int) * c.length).natAbs ≤ k.natAbs * 31 := by
    rw [Int.natAbs_mul]
    exact Nat.mul_le_mul (ediv_abs (by omega)) (by omega)
  unfold tod
  rw [List.getD_eq_getElem?_getD, hp]
  simp only [Option.getD_some]
  omega
theorem du_sm {t : Int} (ht : t.natAbs < 2 ^ 1000) (d : Int) (hd : d.natAbs ≤ 1000) : Sm (du c t + d) := by
  have := du_abs h hl t
  have e : 2 ^ 1000 * 31 + 31 + 1000 < 2 ^ 2000 := by
    have h1 : 2 ^ 1000 * 31 + 31 + 1000 ≤ 2 ^ 1000 * 2 ^ 20 := by
      have : 1 ≤ 2 ^ 1000 := Nat.one_le_two_pow
      generalize 2 ^ 1000 = z at this
      omega
    refine Nat.lt_of_le_of_lt h1 ?_
    rw [← Nat.pow_add]
    exact Nat.pow_lt_pow_right (by decide) (by decide)
  unfold Sm
  generalize 2 ^ 2000 = y at e
  generalize 2 ^ 1000 = z at e ht
  omega
theorem v_done_at {s d : Int} (hs : s.natAbs < 2 ^ 1000) (hd : d.natAbs ≤ 999) : F_done_at.f [cal c, dI s, dI d] = some (dI (doneAt c s d), [cal c, dI s, dI d]) := by
  have e1 : Sm (du c s + d - 1) := by
    have := du_sm h hl hs (d - 1) (by omega)
    have e : du c s + (d - 1) = du c s + d - 1 := by omega
    rw [e] at this
    exact this
  by_cases z : d = 0
  · simp [F_done_at, b_done_at, doneAt, z]
  · simp [F_done_at, b_done_at, doneAt, z, v_days_until h (by omega) (Tm.sm hs), v_time_of_day h (by omega) e1]
theorem v_done {s d : Int} (hs : s.natAbs < 2 ^ 1000) (hd : d.natAbs ≤ 999) (h0 : 0 ≤ s) (h1 : 0 ≤ d) : F_done.f [cal c, dI s, dI d] = some (dI (doneAt c s d), [cal c, dI s, dI d]) := by
  simp [F_done, b_done, v_check h hl, v_is_count, h0, h1, v_done_at h hl hs hd]
theorem v_begun_at {s d : Int} (hs : s.natAbs < 2 ^ 1000) (hd : d.natAbs ≤ 999) : F_begun_at.f [cal c, dI s, dI d] = some (.sh (oD (begunAt c s d)), [cal c, dI s, dI d]) := by
  have e1 : Sm (du c s - d) := du_sm h hl hs (-d) (by omega)
  by_cases z : d = 0
  · simp [F_begun_at, b_begun_at, begunAt, oD, z]
  · by_cases w : du c s - d < 0
    · simp [F_begun_at, b_begun_at, begunAt, oD, z, w, v_days_until h (by omega) (Tm.sm hs)]
    · simp [F_begun_at, b_begun_at, begunAt, oD, z, w, v_days_until h (by omega) (Tm.sm hs), v_time_of_day h (by omega) e1]
theorem v_begun {s d : Int} (hs : s.natAbs < 2 ^ 1000) (hd : d.natAbs ≤ 999) (h0 : 0 ≤ s) (h1 : 0 ≤ d) : F_begun.f [cal c, dI s, dI d] = some (.sh (oD (begunAt c s d)), [cal c, dI s, dI d]) := by
  simp [F_begun, b_begun, v_check h hl, v_is_count, h0, h1, v_begun_at h hl hs hd]
theorem v_told_worked {s e : Int} (named : Bool) (hs : Sm s) (he : Sm e) (h0 : 0 ≤ s) (h1 : 0 ≤ e) : F_law_told.f [sS "worked", cal c, dI s, dI e, dB named] = some (dI (max 0 (du c e - du c s)), [sS "worked", cal c, dI s, dI e, dB named]) := by
  have q1 := eqStr (Str.ofString "worked") (Str.ofString "worked") (by decide +kernel) (by decide +kernel)
  cases named <;> simp [F_law_told, b_law_told, q1, reord, v_worked h hl hs he h0 h1]
theorem v_told_done {s d : Int} (named : Bool) (hs : s.natAbs < 2 ^ 1000) (hd : d.natAbs ≤ 999) (h0 : 0 ≤ s) (h1 : 0 ≤ d) : F_law_told.f [sS "done", cal c, dI s, dI d, dB named] = some (dI (doneAt c s d), [sS "done", cal c, dI s, dI d, dB named]) := by
  have q1 := eqStr (Str.ofString "done") (Str.ofString "worked") (by decide +kernel) (by decide +kernel)
  have q2 := eqStr (Str.ofString "done") (Str.ofString "done") (by decide +kernel) (by decide +kernel)
  have q3 : (Str.ofString "done" == Str.ofString "worked") = false := by decide +kernel
  rw [q3] at q1
  cases named <;> simp [F_law_told, b_law_told, q1, q2, reord, v_done h hl hs hd h0 h1]
theorem v_told_begun {s d : Int} (named : Bool) (hs : s.natAbs < 2 ^ 1000) (hd : d.natAbs ≤ 999) (h0 : 0 ≤ s) (h1 : 0 ≤ d) : F_law_told.f [sS "begun", cal c, dI s, dI d, dB named] = some (.sh (oD (begunAt c s d)), [sS "begun", cal c, dI s, dI d, dB named]) := by
  have q1 := eqStr (Str.ofString "begun") (Str.ofString "worked") (by decide +kernel) (by decide +kernel)
  have q2 := eqStr (Str.ofString "begun") (Str.ofString "done") (by decide +kernel) (by decide +kernel)
  have q3 : (Str.ofString "begun" == Str.ofString "worked") = false := by decide +kernel
  have q4 : (Str.ofString "begun" == Str.ofString "done") = false := by decide +kernel
  rw [q3] at q1
  rw [q4] at q2
  cases named <;> simp [F_law_told, b_law_told, q1, q2, reord, v_begun h hl hs hd h0 h1]
end
end L67

namespace PL
open PySem
/-- a loop over ints that runs through -/
theorem for_go (g : XG) (f : XS) (a : Int) (P : Nat → Ev → Prop) (tail : List D) : ∀ (n k : Nat) (ρ : Ev), P k ρ →
    (∀ i, k ≤ i → i < k + n → ∀ ρ, P i ρ → ∃ ρ1 ρ2, g (.sh (.int (a + (i : Nat)))) ρ = some ρ1 ∧ (f ρ1 = some (.nx ρ2) ∨ f ρ1 = some (.ct ρ2)) ∧ P (i + 1) ρ2) →
    ∃ ρ', P (k + n) ρ' ∧ forF g f (((List.range' k n).map fun i => PyData.int (a + (i : Nat))) ++ tail) ρ = forF g f tail ρ'
  | 0, k, ρ, h, _ => ⟨ρ, h, rfl⟩
  | n + 1, k, ρ, h, hs => by
    obtain ⟨ρ1, ρ2, e1, e2, h2⟩ := hs k (Nat.le_refl _) (by omega) ρ h
    obtain ⟨ρ', h3, e3⟩ := for_go g f a P tail n (k + 1) ρ2 h2 fun i h1 h2 => hs i (by omega) (by omega)
    refine ⟨ρ', by have e : k + (n + 1) = k + 1 + n := by omega
                   rw [e]; exact h3, ?_⟩
    rw [List.range'_succ, List.map_cons, List.cons_append, ev_for1, e1]
    rcases e2 with e2 | e2 <;> simp only [bnd_some, e2, e3]
theorem for_all (g : XG) (f : XS) (a : Int) (P : Nat → Ev → Prop) (n : Nat) (ρ : Ev) (h : P 0 ρ)
    (hs : ∀ i, i < n → ∀ ρ, P i ρ → ∃ ρ1 ρ2, g (.sh (.int (a + (i : Nat)))) ρ = some ρ1 ∧ (f ρ1 = some (.nx ρ2) ∨ f ρ1 = some (.ct ρ2)) ∧ P (i + 1) ρ2) :
    ∃ ρ', P n ρ' ∧ forF g f ((List.range n).map fun i => PyData.int (a + (i : Nat))) ρ = some (.nx ρ') := by
  obtain ⟨ρ', h1, h2⟩ := for_go g f a P [] n 0 ρ h fun i _ h => hs i (by omega)
  rw [List.append_nil, ← List.range_eq_range'] at h2
  exact ⟨ρ', by rw [Nat.zero_add] at h1; exact h1, h2⟩
theorem for_all0 (g : XG) (f : XS) (P : Nat → Ev → Prop) (n : Nat) (ρ : Ev) (h : P 0 ρ)
    (hs : ∀ i, i < n → ∀ ρ, P i ρ → ∃ ρ1 ρ2, g (.sh (.int (i : Nat))) ρ = some ρ1 ∧ (f ρ1 = some (.nx ρ2) ∨ f ρ1 = some (.ct ρ2)) ∧ P (i + 1) ρ2) :
    ∃ ρ', P n ρ' ∧ forF g f ((List.range n).map fun i => PyData.int (i : Nat)) ρ = some (.nx ρ') := by
  have := for_all g f 0 P n ρ h (by simpa using hs)
  simpa using this
theorem for_ret (g : XG) (f : XS) (a : Int) (P : Nat → Ev → Prop) (n j : Nat) (ρ : Ev) (h : P 0 ρ) (hj : j < n)
    (hs : ∀ i, i < j → ∀ ρ, P i ρ → ∃ ρ1 ρ2, g (.sh (.int (a + (i : Nat)))) ρ = some ρ1 ∧ (f ρ1 = some (.nx ρ2) ∨ f ρ1 = some (.ct ρ2)) ∧ P (i + 1) ρ2) (R : O → Ev → Prop)
    (he : ∀ ρ, P j ρ → ∃ ρ1 o ρ2, g (.sh (.int (a + (j : Nat)))) ρ = some ρ1 ∧ f ρ1 = some (.rt o ρ2) ∧ R o ρ2) :
    ∃ o ρ', R o ρ' ∧ forF g f ((List.range n).map fun i => PyData.int (a + (i : Nat))) ρ = some (.rt o ρ') := by
  have e : List.range n = List.range' 0 j ++ (j :: List.range' (j + 1) (n - j - 1)) := by
    rw [List.range_eq_range', ← List.range'_succ]
    have e1 : n - j - 1 + 1 = n - j := by omega
    have e2 : List.range' 0 j ++ List.range' (0 + 1 * j) (n - j) = List.range' 0 (j + (n - j)) := List.range'_append
    rw [e1]
    have e3 : 0 + 1 * j = j := by omega
    have e4 : j + (n - j) = n := by omega
    rw [e3, e4] at e2
    exact e2.symm
  obtain ⟨ρ', h1, h2⟩ := for_go g f a P ((j :: List.range' (j + 1) (n - j - 1)).map fun i => PyData.int (a + (i : Nat))) j 0 ρ h fun i _ h => hs i (by omega)
  rw [Nat.zero_add] at h1
  obtain ⟨ρ1, o, ρ2, e1, e2, r⟩ := he ρ' h1
  refine ⟨o, ρ2, r, ?_⟩
  rw [e, List.map_append, h2, List.map_cons, ev_for1, e1]
  simp only [bnd_some, e2]
theorem seq_nx {f g : XS} {ρ ρ1 : Ev} {r : Option Res} (h : f ρ = some (.nx ρ1)) (h' : g ρ1 = r) : xSeq f g ρ = r := by
  unfold xSeq
  rw [h]
  exact h'
theorem seq_rt {f g : XS} {ρ ρ1 : Ev} {o : O} (h : f ρ = some (.rt o ρ1)) : xSeq f g ρ = some (.rt o ρ1) := by
  unfold xSeq
  rw [h]
theorem asg_ok {f : XF} {g : XG} {ρ ρ1 ρ2 : Ev} {o : O} (h : f ρ = some (o, ρ1)) (h' : g o ρ1 = some ρ2) : xAsg f g ρ = some (.nx ρ2) := by
  unfold xAsg
  rw [h]
  show (g o ρ1).map _ = _
  rw [h']
  rfl
theorem for_nx {it : XI} {g : XG} {f : XS} {ρ ρ1 ρ2 : Ev} {x : ItD} (h1 : it ρ = some (x, ρ1)) (h2 : forF g f x.ds ρ1 = some (.nx ρ2)) : xFor it g f ρ = some (.nx (unlock x.lk ρ2)) := by
  unfold xFor
  rw [h1]
  show (forF g f x.ds ρ1).map _ = _
  rw [h2]
  rfl
theorem for_rt {it : XI} {g : XG} {f : XS} {ρ ρ1 ρ2 : Ev} {x : ItD} {o : O} (h1 : it ρ = some (x, ρ1)) (h2 : forF g f x.ds ρ1 = some (.rt o ρ2)) : xFor it g f ρ = some (.rt o (unlock x.lk ρ2)) := by
  unfold xFor
  rw [h1]
  show (forF g f x.ds ρ1).map _ = _
  rw [h2]
  rfl
theorem run_rt {ms : List Md} {n : Nat} {g : XS} {os fins : List O} {ρ0 ρ1 : Ev} {r : O} (h0 : entryB ms os = some ρ0) (h : g (ρ0 ++ List.replicate n none) = some (.rt r ρ1)) (h1 : finF ms os ρ1 = some fins) : (mkFS ms n g).f os = some (r, fins) := by
  rw [ev_mkFS]
  unfold runF
  rw [h0]
  show (match g (ρ0 ++ List.replicate n none) with
    | some (.rt r ρ') => (finF ms os ρ').map fun fins => (r, fins)
    | some (.nx ρ') => (finF ms os ρ').map fun fins => (.sh .none, fins)
    | _ => none) = _
  rw [h]
  show (finF ms os ρ1).map _ = _
  rw [h1]
  rfl
end PL
namespace L67
open PySem PySem.Spec PyProof.Rows L2 PL
abbrev dl (L : List Int) : O := .ol ((L.map .int).map .sh)
def daysL (c : List Int) (m : Nat) : List Int := (List.range (m + 1)).map fun t => du c (t : Nat)
theorem daysL_get {c : List Int} {m : Nat} {t : Int} (h0 : 0 ≤ t) (h1 : t ≤ m) : (daysL c m)[t.toNat]? = some (du c t) := by
  unfold daysL
  rw [List.getElem?_map, List.getElem?_range (by omega)]
  simp only [Option.map_some]
  congr 2
  omega
theorem ix_days {c : List Int} {m : Nat} {t : Int} (h0 : 0 ≤ t) (h1 : t ≤ m) : L2.atI ((daysL c m).map PyData.int) t = some (PyData.int (du c t)) := atI_int h0 (daysL_get h0 h1)
theorem atI_neg1 {α : Type} {xs : List α} {x : α} : L2.atI (xs ++ [x]) (-1) = some x := atI_last _ _
theorem daysL_succ (c : List Int) (m : Nat) : daysL c (m + 1) = daysL c m ++ [du c ((m + 1 : Nat) : Int)] := by
  unfold daysL
  rw [List.range_succ, List.map_append]
  rfl
theorem daysL_last (c : List Int) (m : Nat) : ∃ l, daysL c m = l ++ [du c (m : Int)] := ⟨(List.range m).map fun t => du c (t : Nat), by unfold daysL; rw [List.range_succ, List.map_append]; rfl⟩
theorem daysL_len (c : List Int) (m : Nat) : (daysL c m).length = m + 1 := by unfold daysL; rw [List.length_map, List.length_range]
section
variable {c : List Int} (h : Cal c) (hl : c.length ≤ 31)
include h hl
theorem cal_ix (t : Int) : L2.atI (c.map PyData.int) (t % c.length) = some (.int (dayAt c t)) := by
  have n0 := h.pos
  have h0 := Int.emod_nonneg t (show (c.length : Int) ≠ 0 by omega)
  have h1 := Int.emod_lt_of_pos t n0
  refine atI_int h0 ?_
  unfold dayAt
  rw [List.getD_eq_getElem?_getD, List.getElem?_eq_getElem (by omega)]
  rfl
theorem days_step (m i : Nat) (hi : i ≤ 1000) (x : Option O) : ∃ ρ1, gN 3 (dI i) [some (.pa false (cal c)), some (.pa false (dI m)), some (.ow (dl (daysL c i))), x.map .ow] = some ρ1 ∧ lb_law_days0 ρ1 = some (.nx [some (.pa false (cal c)), some (.pa false (dI m)), some (.ow (dl (daysL c (i + 1)))), some (.ow (dI i))]) := by
  have n0 := h.pos
  obtain ⟨l, e⟩ := daysL_last c i
  have e1 : modOk (i : Int) c.length = true := modOk_of n0
  have e2 := cal_ix h hl (i : Int)
  have e3 : L2.atI ((daysL c i).map PyData.int) (-1) = some (.int (du c i)) := by rw [e, List.map_append]; exact atI_neg1
  have e4 : (daysL c i).length < 16777216 := by rw [daysL_len]; omega
  have e5 := du_succ n0 (i : Int)
  have e6 : ((i : Int) + 1) = ((i + 1 : Nat) : Int) := by omega
  rw [e6] at e5
  refine ⟨[some (.pa false (cal c)), some (.pa false (dI m)), some (.ow (dl (daysL c i))), some (.ow (dI i))], ?_, ?_⟩
  · cases x <;> simp
  · rw [daysL_succ, e5]
    unfold lb_law_days0
    simp [e1, e2, e3, e4, -List.map_map, -List.map_append]
    simp
theorem v_days (m : Nat) (hm : m ≤ 1000) : F_law_days.f [cal c, dI m] = some (dl (daysL c m), [cal c, dI m]) := by
  have n0 := h.pos
  obtain ⟨ρ', ⟨x, rfl⟩, h2⟩ := for_all0 (gN 3) lb_law_days0 (fun k ρ => ∃ x : Option O, ρ = [some (.pa false (cal c)), some (.pa false (dI m)), some (.ow (dl (daysL c k))), x.map .ow]) m [some (.pa false (cal c)), some (.pa false (dI m)), some (.ow (dl (daysL c 0))), none] ⟨none, rfl⟩ (by
    rintro i hi _ ⟨x, rfl⟩
    obtain ⟨ρ1, q1, q2⟩ := days_step h hl m i (by omega) x
    exact ⟨ρ1, _, q1, .inl q2, some (dI i), rfl⟩)
  have hd0 : (.ol [.sh (.int 0)] : O) = dl (daysL c 0) := by simp [daysL, du_zero, dl]
  have h3 : rgOk m = true := rgOk_of (by omega) (by omega)
  refine run_rt (by simp; rfl) (ρ1 := [some (.pa false (cal c)), some (.pa false (dI m)), none, x.map .ow]) (seq_nx (ρ1 := [some (.pa false (cal c)), some (.pa false (dI m)), some (.ow (dl (daysL c 0))), none]) (by simp [hd0, -List.map_map]) (seq_nx (for_nx (by simp [h3, -List.map_map]; exact ⟨rfl, rfl⟩) h2) (by simp [-List.map_map]))) (by simp)
end
end L67

namespace L67
open PySem PySem.Spec PyProof.Rows L2 PL
section
variable {c : List Int} (h : Cal c) (hl : c.length ≤ 31)
include h hl
abbrev daysO (c : List Int) (m : Nat) : O := dl (daysL c m)
theorem done_step (m : Nat) {s e d : Int} (hs : 0 ≤ s) (hsm : s ≤ m) (he : 0 ≤ e) (hem : e ≤ m) (x : Option O) : ∃ ρ1, gN 3 (dI e) [some (.pa false (daysO c m)), some (.pa false (dI s)), some (.pa false (dI d)), x.map .ow] = some ρ1 ∧
    lb_law_done0 ρ1 =
      if d ≤ du c e - du c s then some (.rt (dI e) [some (.pa false (daysO c m)), some (.pa false (dI s)), some (.pa false (dI d)), none]) else some (.nx [some (.pa false (daysO c m)), some (.pa false (dI s)), some (.pa false (dI d)), some (.ow (dI e))]) := by
  have e1 := ix_days (c := c) (m := m) hs hsm
  have e2 := ix_days (c := c) (m := m) he hem
  refine ⟨[some (.pa false (daysO c m)), some (.pa false (dI s)), some (.pa false (dI d)), some (.ow (dI e))], by cases x <;> simp, ?_⟩
  unfold lb_law_done0
  by_cases z : d ≤ du c e - du c s
  · simp [e1, e2, z, -List.map_map]
  · simp [e1, e2, z, -List.map_map]
theorem v_law_done (m : Nat) (hm : m ≤ 1000) {s d : Int} (hs : 0 ≤ s) (hsm : s ≤ m) (hd : 0 ≤ d) (hem : doneAt c s d ≤ m) : F_law_done.f [daysO c m, dI s, dI d] = some (dI (doneAt c s d), [daysO c m, dI s, dI d]) := by
  obtain ⟨g1, g2, g3⟩ := doneAt_ok h (s := s) hd
  have e0 : s + (((doneAt c s d - s).toNat : Nat) : Int) = doneAt c s d := by omega
  obtain ⟨o, ρ', ⟨rfl, rfl⟩, h2⟩ := for_ret (gN 3) lb_law_done0 s
    (fun _ ρ => ∃ x : Option O, ρ = [some (.pa false (daysO c m)), some (.pa false (dI s)), some (.pa false (dI d)), x.map .ow]) ((m : Int) + 1 - s).toNat (doneAt c s d - s).toNat
    [some (.pa false (daysO c m)), some (.pa false (dI s)), some (.pa false (dI d)), none] ⟨none, rfl⟩ (by omega) (by
      rintro i hi _ ⟨x, rfl⟩
      obtain ⟨ρ1, q1, q2⟩ := done_step h hl m (s := s) (e := s + i) (d := d) hs hsm (by omega) (by omega) x
      rw [if_neg (g3 (s + i) (by omega) (by omega))] at q2
      exact ⟨ρ1, _, q1, .inl q2, some (dI (s + i)), rfl⟩)
    (fun o ρ => o = dI (doneAt c s d) ∧ ρ = [some (.pa false (daysO c m)), some (.pa false (dI s)), some (.pa false (dI d)), none]) (by
      rintro _ ⟨x, rfl⟩
      obtain ⟨ρ1, q1, q2⟩ := done_step h hl m (s := s) (e := doneAt c s d) (d := d) hs hsm (by omega) hem x
      rw [if_pos g2] at q2
      rw [e0]
      exact ⟨ρ1, _, _, q1, q2, rfl, rfl⟩)
  have e3 : rgOk s = true := rgOk_of (by omega) (by omega)
  have e4 : rgOk ((m : Int) + 1) = true := rgOk_of (by omega) (by omega)
  refine run_rt (by simp; rfl) (seq_rt (for_rt (x := ⟨(List.range ((m : Int) + 1 - s).toNat).map fun i => PyData.int (s + (i : Nat)), none⟩) (by simp [e3, e4, daysL_len, -List.map_map]) h2)) (by simp)
def fb (c : List Int) (e d : Int) : Nat → Option Int
  | 0 => none
  | i + 1 => if d ≤ du c e - du c (i : Nat) then some (i : Nat) else fb c e d i
theorem begun_step (m : Nat) {e d : Int} {i : Nat} (he : 0 ≤ e) (hem : e ≤ m) (hi : (i : Int) ≤ e) (x : Option O) : ∃ ρ1, gN 4 (dI i) [some (.pa false (daysO c m)), some (.pa false (dI e)), some (.pa false (dI d)), some (.ow (.sh (oD (fb c e d i)))), x.map .ow] = some ρ1 ∧
    lb_law_begun0 ρ1 =
      some (.nx [some (.pa false (daysO c m)), some (.pa false (dI e)), some (.pa false (dI d)), some (.ow (.sh (oD (fb c e d (i + 1))))), some (.ow (dI i))]) := by
  have e1 := ix_days (c := c) (m := m) he hem
  have e2 := ix_days (c := c) (m := m) (t := (i : Int)) (by omega) (by omega)
  refine ⟨[some (.pa false (daysO c m)), some (.pa false (dI e)), some (.pa false (dI d)), some (.ow (.sh (oD (fb c e d i)))), some (.ow (dI i))], by cases x <;> simp, ?_⟩
  unfold lb_law_begun0
  by_cases z : d ≤ du c e - du c (i : Nat)
  · simp [e1, e2, z, fb, oD, -List.map_map]
  · simp [e1, e2, z, fb, -List.map_map]
theorem fb_ok (e d : Int) : ∀ n : Nat, match fb c e d n with
    | some s => 0 ≤ s ∧ s < n ∧ d ≤ du c e - du c s ∧ ∀ s' : Int, s < s' → s' < n → ¬ d ≤ du c e - du c s'
    | none => ∀ s' : Int, 0 ≤ s' → s' < n → ¬ d ≤ du c e - du c s'
  | 0 => by
    simp only [fb]
    intro s' h1 h2
    omega
  | n + 1 => by
    have ih := fb_ok e d n
    simp only [fb]
    by_cases z : d ≤ du c e - du c (n : Nat)
    · rw [if_pos z]
      exact ⟨by omega, by omega, z, fun s' h1 h2 => by omega⟩
    · rw [if_neg z]
      cases q : fb c e d n with
      | some s =>
        rw [q] at ih
        obtain ⟨i1, i2, i3, i4⟩ := ih
        refine ⟨i1, by omega, i3, fun s' h1 h2 => ?_⟩
        by_cases w : s' = n
        · rw [w]; exact z
        · exact i4 s' h1 (by omega)
      | none =>
        rw [q] at ih
        intro s' h1 h2
        by_cases w : s' = n
        · rw [w]; exact z
        · exact ih s' h1 (by omega)
theorem fb_begun {e d : Int} (he : 0 ≤ e) (hd : 0 ≤ d) : fb c e d (e.toNat + 1) = begunAt c e d := by
  refine IsBegun.uniq (f := du c) (e := e) (d := d) ?_ (begunAt_ok h he hd)
  have := fb_ok h hl e d (e.toNat + 1)
  cases q : fb c e d (e.toNat + 1) with
  | some s =>
    rw [q] at this
    obtain ⟨i1, i2, i3, i4⟩ := this
    exact ⟨i1, by omega, i3, fun s' h1 h2 => i4 s' h1 (by omega)⟩
  | none =>
    rw [q] at this
    exact fun s' h1 h2 => this s' h1 (by omega)
theorem v_law_begun (m : Nat) (hm : m ≤ 1000) {e d : Int} (he : 0 ≤ e) (hem : e ≤ m) (hd : 0 ≤ d) : F_law_begun.f [daysO c m, dI e, dI d] = some (.sh (oD (begunAt c e d)), [daysO c m, dI e, dI d]) := by
  obtain ⟨ρ', ⟨x, rfl⟩, h2⟩ := for_all0 (gN 4) lb_law_begun0
    (fun i ρ => ∃ x : Option O, ρ = [some (.pa false (daysO c m)), some (.pa false (dI e)), some (.pa false (dI d)), some (.ow (.sh (oD (fb c e d i)))), x.map .ow]) (e.toNat + 1)
    [some (.pa false (daysO c m)), some (.pa false (dI e)), some (.pa false (dI d)), some (.ow (.sh .none)), none] ⟨none, rfl⟩ (by
      rintro i hi _ ⟨x, rfl⟩
      obtain ⟨ρ1, q1, q2⟩ := begun_step h hl m (e := e) (d := d) (i := i) he hem (by omega) x
      exact ⟨ρ1, _, q1, .inl q2, some (dI i), rfl⟩)
  have e3 : rgOk (e + 1) = true := rgOk_of (by omega) (by omega)
  have e4 : (e + 1).toNat = e.toNat + 1 := by omega
  rw [fb_begun h hl he hd] at h2
  refine run_rt (by simp; rfl) (ρ1 := [some (.pa false (daysO c m)), some (.pa false (dI e)), some (.pa false (dI d)), none, x.map .ow]) (seq_nx (ρ1 := [some (.pa false (daysO c m)), some (.pa false (dI e)), some (.pa false (dI d)), some (.ow (.sh .none)), none]) (by simp) (seq_nx (for_nx (x := ⟨(List.range (e.toNat + 1)).map fun i => PyData.int (i : Nat), none⟩) (by simp [e3, e4, -List.map_map]) h2) (by simp [-List.map_map]))) (by simp)
end
end L67

namespace L67
open PySem PySem.Spec PyProof.Rows L2 PL
/-! _law_same -/
def Bas (d : D) : Prop := (∃ i, d = .int i) ∨ d = .none ∨ ∃ b, d = .bool b
theorem same_bas {d : D} (h : Bas d) (n : Nat) : (F_law_same (n + 1)).f [.sh d, .sh d] = some (dB true, [.sh d, .sh d]) := by
  rcases h with ⟨i, rfl⟩ | rfl | ⟨b, rfl⟩
  · simp [F_law_same, b_law_same, tyO, tyD, instOf, clsOk, D.isNone]
  · simp [F_law_same, b_law_same, tyO, tyD, instOf, clsOk, D.isNone]
  · simp [F_law_same, b_law_same, tyO, tyD, instOf, clsOk, D.isNone]
theorem ms_same (n : Nat) : (F_law_same n).ms = [.br, .br] := by cases n <;> rfl
theorem comp_none {vs : List Nat} {g : XG} {c : XB} {e : XF} {ρ : Ev} : ∀ {ds : List D}, (∀ d ∈ ds, ∃ ρ1 ρ2, g (.sh d) ρ = some ρ1 ∧ c ρ1 = some (false, ρ2) ∧ wipeE ρ2 vs = ρ) → compF vs g c e ds ρ = some ([], ρ)
  | [], _ => rfl
  | d :: ds, h => by
    obtain ⟨ρ1, ρ2, e1, e2, e3⟩ := h d List.mem_cons_self
    have ih := comp_none (vs := vs) (g := g) (c := c) (e := e) (ρ := ρ) fun x hx => h x (List.mem_cons_of_mem _ hx)
    rw [ev_cp1, e1]
    simp [e2, e3, ih]
def LstO (o : O) (ds : List D) : Prop := o = .ol (ds.map .sh) ∨ o = .sh (.list ds)
theorem LstO.ix {o : O} {ds : List D} (h : LstO o ds) (i : Int) : uIx o (.sh (.int i)) = mpo (L2.atI ds i) .sh := by
  rcases h with rfl | rfl <;> simp
theorem LstO.len {o : O} {ds : List D} (h : LstO o ds) : uLen [o] = some (dI ds.length) := by
  rcases h with rfl | rfl <;> simp
theorem LstO.ty {o : O} {ds : List D} (h : LstO o ds) : tyO o = "list" := by
  rcases h with rfl | rfl <;> rfl
theorem LstO.nn {o : O} {ds : List D} (h : LstO o ds) : o.isNone = false := by
  rcases h with rfl | rfl <;> rfl
theorem same_comp {o1 o2 : O} {ds : List D} (h1 : LstO o1 ds) (h2 : LstO o2 ds) (hb : ∀ d ∈ ds, Bas d) (n : Nat) :
    compF [2] (gN 2) (bNot (toB (frD (callF (F_law_same (n + 1)) (aCons (opE (frD (sBin uIx (opV 0) (opV 2)))) (aCons (opE (frD (sBin uIx (opV 1) (opV 2)))) aNil)))))) (toO (dVar 2)) ((List.range ds.length).map fun k => PyData.int (k : Nat)) [some (.pa false o1), some (.pa false o2), none] = some ([], [some (.pa false o1), some (.pa false o2), none]) := by
  refine comp_none fun d hd => ?_
  obtain ⟨k, hk, rfl⟩ := List.mem_map.mp hd
  rw [List.mem_range] at hk
  have e1 := atI_nat (xs := ds) (j := k) (List.getElem?_eq_getElem hk)
  have e2 := same_bas (hb ds[k] (List.getElem_mem hk)) n
  refine ⟨[some (.pa false o1), some (.pa false o2), some (.ow (dI k))], [some (.pa false o1), some (.pa false o2), some (.ow (dI k))], by simp, ?_, by simp⟩
  simp [h1.ix, h2.ix, e1, e2, ms_same]
theorem same_lst {o1 o2 : O} {ds : List D} (h1 : LstO o1 ds) (h2 : LstO o2 ds) (hb : ∀ d ∈ ds, Bas d) (hl : ds.length ≤ 1000) (n : Nat) : (F_law_same (n + 2)).f [o1, o2] = some (dB true, [o1, o2]) := by
  have e1 := same_comp h1 h2 hb n
  have e2 : rgOk ds.length = true := rgOk_of (by omega) (by omega)
  have e3 : ds.length < 16777216 := by omega
  have e4 : uEq (.sh (.list [])) (.sh (.list [])) = some (dB true) := rfl
  have e5 : (F_law_same (n + 2)) = mkFS [.br, .br] 1 (b_law_same (F_law_same (n + 1))) := rfl
  rw [e5]
  simp [b_law_same, instOf, clsOk, h1.len, h2.len, h1.ty, h2.ty, h1.nn, h2.nn, e1, e2, e3, e4, -List.map_map]
end L67

namespace L67
open PySem PySem.Spec PyProof.Rows L2 PL
abbrev mo (x : Option O) : Option Bd := x.map .ow
abbrev cr (c : List Int) (m : Nat) (b : Bool) (x3 x4 x5 x6 x7 x8 : Option Bd) : Ev := [some (.pa false (cal c)), some (.ow (dB b)), some (.ow (daysO c m)), x3, x4, x5, x6, x7, x8]
theorem same_i (i : Int) : (F_law_same 4).f [dI i, dI i] = some (dB true, [dI i, dI i]) := same_bas (.inl ⟨i, rfl⟩) 3
section
variable {c : List Int} (h : Cal c) (hl : c.length ≤ 31)
include h hl
theorem small_sm {t : Int} (ht : t.natAbs ≤ 1000000) : t.natAbs < 2 ^ 1000 := Nat.lt_of_le_of_lt ht (Nat.lt_of_lt_of_le (by decide : 1000000 < 2 ^ 20) (Nat.pow_le_pow_right (by decide) (by decide)))
theorem stepA (m : Nat) (b : Bool) {s e : Int} (hs : 0 ≤ s) (hsm : s ≤ m) (he : 0 ≤ e) (hem : e ≤ m) (hm : m ≤ 1000) (x4 x5 x6 x7 x8 : Option O) : ∃ ρ1, gN 4 (dI e) (cr c m b (some (.ow (dI s))) (mo x4) (mo x5) (mo x6) (mo x7) (mo x8)) = some ρ1 ∧
    lb_law_calendar_right0 ρ1 = some (.nx (cr c m (!b) (some (.ow (dI s))) (some (.ow (dI e))) (mo x5) (mo x6) (mo x7) (mo x8))) := by
  have e1 := v_told_worked h hl (s := s) (e := e) b (Tm.sm (small_sm h hl (by omega))) (Tm.sm (small_sm h hl (by omega))) hs he
  have i1 := ix_days (c := c) (m := m) hs hsm
  have i2 := ix_days (c := c) (m := m) he hem
  have ew : max 0 (du c e - du c s) = if du c s < du c e then du c e - du c s else 0 := by
    rw [Int.max_def]
    split <;> split <;> omega
  rw [ew] at e1
  refine ⟨cr c m b (some (.ow (dI s))) (some (.ow (dI e))) (mo x5) (mo x6) (mo x7) (mo x8), by simp, ?_⟩
  by_cases z : s < e
  · by_cases w : du c s < du c e
    · simp [w] at e1
      simp [lb_law_calendar_right0, e1, i1, i2, z, w, same_i, ms_same, -List.map_map]
    · simp [w] at e1
      simp [lb_law_calendar_right0, e1, i1, i2, z, w, same_i, ms_same, -List.map_map]
  · have w : ¬ du c s < du c e := by
      have := du_mono' h (s := e) (t := s) (by omega)
      omega
    simp [w] at e1
    simp [lb_law_calendar_right0, e1, i1, i2, z, w, same_i, ms_same, -List.map_map]
theorem stepC (m : Nat) (b : Bool) {s e d : Int} (hs : 0 ≤ s) (hsm : s ≤ m) (hse : s ≤ e) (hem : e ≤ m) (hd : 0 ≤ d) (hm : m ≤ 1000) (y : D) (x4 x7 x8 : Option O) : ∃ ρ1, gN 4 (dI e) (cr c m b (some (.ow (dI s))) (mo x4) (some (.ow (dI d))) (some (.ow (.ol [dI (doneAt c s d), .sh y]))) (mo x7) (mo x8)) = some ρ1 ∧
    ∃ x7' x8' : Option O, lb_law_calendar_right1 ρ1 = some (.nx (cr c m b (some (.ow (dI s))) (some (.ow (dI e))) (some (.ow (dI d))) (some (.ow (.ol [dI (doneAt c s d), .sh y]))) (mo x7') (mo x8'))) := by
  have i1 := ix_days (c := c) (m := m) hs hsm
  have i2 := ix_days (c := c) (m := m) (t := e) (by omega) hem
  have e1 := v_law_begun h hl m hm (e := e) (d := d) (by omega) hem hd
  obtain ⟨g1, g2, g3⟩ := doneAt_ok h (s := s) hd
  have hP : d ≤ du c e - du c s ↔ doneAt c s d ≤ e := by
    constructor
    · intro z
      exact Int.not_lt.mp fun w => g3 e hse w z
    · intro z
      have := du_mono' h z
      omega
  have hB := begunAt_ok h (e := e) (d := d) (by omega) hd
  refine ⟨cr c m b (some (.ow (dI s))) (some (.ow (dI e))) (some (.ow (dI d))) (some (.ow (.ol [dI (doneAt c s d), .sh y]))) (mo x7) (mo x8), by simp, some (.sh (oD (begunAt c e d))), some (dB (decide (d ≤ du c e - du c s))), ?_⟩
  by_cases z : d ≤ du c e - du c s
  · have z' := hP.mp z
    cases q : begunAt c e d with
    | none =>
      rw [q] at hB
      exact absurd z (hB s hs hse)
    | some f =>
      rw [q] at hB
      obtain ⟨b1, b2, b3, b4⟩ := hB
      have b5 : s ≤ f := Int.not_lt.mp fun w => b4 s w hse z
      rw [q] at e1
      simp [lb_law_calendar_right1, e1, i1, i2, z, z', oD, b5, D.isNone, -List.map_map]
  · have z' : ¬ doneAt c s d ≤ e := fun w => z (hP.mpr w)
    cases q : begunAt c e d with
    | none =>
      rw [q] at e1
      simp [lb_law_calendar_right1, e1, i1, i2, z, z', oD, D.isNone, -List.map_map]
    | some f =>
      rw [q] at hB
      obtain ⟨b1, b2, b3, b4⟩ := hB
      have b5 : ¬ s ≤ f := fun w => by
        have := du_mono' h w
        omega
      rw [q] at e1
      simp [lb_law_calendar_right1, e1, i1, i2, z, z', oD, b5, D.isNone, -List.map_map]
end
end L67

namespace L67
open PySem PySem.Spec PyProof.Rows L2 PL
theorem same_l (ds : List D) (hb : ∀ d ∈ ds, Bas d) (hl : ds.length ≤ 1000) (os : List O) (e : os = ds.map .sh) : (F_law_same 4).f [.ol os, .sh (.list ds)] = some (dB true, [.ol os, .sh (.list ds)]) := by
  subst e
  exact same_lst (.inl rfl) (.inr rfl) hb hl 2
theorem same_ll (ds : List D) (hb : ∀ d ∈ ds, Bas d) (hl : ds.length ≤ 1000) (os os' : List O) (e : os = ds.map .sh) (e' : os' = ds.map .sh) : (F_law_same 4).f [.ol os, .ol os'] = some (dB true, [.ol os, .ol os']) := by
  subst e e'
  exact same_lst (.inl rfl) (.inl rfl) hb hl 2
theorem bas_o (x : Option Int) : Bas (oD x) := by
  cases x with
  | none => exact .inr (.inl rfl)
  | some i => exact .inl ⟨i, rfl⟩
theorem bas_i (i : Int) : Bas (.int i) := .inl ⟨i, rfl⟩
theorem bas2 (i : Int) (x : Option Int) : ∀ d ∈ ([.int i, oD x] : List D), Bas d := by
  intro d hd
  simp only [List.mem_cons, List.not_mem_nil, or_false] at hd
  rcases hd with rfl | rfl
  · exact bas_i i
  · exact bas_o x
section
variable {c : List Int} (h : Cal c) (hl : c.length ≤ 31)
include h hl
theorem done_le {s d : Int} (hs : 0 ≤ s) (hd : 0 ≤ d) : doneAt c s d ≤ s + c.length * d := by
  obtain ⟨g1, g2, g3⟩ := doneAt_ok h (s := s) hd
  refine Int.not_lt.mp fun w => g3 (s + c.length * d) ?_ w ?_
  · have := Int.mul_nonneg (show (0 : Int) ≤ c.length by omega) hd
    omega
  · rw [du_shift h.pos]
    have := Int.mul_le_mul_of_nonneg_left (show 1 ≤ c.sum from h.sum_pos) hd
    omega
theorem stepB (m : Nat) (em : (m : Int) = 12 + 7 * c.length) (b : Bool) {s d : Int} (hs : 0 ≤ s) (hs2 : s < 12) (hd : 0 ≤ d) (hd2 : d < 7) (x4 x5 x6 x7 x8 : Option O) : ∃ ρ1 x4' x6' x7' x8', gN 5 (dI d) (cr c m b (some (.ow (dI s))) (mo x4) (mo x5) (mo x6) (mo x7) (mo x8)) = some ρ1 ∧
    lb_law_calendar_right2 ρ1 = some (.nx (cr c m (!b) (some (.ow (dI s))) (mo x4') (some (.ow (dI d))) (mo x6') (mo x7') (mo x8'))) := by
  have e1 := v_told_done h hl (s := s) (d := d) b (small_sm h hl (by omega)) (by omega) hs hd
  have e2 := v_told_begun h hl (s := s) (d := d) (!b) (small_sm h hl (by omega)) (by omega) hs hd
  have hdl := done_le h hl hs hd
  have hcd : (c.length : Int) * d ≤ c.length * 6 := Int.mul_le_mul_of_nonneg_left (by omega) (by omega)
  have e3 := v_law_done h hl m (by omega) hs (by omega) hd (by omega)
  have e4 := v_law_begun h hl m (by omega) (e := s) (d := d) hs (by omega) hd
  have e5 := same_l [.int (doneAt c s d), oD (begunAt c s d)] (bas2 _ _) (by simp) [dI (doneAt c s d), .sh (oD (begunAt c s d))] rfl
  obtain ⟨ρ', ⟨x4', x7', x8', rfl⟩, h2⟩ := for_all (gN 4) lb_law_calendar_right1 s
    (fun _ ρ => ∃ x4 x7 x8 : Option O, ρ = cr c m b (some (.ow (dI s))) (mo x4) (some (.ow (dI d))) (some (.ow (.ol [dI (doneAt c s d), .sh (oD (begunAt c s d))]))) (mo x7) (mo x8)) (12 - s).toNat
    (cr c m b (some (.ow (dI s))) (mo x4) (some (.ow (dI d))) (some (.ow (.ol [dI (doneAt c s d), .sh (oD (begunAt c s d))]))) (mo x7) (mo x8)) ⟨x4, x7, x8, rfl⟩ (by
      rintro i hi _ ⟨x4, x7, x8, rfl⟩
      obtain ⟨ρ1, q1, x7', x8', q2⟩ := stepC h hl m b (s := s) (e := s + i) (d := d) hs (by omega) (by omega) (by omega) hd (by omega) (oD (begunAt c s d)) x4 x7 x8
      exact ⟨ρ1, _, q1, .inl q2, some (dI (s + i)), x7', x8', rfl⟩)
  have r1 : rgOk s = true := rgOk_of (by omega) (by omega)
  have r2 : rgOk 12 = true := rgOk_of (by omega) (by omega)
  refine ⟨cr c m b (some (.ow (dI s))) (mo x4) (some (.ow (dI d))) (mo x6) (mo x7) (mo x8), x4', some (.ol [dI (doneAt c s d), .sh (oD (begunAt c s d))]), x7', x8', by simp, ?_⟩
  unfold lb_law_calendar_right2
  refine seq_nx (ρ1 := cr c m b (some (.ow (dI s))) (mo x4) (some (.ow (dI d))) (some (.ow (.ol [dI (doneAt c s d), .sh (oD (begunAt c s d))]))) (mo x7) (mo x8)) (by simp [e1, e2]) (seq_nx (ρ1 := cr c m b (some (.ow (dI s))) (mo x4) (some (.ow (dI d))) (some (.ow (.ol [dI (doneAt c s d), .sh (oD (begunAt c s d))]))) (mo x7) (mo x8)) (by simp [e3, e4, e5, ms_same, -List.map_map]) (seq_nx (for_nx (x := ⟨(List.range (12 - s).toNat).map fun i => PyData.int (s + (i : Nat)), none⟩) (by simp [r1, r2]) h2) (by simp)))
theorem stepO (m : Nat) (em : (m : Int) = 12 + 7 * c.length) (b : Bool) {s : Int} (hs : 0 ≤ s) (hs2 : s < 12) (x3 x4 x5 x6 x7 x8 : Option O) : ∃ ρ1 b' x4' x5' x6' x7' x8', gN 3 (dI s) (cr c m b (mo x3) (mo x4) (mo x5) (mo x6) (mo x7) (mo x8)) = some ρ1 ∧
    lb_law_calendar_right3 ρ1 = some (.nx (cr c m b' (some (.ow (dI s))) (mo x4') (mo x5') (mo x6') (mo x7') (mo x8'))) := by
  obtain ⟨ρ', ⟨b1, x4', rfl⟩, h2⟩ := for_all0 (gN 4) lb_law_calendar_right0
    (fun _ ρ => ∃ (b : Bool) (x4 : Option O), ρ = cr c m b (some (.ow (dI s))) (mo x4) (mo x5) (mo x6) (mo x7) (mo x8)) 12
    (cr c m b (some (.ow (dI s))) (mo x4) (mo x5) (mo x6) (mo x7) (mo x8)) ⟨b, x4, rfl⟩ (by
      rintro i hi _ ⟨b, x4, rfl⟩
      obtain ⟨ρ1, q1, q2⟩ := stepA h hl m b (s := s) (e := i) hs (by omega) (by omega) (by omega) (by omega) x4 x5 x6 x7 x8
      exact ⟨ρ1, _, q1, .inl q2, !b, some (dI i), rfl⟩)
  obtain ⟨ρ', ⟨b2, x4'', x5', x6', x7', x8', rfl⟩, h3⟩ := for_all0 (gN 5) lb_law_calendar_right2
    (fun _ ρ => ∃ (b : Bool) (x4 x5 x6 x7 x8 : Option O), ρ = cr c m b (some (.ow (dI s))) (mo x4) (mo x5) (mo x6) (mo x7) (mo x8)) 7
    (cr c m b1 (some (.ow (dI s))) (mo x4') (mo x5) (mo x6) (mo x7) (mo x8)) ⟨b1, x4', x5, x6, x7, x8, rfl⟩ (by
      rintro i hi _ ⟨b, x4, x5, x6, x7, x8, rfl⟩
      obtain ⟨ρ1, y4, y6, y7, y8, q1, q2⟩ := stepB h hl m em b (s := s) (d := i) hs hs2 (by omega) (by omega) x4 x5 x6 x7 x8
      exact ⟨ρ1, _, q1, .inl q2, !b, y4, some (dI i), y6, y7, y8, rfl⟩)
  have r2 : rgOk 12 = true := rgOk_of (by omega) (by omega)
  have r3 : rgOk 7 = true := rgOk_of (by omega) (by omega)
  refine ⟨cr c m b (some (.ow (dI s))) (mo x4) (mo x5) (mo x6) (mo x7) (mo x8), b2, x4'', x5', x6', x7', x8', by simp, ?_⟩
  unfold lb_law_calendar_right3
  exact seq_nx (for_nx (x := ⟨(List.range 12).map fun i => PyData.int (i : Nat), none⟩) (by simp [r2]) h2) (for_nx (x := ⟨(List.range 7).map fun i => PyData.int (i : Nat), none⟩) (by simp [r3, unlock]) h3)
theorem v_calendar_right (b : Bool) : F_law_calendar_right.f [cal c, dB b] = some (dB true, [cal c, dB b]) := by
  have em : ((12 + 7 * c.length : Nat) : Int) = 12 + 7 * c.length := by omega
  have hv := v_days h hl (12 + 7 * c.length) (by omega)
  rw [em] at hv
  have e1 : mulOk 7 c.length = true := Sm.mul (sm_of (by omega)) (sm_of (by omega))
  have r2 : rgOk 12 = true := rgOk_of (by omega) (by omega)
  obtain ⟨ρ', ⟨b', x3, x4, x5, x6, x7, x8, rfl⟩, h2⟩ := for_all0 (gN 3) lb_law_calendar_right3
    (fun _ ρ => ∃ (b : Bool) (x3 x4 x5 x6 x7 x8 : Option O), ρ = cr c (12 + 7 * c.length) b (mo x3) (mo x4) (mo x5) (mo x6) (mo x7) (mo x8)) 12
    (cr c (12 + 7 * c.length) b none none none none none none) ⟨b, none, none, none, none, none, none, rfl⟩ (by
      rintro i hi _ ⟨b, x3, x4, x5, x6, x7, x8, rfl⟩
      obtain ⟨ρ1, b', y4, y5, y6, y7, y8, q1, q2⟩ := stepO h hl (12 + 7 * c.length) em b (s := i) (by omega) (by omega) x3 x4 x5 x6 x7 x8
      exact ⟨ρ1, _, q1, .inl q2, b', some (dI i), y4, y5, y6, y7, y8, rfl⟩)
  have p0 : ∀ (F : FS) (r : O), F.ms = [.br, .br] → F.f [cal c, dI (12 + 7 * c.length)] = some (r, [cal c, dI (12 + 7 * c.length)]) → callF F (aCons (opV 0) (aCons (opE (frD (sBin uAdd (opE (dC (.int 12))) (opE (frD (sBin uMul (opE (dC (.int 7))) (opE (frD (sCall uLen (aCons (opV 0) aNil)))))))))) aNil)) [some (.pa false (cal c)), some (.ow (dB b)), none, none, none, none, none, none, none] = some (r, [some (.pa false (cal c)), some (.ow (dB b)), none, none, none, none, none, none, none]) := by
    intro F r hm hv
    simp [hm, hv, e1]
  have p1 : b_law_calendar_right [some (.pa false (cal c)), some (.ow (dB b)), none, none, none, none, none, none, none] = some (.rt (dB true) (cr c (12 + 7 * c.length) b' (mo x3) (mo x4) (mo x5) (mo x6) (mo x7) (mo x8))) :=
    seq_nx (ρ1 := cr c (12 + 7 * c.length) b none none none none none none) (asg_ok (p0 F_law_days _ rfl hv) rfl) (seq_nx (for_nx (x := ⟨(List.range 12).map fun i => PyData.int (i : Nat), none⟩) (by simp [r2]) h2) (by simp))
  exact run_rt (ρ0 := [some (.pa false (cal c)), some (.ow (dB b))]) rfl p1 rfl
end
end L67

namespace L67
open PySem PySem.Spec PyProof.Rows L2 PL
theorem eq_nil (fs : List D) (hs : SeqAt.shaped (.list fs) = true) : uEq (.sh (.list fs)) (.sh (.list [])) = some (dB fs.isEmpty) := by
  have h0 : SeqAt.shaped (.list []) = true := by decide
  unfold uEq shp
  simp only [ev_sht, hs, h0, Bool.and_self, if_true]
  cases fs <;> rfl
abbrev jr (B C R : Option Bd) (b : Bool) (d : D) (x5 : Option O) : Ev := [B, C, some (.ow (dB b)), R, some (.ow (.sh d)), mo x5, none]
theorem comp_bad (B C R V X : Option Bd) (b : Bool) : ∀ ds : List D, compF [6] (gN 6) (bOr (toB (frD (sUn (uIsi "bool") (opV 6)))) (bOr (bNot (toB (frD (sUn (uIsi "int") (opV 6))))) (toB (frD (sBin (uIn true) (opV 6) (opE (frD (sCall uTup (aCons (opE (dC (.int 0))) (aCons (opE (dC (.int 1))) aNil)))))))))) (toO (dVar 6)) ds [B, C, some (.ow (dB b)), R, V, X, none] = some ((ds.filter fun d => !okIt d).map .sh, [B, C, some (.ow (dB b)), R, V, X, none])
  | [] => by simp
  | d :: ds => by
    have ih := comp_bad B C R V X b ds
    cases d with
    | int i =>
      by_cases z : (i == 0 || i == 1) = true
      · simp [ev_cp1, ih, in01, okIt, z, tyO, tyD, instOf, clsOk]
      · simp only [Bool.not_eq_true] at z
        simp [ev_cp1, ih, in01, okIt, z, tyO, tyD, instOf, clsOk]
    | _ => simp [ev_cp1, ih, okIt, tyO, tyD, instOf, clsOk]
theorem isCal_due (ds : List D) (h1 : 1 ≤ ds.length) (h2 : ds.length ≤ 31) : isCal ds = ((ds.any fun z => PyData.eqv z (.int 1)) && (ds.filter fun d => !okIt d).isEmpty) := by
  unfold isCal
  rw [decide_eq_true h1, decide_eq_true h2]
  have : (ds.filter fun d => !okIt d).isEmpty = ds.all okIt := by
    rw [Bool.eq_iff_iff, List.isEmpty_iff, List.filter_eq_nil_iff, List.all_eq_true]
    simp
  rw [this]
  simp [Bool.and_comm]
theorem same_b (i : Bool) : (F_law_same 4).f [dB i, dB i] = some (dB true, [dB i, dB i]) := same_bas (.inr (.inr ⟨i, rfl⟩)) 3
theorem stepJT (B C R : Option Bd) (b : Bool) (ds : List D) (hs : ∀ x ∈ ds, shd 3 x) (hlen : ds.length ≤ 1000) (x5 : Option O) : ∃ x5', lb_law_judged_right0 (jr B C R b (.tuple ds) x5) = some (.nx (jr B C R (!b) (.tuple ds) (some x5'))) := by
  have s1 : SeqAt.shaped (.tuple ds) = true := (shd_tup hs).ok (by decide)
  have s2 : SeqAt.shaped (.list (ds.filter fun d => !okIt d)) = true := (shd_lst fun x hx => hs x (List.mem_filter.mp hx).1).ok (by decide)
  have e1 : uIn false (dI 1) (.sh (.tuple ds)) = some (dB (ds.any fun z => PyData.eqv z (.int 1))) := by
    simp [uIn, s1]
  have e2 := eq_nil _ s2
  have e3 : ds.length < 16777216 := by omega
  refine ⟨dB (isCal ds), ?_⟩
  have key : ∀ (F : FS), F.ms = [.br] → F.f [.sh (.tuple ds)] = some (dB (isCal ds), [.sh (.tuple ds)]) → ∀ G : FS, G.ms = [.br, .br] → G.f [dB (isCal ds), dB (isCal ds)] = some (dB true, [dB (isCal ds), dB (isCal ds)]) → True := fun _ _ _ _ _ _ => trivial
  by_cases h1 : 1 ≤ ds.length
  · have h1' : 0 < ds.length := h1
    by_cases h2 : ds.length ≤ 31
    · have h2' : (ds.length : Int) < 32 := by omega
      have hd := isCal_due ds h1 h2
      by_cases h3 : (ds.any fun z => PyData.eqv z (.int 1)) = true
      · rw [h3, Bool.true_and] at hd
        rw [h3] at e1
        rw [← hd] at e2
        cases b <;> simp [lb_law_judged_right0, tyO, tyD, instOf, clsOk, h1', h2', h3, e1, e2, e3, comp_bad, v_is_calendarT, same_b, ms_same, reord]
      · simp only [Bool.not_eq_true] at h3
        rw [h3, Bool.false_and] at hd
        rw [h3] at e1
        cases b <;> simp [lb_law_judged_right0, tyO, tyD, instOf, clsOk, h1', h2', h3, e1, hd, v_is_calendarT, same_b, ms_same, reord]
    · have h2' : ¬ (ds.length : Int) < 32 := by omega
      have hd : isCal ds = false := by unfold isCal; simp [h2]
      cases b <;> simp [lb_law_judged_right0, tyO, tyD, instOf, clsOk, h1', h2', hd, v_is_calendarT, same_b, ms_same, reord]
  · have h1' : ¬ 0 < ds.length := by omega
    have hd : isCal ds = false := by unfold isCal; simp [h1]
    cases b <;> simp [lb_law_judged_right0, tyO, tyD, instOf, clsOk, h1', hd, v_is_calendarT, same_b, ms_same, reord]
theorem stepJN (B C R : Option Bd) (b : Bool) (d : D) (hd : tyD d ≠ "tuple") (x5 : Option O) : ∃ x5', lb_law_judged_right0 (jr B C R b d x5) = some (.nx (jr B C R (!b) d (some x5'))) := by
  refine ⟨dB false, ?_⟩
  have e := v_is_calendarN d hd
  have hd' : tyD d = "tuple" ↔ False := iff_false_intro hd
  cases b <;> simp [lb_law_judged_right0, tyO, instOf, clsOk, hd', e, same_b, ms_same, reord]
end L67

namespace PL
open PySem
theorem for_list (g : XG) (f : XS) (P : Ev → Prop) : ∀ (ds : List D) (ρ : Ev), P ρ → (∀ d ∈ ds, ∀ ρ, P ρ → ∃ ρ1 ρ2, g (.sh d) ρ = some ρ1 ∧ (f ρ1 = some (.nx ρ2) ∨ f ρ1 = some (.ct ρ2)) ∧ P ρ2) → ∃ ρ', P ρ' ∧ forF g f ds ρ = some (.nx ρ')
  | [], ρ, h, _ => ⟨ρ, h, rfl⟩
  | d :: ds, ρ, h, hs => by
    obtain ⟨ρ1, ρ2, e1, e2, h2⟩ := hs d List.mem_cons_self ρ h
    obtain ⟨ρ', h3, e3⟩ := for_list g f P ds ρ2 h2 fun x hx => hs x (List.mem_cons_of_mem _ hx)
    refine ⟨ρ', h3, ?_⟩
    rw [ev_for1, e1]
    rcases e2 with e2 | e2 <;> simp only [bnd_some, e2, e3]
theorem ev_catOL {os : List O} {xs ys : List D} (e : O.shs os = some xs) (h : xs.length + ys.length ≤ 1000) : uAdd (.ol os) (.sh (.list ys)) = some (.ol ((xs ++ ys).map .sh)) := by
  have h' : xs.length + ys.length ≤ 16777216 := Nat.le_trans h (by decide)
  unfold uAdd uAddI uII uCatL
  simp [e, h']
theorem bin_ok {u : O → O → Option O} {p q : XP} {ρ ρ1 ρ2 : Ev} {x y : Opd} {o1 o2 o : O} (h1 : p ρ = some (x, ρ1)) (h2 : q ρ1 = some (y, ρ2)) (h3 : x.o ρ2 = some o1) (h4 : y.o ρ2 = some o2) (h5 : u o1 o2 = some o) : sBin u p q ρ = some (o, ρ2) := by
  rw [ev_sBin, h1, bnd_some, h2, bnd_some, h3, bnd_some, h4, bnd_some, h5]
  rfl
theorem seqI {f : XD} {ρ ρ1 : Ev} {ds : List D} (h : f ρ = some (.list ds, ρ1)) : iSeq f ρ = some (⟨ds, none⟩, ρ1) := by
  unfold iSeq
  rw [h]
theorem frD_ok {f : XF} {ρ ρ1 : Ev} {o : O} (h : f ρ = some (o, ρ1)) : frD f ρ = some (o.toD, ρ1) := by
  unfold frD
  rw [h]
  rfl
end PL
namespace L67
open PySem PySem.Spec PyProof.Rows L2 PL
abbrev rows1 (c r31 z : List Int) : List D := [.tuple (c.map .int), .list (c.map .int), .tuple (r31.map .int), .tuple (z.map .int), .tuple [], .none, .int 7, .str (Str.ofString "1"), .tuple [.int 1, .int 2], .tuple [.bool true], .tuple [.int 1, .str (Str.ofString "0")], .tuple [.int (-1), .int 1]]
abbrev rows2 (c : List Int) : List D := [.tuple (c.map .int ++ [.none]), .tuple [.tuple (c.map .int)], .tuple [.tuple [.int 1]], .dict [(.int 1, .int 1)], .tuple (c.map .int ++ [.int 2]), .tuple [.bool false, .int 1]]
theorem rep_ints {c : List Int} {k : Int} (hc : c ≠ []) (h1 : 1 ≤ k) (h2 : k ≤ 1000) (h3 : c.length ≤ 1000) : ∃ r : List Int, uMul (cal c) (dI k) = some (cal r) ∧ (r.length : Int) = k * c.length := by
  by_cases z : k = 1
  · subst z
    exact ⟨c, by simp, by omega⟩
  · refine ⟨(List.replicate k.toNat c).flatten, ?_, ?_⟩
    · have e : 2 ≤ k ∧ k ≤ 1000 ∧ c.length ≤ 1000 := ⟨by omega, h2, h3⟩
      simp [z, hc, e, List.map_flatten, List.map_replicate]
    · rw [List.length_flatten, List.map_replicate, List.sum_replicate_nat]
      push_cast
      congr 1
      omega
theorem v_judged {c : List Int} (h : Cal c) (hl : c.length ≤ 31) (box : O) (b : Bool) : F_law_judged_right.f [box, cal c, dB b] = some (dB true, [box, cal c, dB b]) := by
  have n0 := h.pos
  have hc : c ≠ [] := fun z => by rw [z] at n0; simp at n0
  obtain ⟨r31, e31, l31⟩ := rep_ints (c := c) (k := 31) hc (by omega) (by omega) (by omega)
  obtain ⟨z, ez, lz⟩ := rep_ints (c := [0]) (k := c.length) (by simp) (by omega) (by omega) (by simp)
  have e31' : uMul (.sh (.tuple (c.map .int))) (.sh (.int 31)) = some (cal r31) := e31
  have ez' : uMul (.sh (.tuple [.int 0])) (.sh (.int c.length)) = some (cal z) := by simpa using ez
  have hA : (xAsg (sCall uLst (aCons (opE (dVar 1)) (aCons (opE (frD (sCall uListOf (aCons (opV 1) aNil)))) (aCons (opE (frD (sBin uMul (opV 1) (opE (dC (.int 31)))))) (aCons (opE (frD (sBin uMul (opE (frD (sCall uTup (aCons (opE (dC (.int 0))) aNil)))) (opE (frD (sCall uLen (aCons (opV 1) aNil))))))) (aCons (opE (frD (sCall uTup aNil))) (aCons (opE (dC .none)) (aCons (opE (dC (.int 7))) (aCons (opE (dC (.str ("1" : Str)))) (aCons (opE (frD (sCall uTup (aCons (opE (dC (.int 1))) (aCons (opE (dC (.int 2))) aNil))))) (aCons (opE (frD (sCall uTup (aCons (opE (dC (.bool true))) aNil)))) (aCons (opE (frD (sCall uTup (aCons (opE (dC (.int 1))) (aCons (opE (dC (.str ("0" : Str)))) aNil))))) (aCons (opE (frD (sCall uTup (aCons (opE (frD (sUn uNegI (opE (dC (.int 1)))))) (aCons (opE (dC (.int 1))) aNil))))) aNil))))))))))))) (gN 3)) [some (.pa false box), some (.ow (cal c)), some (.ow (dB b)), none, none, none, none] = some (.nx [some (.pa false box), some (.ow (cal c)), some (.ow (dB b)), some (.ow (.ol ((rows1 c r31 z).map .sh))), none, none, none]) := by
    simp [e31', ez', -ev_repT, -ev_ixO, -List.map_map]
  have hl1 : c.length + 1 ≤ 16777216 := by omega
  have hB : (opE (frD (sCall uLst (aCons (opE (frD (sBin uAdd (opV 1) (opE (frD (sCall uTup (aCons (opE (dC .none)) aNil))))))) (aCons (opE (frD (sCall uTup (aCons (opE (dVar 1)) aNil)))) (aCons (opE (frD (sCall uTup (aCons (opE (frD (sCall uTup (aCons (opE (dC (.int 1))) aNil)))) aNil)))) (aCons (opE (frD (sDict1 1 1))) (aCons (opE (frD (sBin uAdd (opV 1) (opE (frD (sCall uTup (aCons (opE (dC (.int 2))) aNil))))))) (aCons (opE (frD (sCall uTup (aCons (opE (dC (.bool false))) (aCons (opE (dC (.int 1))) aNil))))) aNil))))))))) [some (.pa false box), some (.ow (cal c)), some (.ow (dB b)), some (.ow (.ol ((rows1 c r31 z).map .sh))), none, none, none] = some (.vl (.list (rows2 c)), [some (.pa false box), some (.ow (cal c)), some (.ow (dB b)), some (.ow (.ol ((rows1 c r31 z).map .sh))), none, none, none]) := by
    simp [hl1, -List.map_map]
  have hC : (sBin uAdd (opV 3) (opE (frD (sCall uLst (aCons (opE (frD (sBin uAdd (opV 1) (opE (frD (sCall uTup (aCons (opE (dC .none)) aNil))))))) (aCons (opE (frD (sCall uTup (aCons (opE (dVar 1)) aNil)))) (aCons (opE (frD (sCall uTup (aCons (opE (frD (sCall uTup (aCons (opE (dC (.int 1))) aNil)))) aNil)))) (aCons (opE (frD (sDict1 1 1))) (aCons (opE (frD (sBin uAdd (opV 1) (opE (frD (sCall uTup (aCons (opE (dC (.int 2))) aNil))))))) (aCons (opE (frD (sCall uTup (aCons (opE (dC (.bool false))) (aCons (opE (dC (.int 1))) aNil))))) aNil)))))))))) [some (.pa false box), some (.ow (cal c)), some (.ow (dB b)), some (.ow (.ol ((rows1 c r31 z).map .sh))), none, none, none] = some (.ol ((rows1 c r31 z ++ rows2 c).map .sh), [some (.pa false box), some (.ow (cal c)), some (.ow (dB b)), some (.ow (.ol ((rows1 c r31 z).map .sh))), none, none, none]) := by
    exact bin_ok (x := .sl 3) rfl hB rfl rfl (ev_catOL (O.shs_map _) (by simp))
  have sI : ∀ (l : List Int) (x : D), x ∈ l.map PyData.int → shd 3 x := fun l x hx => by
    obtain ⟨i, _, rfl⟩ := List.mem_map.mp hx
    exact (shd_int i).mono (by decide)
  have sB : ∀ b : Bool, shd 3 (.bool b) := fun b => ⟨rfl, Nat.zero_le _⟩
  have sN : shd 3 .none := ⟨rfl, Nat.zero_le _⟩
  have s0 : shd 3 (.str (Str.ofString "0")) := ⟨by decide +kernel, Nat.zero_le _⟩
  have si : ∀ i : Int, shd 3 (.int i) := fun i => (shd_int i).mono (by decide)
  have sT : ∀ l : List Int, shd 3 (.tuple (l.map .int)) := fun l => (shd_ints l).mono (by decide)
  have hD : ∀ d ∈ rows1 c r31 z ++ rows2 c, (∃ ds, d = .tuple ds ∧ (∀ x ∈ ds, shd 3 x) ∧ ds.length ≤ 1000) ∨ tyD d ≠ "tuple" := by
    intro d hd
    simp only [List.mem_append, List.mem_cons, List.not_mem_nil, or_false] at hd
    rcases hd with (rfl | rfl | rfl | rfl | rfl | rfl | rfl | rfl | rfl | rfl | rfl | rfl) | (rfl | rfl | rfl | rfl | rfl | rfl)
    · exact .inl ⟨_, rfl, sI c, by rw [List.length_map]; omega⟩
    · exact .inr (by simp [tyD])
    · exact .inl ⟨_, rfl, sI r31, by rw [List.length_map]; omega⟩
    · exact .inl ⟨_, rfl, sI z, by rw [List.length_map]; simp at lz; omega⟩
    · exact .inl ⟨_, rfl, by simp, by simp⟩
    · exact .inr (by simp [tyD])
    · exact .inr (by simp [tyD])
    · exact .inr (by simp [tyD])
    · exact .inl ⟨_, rfl, by simp [si], by simp⟩
    · exact .inl ⟨_, rfl, by simp [sB], by simp⟩
    · exact .inl ⟨_, rfl, by simp [si, s0], by simp⟩
    · exact .inl ⟨_, rfl, by simp [si], by simp⟩
    · refine .inl ⟨_, rfl, fun x hx => ?_, by simp; omega⟩
      rcases List.mem_append.mp hx with hx | hx
      · exact sI c x hx
      · simp only [List.mem_cons, List.not_mem_nil, or_false] at hx
        rw [hx]; exact sN
    · exact .inl ⟨_, rfl, by simpa using sT c, by simp⟩
    · exact .inl ⟨_, rfl, by simpa using sT [1], by simp⟩
    · exact .inr (by simp [tyD])
    · refine .inl ⟨_, rfl, fun x hx => ?_, by simp; omega⟩
      rcases List.mem_append.mp hx with hx | hx
      · exact sI c x hx
      · simp only [List.mem_cons, List.not_mem_nil, or_false] at hx
        rw [hx]; exact si 2
    · exact .inl ⟨_, rfl, by simp [sB, si], by simp⟩
  obtain ⟨ρ', ⟨b', y, x5, rfl⟩, h2⟩ := for_list (gN 4) lb_law_judged_right0 (fun ρ => ∃ (b : Bool) (y x5 : Option O), ρ = [some (.pa false box), some (.ow (cal c)), some (.ow (dB b)), some (.ow (.ol ((rows1 c r31 z).map .sh))), mo y, mo x5, none]) (rows1 c r31 z ++ rows2 c) [some (.pa false box), some (.ow (cal c)), some (.ow (dB b)), some (.ow (.ol ((rows1 c r31 z).map .sh))), none, none, none] ⟨b, none, none, rfl⟩ (by
    rintro d hd _ ⟨b, y, x5, rfl⟩
    refine ⟨jr (some (.pa false box)) (some (.ow (cal c))) (some (.ow (.ol ((rows1 c r31 z).map .sh)))) b d x5, ?_⟩
    rcases hD d hd with ⟨ds, rfl, q1, q2⟩ | q
    · obtain ⟨w, e⟩ := stepJT (some (.pa false box)) (some (.ow (cal c))) (some (.ow (.ol ((rows1 c r31 z).map .sh)))) b ds q1 q2 x5
      exact ⟨_, by simp, .inl e, !b, some (.sh (.tuple ds)), some w, rfl⟩
    · obtain ⟨w, e⟩ := stepJN (some (.pa false box)) (some (.ow (cal c))) (some (.ow (.ol ((rows1 c r31 z).map .sh)))) b d q x5
      exact ⟨_, by simp, .inl e, !b, some (.sh d), some w, rfl⟩)
  have p1 : b_law_judged_right [some (.pa false box), some (.ow (cal c)), some (.ow (dB b)), none, none, none, none] = some (.rt (dB true) [some (.pa false box), some (.ow (cal c)), some (.ow (dB b')), some (.ow (.ol ((rows1 c r31 z).map .sh))), mo y, mo x5, none]) :=
    seq_nx hA (seq_nx (for_nx (seqI (by rw [frD_ok hC, ev_olt, ev_tdsm])) h2) (by simp [-List.map_cons]))
  exact run_rt (ρ0 := [some (.pa false box), some (.ow (cal c)), some (.ow (dB b))]) rfl p1 rfl
end L67

namespace L67
open PySem PySem.Spec PyProof.Rows L2 PL
abbrev bx (b0 : Int) (b1 : Bool) (b2 b3 : Int) : O := .ol [dI b0, dB b1, dI b2, dI b3]
structure BoxOk (n : Int) (o : O) : Prop where
  ex : ∃ b0 b1 b2 b3, o = bx b0 b1 b2 b3 ∧ 0 ≤ b0 ∧ 0 ≤ b2 ∧ b2 < 2147483629 ∧ 0 ≤ b3 ∧ b3 ≤ n
theorem powOk_of {i j : Int} (h0 : 0 ≤ j) (h1 : j ≤ 1000) (h : i.natAbs ≤ 1000000000000000) : powOk i j = true := by
  unfold powOk
  rw [decide_eq_true h0, decide_eq_true h1, decide_eq_true (show i.natAbs < 2 ^ 4096 from Nat.lt_of_le_of_lt h (Nat.lt_of_lt_of_le (by decide : 1000000000000000 < 2 ^ 100) (Nat.pow_le_pow_right (by decide) (by decide))))]
  rfl
theorem ix40 : ixN 4 0 = some 0 := rfl
theorem ix43 : ixN 4 3 = some 3 := rfl
theorem v_take {n : Int} {box : O} (hb : BoxOk n box) (hn : n ≤ 1000000) {many : Int} (h0 : 0 < many) (h1 : many ≤ 1000000000) : ∃ r box', F_law_take.f [box, dI many] = some (dI r, [box', dI many]) ∧ 0 ≤ r ∧ r < many ∧ BoxOk (n + 1) box' := by
  obtain ⟨b0, b1, b2, b3, rfl, g0, g2, g2', g3, g3'⟩ := hb.ex
  have em : modOk b0 many = true := modOk_of h0
  have ed : divOk b0 many = true := divOk_of h0 (by omega)
  by_cases z : b1 = true ∧ 0 < b0
  · obtain ⟨rfl, z⟩ := z
    refine ⟨b0 % many, bx (b0 / many) true b2 b3, ?_, Int.emod_nonneg _ (by omega), Int.emod_lt_of_pos _ h0, ⟨b0 / many, true, b2, b3, rfl, Int.ediv_nonneg g0 (by omega), g2, g2', g3, by omega⟩⟩
    simp [F_law_take, b_law_take, z, em, ed, ix40]
  · have hP : powOk (b2 + 15486413 * (b3 + 1) + 179424989) 5 = true := powOk_of (by omega) (by omega) (by omega)
    have hM1 : mulOk 15486413 (b3 + 1) = true := Sm.mul (sm_of (by omega)) (sm_of (by omega))
    generalize hx : (b2 + 15486413 * (b3 + 1) + 179424989) ^ 5 % 2147483647 = x
    have hx0 : 0 ≤ x := by rw [← hx]; exact Int.emod_nonneg _ (by omega)
    have hx1 : x < 2147483647 := by rw [← hx]; exact Int.emod_lt_of_pos _ (by omega)
    have hM2 : mulOk x 48271 = true := Sm.mul (sm_of (by omega)) (sm_of (by omega))
    have hM3 : mulOk 7393 (b3 + 1) = true := Sm.mul (sm_of (by omega)) (sm_of (by omega))
    have hP2 : powOk (x * 48271 + 7393 * (b3 + 1)) 3 = true := powOk_of (by omega) (by omega) (by omega)
    have m1 : ∀ i, modOk i 2147483647 = true := fun i => modOk_of (by omega)
    have m2 : ∀ i, modOk i 2147483587 = true := fun i => modOk_of (by omega)
    have m3 : ∀ i, modOk i many = true := fun i => modOk_of h0
    have d1 : ∀ i, divOk i 64 = true := fun i => divOk_of (by omega) (by omega)
    refine ⟨(x * 48271 + 7393 * (b3 + 1)) ^ 3 % 2147483587 / 64 % many, bx b0 b1 b2 (b3 + 1), ?_, Int.emod_nonneg _ (by omega), Int.emod_lt_of_pos _ h0, ⟨b0, b1, b2, b3 + 1, rfl, g0, g2, g2', by omega, by omega⟩⟩
    cases b1 with
    | false => simp [F_law_take, b_law_take, hP, hM1, hx, hM2, hM3, hP2, m1, m2, m3, d1, ix43]
    | true =>
      have z' : ¬ 0 < b0 := fun w => z ⟨rfl, w⟩
      simp [F_law_take, b_law_take, z', hP, hM1, hx, hM2, hM3, hP2, m1, m2, m3, d1, ix43]
theorem v_box (g : Int) : ∃ box, F_law_box.f [dI g] = some (box, [dI g]) ∧ BoxOk 0 box := by
  have hp : powOk 10 18 = true := powOk_of (by omega) (by omega) (by omega)
  have hm : ∀ i, modOk i 2147483629 = true := fun i => modOk_of (by omega)
  refine ⟨bx (if g < 0 then -g else g) (decide (10 ^ 18 ≤ (if g < 0 then -g else g))) ((if g < 0 then -g else g) % 2147483629) 0, ?_, ⟨_, _, _, _, rfl, ?_, Int.emod_nonneg _ (by omega), Int.emod_lt_of_pos _ (by omega), by omega, by omega⟩⟩
  · simp [F_law_box, b_law_box, hp, hm]
  · split <;> omega
theorem v_cell (ns : List Int) (k : Nat) (hk : k ≤ 1000) : ∃ g, F_law_cell.f [.sh (.list (ns.map .int)), dI k] = some (dI g, [.sh (.list (ns.map .int)), dI k]) := by
  have hm : mulOk 7369 k = true := Sm.mul (sm_of (by omega)) (sm_of (by omega))
  have hd : ∀ i, modOk i 1000037 = true := fun i => modOk_of (by omega)
  by_cases z : k < ns.length
  · have e := atI_nat (xs := ns.map PyData.int) (j := k) (v := .int ns[k]) (by rw [List.getElem?_map, List.getElem?_eq_getElem z]; rfl)
    exact ⟨ns[k], by simp [F_law_cell, b_law_cell, z, e, -List.map_map]⟩
  · have e : ∃ c : List Int, PL.cutD (ns.map PyData.int) none (some 1) = c.map .int := by
      unfold PL.cutD
      exact ⟨_, by rw [← List.map_drop, ← List.map_take]⟩
    obtain ⟨c, e⟩ := e
    exact ⟨7369 * k + c.sum % 1000037, by simp [F_law_cell, b_law_cell, z, e, hm, hd, -List.map_map]⟩
end L67

namespace PL
open PySem L2
theorem comp_map {vs : List Nat} {g : XG} {c : XB} {e : XF} {ρ : Ev} (fo : D → D) : ∀ {ds : List D}, (∀ d ∈ ds, ∃ ρ1, g (.sh d) ρ = some ρ1 ∧ c ρ1 = some (true, ρ1) ∧ e ρ1 = some (.sh (fo d), ρ1) ∧ wipeE ρ1 vs = ρ) → compF vs g c e ds ρ = some ((ds.map fo).map .sh, ρ)
  | [], _ => rfl
  | d :: ds, h => by
    obtain ⟨ρ1, e1, e2, e3, e4⟩ := h d List.mem_cons_self
    have ih := comp_map (vs := vs) (g := g) (c := c) (e := e) (ρ := ρ) fo fun x hx => h x (List.mem_cons_of_mem _ hx)
    rw [ev_cp1, e1]
    simp only [bnd_some, e2, if_true, e3, e4, ih, mpo_some, List.map_cons]
theorem ev_catLL {xs ys : List D} (h : xs.length + ys.length ≤ 1000) : uAdd (.sh (.list xs)) (.sh (.list ys)) = some (.ol ((xs ++ ys).map .sh)) := by
  have h' : xs.length + ys.length ≤ 16777216 := Nat.le_trans h (by decide)
  unfold uAdd uAddI uII uCatL
  simp [h']
end PL
namespace L67
open PySem PySem.Spec PyProof.Rows L2 PL
abbrev cs (box : O) (x1 : Option O) (many way : Int) (x4 : Option O) : Ev := [some (.pa true box), mo x1, some (.ow (dI many)), some (.ow (dI way)), mo x4, none]
theorem cal_first {n : Int} {box : O} (hb : BoxOk n box) (hn : n ≤ 100000) : ∃ many way box', xAsg (sCall uTup (aCons (opE (frD (sBin uAdd (opE (dC (.int 1))) (opE (frD (callF F_law_take (aCons (opV 0) (aCons (opE (frD (sBin uIx (opE (frD (sCall uLst (aCons (opE (dC (.int 3))) (aCons (opE (dC (.int 7))) (aCons (opE (dC (.int 14))) aNil)))))) (opE (frD (callF F_law_take (aCons (opV 0) (aCons (opE (dC (.int 3))) aNil)))))))) aNil)))))))) (aCons (opE (frD (callF F_law_take (aCons (opV 0) (aCons (opE (dC (.int 4))) aNil))))) aNil))) (gTup 2 (gsCons (gN 2) (gsCons (gN 3) gsNil))) [some (.pa true box), none, none, none, none, none] = some (.nx (cs box' none many way none)) ∧ 1 ≤ many ∧ many ≤ 14 ∧ 0 ≤ way ∧ BoxOk (n + 3) box' := by
  obtain ⟨r1, B1, e1, a1, a2, k1⟩ := v_take hb (by omega) (many := 3) (by omega) (by omega)
  obtain ⟨j, ej, j1, j2⟩ : ∃ j : Int, L2.atI [PyData.int 3, .int 7, .int 14] r1 = some (.int j) ∧ 1 ≤ j ∧ j ≤ 14 := by
    have : r1 = 0 ∨ r1 = 1 ∨ r1 = 2 := by omega
    rcases this with rfl | rfl | rfl
    · exact ⟨3, by simp, by omega, by omega⟩
    · exact ⟨7, by simp, by omega, by omega⟩
    · exact ⟨14, by simp, by omega, by omega⟩
  obtain ⟨r2, B2, e2, b1, b2, k2⟩ := v_take k1 (by omega) (many := j) (by omega) (by omega)
  obtain ⟨r3, B3, e3, c1, c2, k3⟩ := v_take k2 (by omega) (many := 4) (by omega) (by omega)
  refine ⟨1 + r2, r3, B3, ?_, by omega, by omega, c1, ?_⟩
  · obtain ⟨_, _, _, _, rfl, _⟩ := hb.ex
    obtain ⟨_, _, _, _, rfl, _⟩ := k1.ex
    obtain ⟨_, _, _, _, rfl, _⟩ := k2.ex
    obtain ⟨_, _, _, _, rfl, _⟩ := k3.ex
    simp [e1, ej, e2, e3]
  · have : n + 1 + 1 + 1 = n + 3 := by omega
    rw [← this]; exact k3
theorem comp_takes (x1 x4 : Option O) (many way : Int) : ∀ (l : List Nat) {n : Int} {box : O}, BoxOk n box → n + l.length ≤ 1000000 → ∃ (c : List Int) (box' : O), compF [5] (gN 5) (fun ρ => some (true, ρ)) (sIf (toB (frD (sBin uEq (opV 3) (opE (dC (.int 2)))))) (sCall uInt (aCons (opE (frD (sBin uGtI (opE (frD (callF F_law_take (aCons (opV 0) (aCons (opE (dC (.int 4))) aNil))))) (opE (dC (.int 0)))))) aNil)) (sCall uInt (aCons (opE (frD (sBin uEq (opE (frD (callF F_law_take (aCons (opV 0) (aCons (opE (dC (.int 4))) aNil))))) (opE (dC (.int 0)))))) aNil))) (l.map fun k => PyData.int (k : Nat)) (cs box x1 many way x4) = some ((c.map .int).map .sh, cs box' x1 many way x4) ∧ (∀ x ∈ c, x = 0 ∨ x = 1) ∧ c.length = l.length ∧ BoxOk (n + l.length) box'
  | [], n, box, hb, _ => ⟨[], box, rfl, by simp, rfl, by simpa using hb⟩
  | k :: l, n, box, hb, hn => by
    simp only [List.length_cons] at hn
    obtain ⟨r, B1, e1, a1, a2, k1⟩ := v_take hb (by omega) (many := 4) (by omega) (by omega)
    obtain ⟨c, B2, q1, q2, q3, q4⟩ := comp_takes x1 x4 many way l k1 (by omega)
    by_cases w : way = 2
    · refine ⟨(if 0 < r then 1 else 0) :: c, B2, ?_, ?_, by simp [q3], ?_⟩
      · obtain ⟨_, _, _, _, rfl, _⟩ := hb.ex
        obtain ⟨_, _, _, _, rfl, _⟩ := k1.ex
        rw [List.map_cons, ev_cp1]
        simp [w, e1, -List.map_map] at q1 ⊢
        simp [q1, -List.map_map]
      · intro x hx
        rcases List.mem_cons.mp hx with rfl | hx
        · split <;> simp
        · exact q2 x hx
      · rw [List.length_cons]
        have : n + 1 + (l.length : Int) = n + ((l.length + 1 : Nat) : Int) := by omega
        rw [← this]; exact q4
    · refine ⟨(if r = 0 then 1 else 0) :: c, B2, ?_, ?_, by simp [q3], ?_⟩
      · obtain ⟨_, _, _, _, rfl, _⟩ := hb.ex
        obtain ⟨_, _, _, _, rfl, _⟩ := k1.ex
        rw [List.map_cons, ev_cp1]
        simp [w, e1, -List.map_map] at q1 ⊢
        simp [q1, -List.map_map]
      · intro x hx
        rcases List.mem_cons.mp hx with rfl | hx
        · split <;> simp
        · exact q2 x hx
      · rw [List.length_cons]
        have : n + 1 + (l.length : Int) = n + ((l.length + 1 : Nat) : Int) := by omega
        rw [← this]; exact q4
end L67

namespace PL
open PySem L2
theorem if_t {c : XB} {f g : XS} {ρ ρ1 : Ev} {r : Option Res} (h : c ρ = some (true, ρ1)) (h' : f ρ1 = r) : xIf c f g ρ = r := by
  unfold xIf
  rw [h]
  exact h'
theorem if_f {c : XB} {f g : XS} {ρ ρ1 : Ev} {r : Option Res} (h : c ρ = some (false, ρ1)) (h' : g ρ1 = r) : xIf c f g ρ = r := by
  unfold xIf
  rw [h]
  exact h'
theorem ret_ok {f : XF} {ρ ρ1 : Ev} {o : O} (h : f ρ = some (o, ρ1)) : xRet f ρ = some (.rt o ρ1) := by
  unfold xRet
  rw [h]
  rfl
theorem comp_ok' {it : XI} {vs : List Nat} {g : XG} {c : XB} {e : XF} {ρ ρ1 ρ2 : Ev} {x : ItD} {os : List O} (h1 : it ρ = some (x, ρ1)) (h2 : compOk vs x.lk ρ1 = true) (h3 : x.ds.length ≤ 100000) (h4 : compF vs g c e x.ds (wipeE ρ1 vs) = some (os, ρ2)) : sComp it vs g c e ρ = some (.ol os, unlock x.lk (unwipe ρ1 vs ρ2)) := by
  rw [ev_sComp, h1, bnd_some, h2, decide_eq_true (Nat.lt_of_le_of_lt h3 (by decide))]
  show mpo (compF vs g c e x.ds (wipeE ρ1 vs)) _ = _
  rw [h4]
  rfl
end PL
namespace L67
open PySem PySem.Spec PyProof.Rows L2 PL
theorem cut_last (c : List Int) : ∃ c' : List Int, PL.cutD (c.map PyData.int) none (some (-1)) = c'.map .int ∧ (∀ x ∈ c', x ∈ c) ∧ c'.length + 1 ≤ max 1 c.length := by
  refine ⟨c.dropLast, ?_, fun x hx => (List.dropLast_sublist c).subset hx, by rw [List.length_dropLast]; omega⟩
  unfold PL.cutD
  have e1 : HT.sIx (c.map PyData.int).length 0 none = 0 := HT.sIx_none ..
  have e2 : HT.sIx (c.map PyData.int).length (c.map PyData.int).length (some (-1)) = (c.map PyData.int).length - 1 := by
    unfold HT.sIx
    simp
    omega
  rw [e1, e2, List.drop_zero, Nat.sub_zero, List.length_map, ← List.map_take, List.dropLast_eq_take]
theorem v_calendar {n : Int} {box : O} (hb : BoxOk n box) (hn : n ≤ 100000) : ∃ (c : List Int) (box' : O), F_law_calendar.f [box] = some (cal c, [box']) ∧ Cal c ∧ c.length ≤ 14 ∧ BoxOk (n + 20) box' := by
  obtain ⟨many, way, B1, p1, a1, a2, a3, k1⟩ := cal_first hb hn
  have mono : ∀ {m : Int} {B : O}, m ≤ n + 20 → BoxOk m B → BoxOk (n + 20) B := fun {m B} hm ⟨b0, b1, b2, b3, e, g0, g2, g2', g3, g3'⟩ => ⟨b0, b1, b2, b3, e, g0, g2, g2', g3, by omega⟩
  have er : rgOk many = true := rgOk_of (by omega) (by omega)
  by_cases w0 : way = 0
  · subst w0
    obtain ⟨at_, B2, e2, b1, b2, k2⟩ := v_take k1 (by omega) (many := many) (by omega) (by omega)
    have hc := comp_map (vs := [5]) (g := gN 5) (c := fun ρ => some (true, ρ)) (e := sCall uInt (aCons (opE (frD (sBin uEq (opV 5) (opV 4)))) aNil)) (ρ := cs B2 none many 0 (some (dI at_))) (fun d => match d with | .int i => .int (if i = at_ then 1 else 0) | d => d) (ds := (List.range many.toNat).map fun k => PyData.int (k : Nat)) (by
      intro d hd
      obtain ⟨k, _, rfl⟩ := List.mem_map.mp hd
      exact ⟨[some (.pa true B2), none, some (.ow (dI many)), some (.ow (dI 0)), some (.ow (dI at_)), some (.ow (dI k))], by simp, rfl, by simp, by simp⟩)
    refine ⟨(List.range many.toNat).map fun k => if ((k : Nat) : Int) = at_ then 1 else 0, B2, ?_, ⟨?_, ?_⟩, by rw [List.length_map, List.length_range]; omega, mono (by omega) k2⟩
    · have q : sCall uTupleOf (aCons (opE (frD (sComp (iRange (dVar 2)) [5] (gN 5) (fun ρ => some (true, ρ)) (sCall uInt (aCons (opE (frD (sBin uEq (opV 5) (opV 4)))) aNil))))) aNil) (cs B2 none many 0 (some (dI at_))) = some (cal ((List.range many.toNat).map fun k => if ((k : Nat) : Int) = at_ then 1 else 0), cs B2 none many 0 (some (dI at_))) := by
        have q0 := comp_ok' (it := iRange (dVar 2)) (vs := [5]) (ρ := cs B2 none many 0 (some (dI at_))) (ρ1 := cs B2 none many 0 (some (dI at_))) (x := ⟨(List.range many.toNat).map fun k => PyData.int (k : Nat), none⟩) (by simp [er]) (by simp) (by simp; omega) hc
        rw [ev_sCall, ev_aCons, ev_opE, frD_ok q0]
        simp [-List.map_map]
        simp
      have p2 : xAsg (callF F_law_take (aCons (opV 0) (aCons (opV 2) aNil))) (gN 4) (cs B1 none many 0 none) = some (.nx (cs B2 none many 0 (some (dI at_)))) := by
        obtain ⟨_, _, _, _, rfl, _⟩ := k1.ex
        obtain ⟨_, _, _, _, rfl, _⟩ := k2.ex
        simp [e2]
      have p3 : b_law_calendar [some (.pa true box), none, none, none, none, none] = some (.rt (cal ((List.range many.toNat).map fun k => if ((k : Nat) : Int) = at_ then 1 else 0)) (cs B2 none many 0 (some (dI at_)))) :=
        seq_nx p1 (seq_rt (if_t (ρ1 := cs B1 none many 0 none) (by simp) (seq_nx p2 (ret_ok q))))
      exact run_rt (ρ0 := [some (.pa true box)]) rfl p3 rfl
    · intro x hx
      obtain ⟨k, _, rfl⟩ := List.mem_map.mp hx
      split <;> simp
    · exact List.mem_map.mpr ⟨at_.toNat, List.mem_range.mpr (by omega), if_pos (by omega)⟩
  · by_cases w1 : way = 1
    · subst w1
      obtain ⟨r, e1, l1⟩ := rep_ints (c := [1]) (k := many) (by simp) (by omega) (by omega) (by simp)
      have e1' : uMul (.sh (.tuple [.int 1])) (.sh (.int many)) = some (cal (List.replicate many.toNat 1)) := by
        by_cases z : many = 1
        · subst z; simp
        · have : 2 ≤ many ∧ many ≤ 1000 := by omega
          simp [z, this]
      refine ⟨List.replicate many.toNat 1, B1, ?_, ⟨fun x hx => .inr (List.eq_of_mem_replicate hx), List.mem_replicate.mpr ⟨by omega, rfl⟩⟩, by rw [List.length_replicate]; omega, mono (by omega) k1⟩
      have p3 : b_law_calendar [some (.pa true box), none, none, none, none, none] = some (.rt (cal (List.replicate many.toNat 1)) (cs B1 none many 1 none)) :=
        seq_nx p1 (seq_nx (if_f (ρ1 := cs B1 none many 1 none) (by simp) rfl) (seq_rt (if_t (ρ1 := cs B1 none many 1 none) (by simp) (ret_ok (by simp [e1', -ev_repT])))))
      exact run_rt (ρ0 := [some (.pa true box)]) rfl p3 rfl
    · obtain ⟨c, B2, q1, q2, q3, q4⟩ := comp_takes none none many way (List.range many.toNat) k1 (by rw [List.length_range]; omega)
      rw [List.length_range] at q3 q4
      have hlen : c.length ≤ 14 := by omega
      have hk := mono (m := n + 3 + (many.toNat : Int)) (by omega) q4
      have q0 := comp_ok' (it := iRange (dVar 2)) (vs := [5]) (ρ := cs B1 none many way none) (ρ1 := cs B1 none many way none) (x := ⟨(List.range many.toNat).map fun k => PyData.int (k : Nat), none⟩) (by simp [er]) (by simp) (by simp; omega) q1
      have p2 : xAsg (sComp (iRange (dVar 2)) [5] (gN 5) (fun ρ => some (true, ρ)) (sIf (toB (frD (sBin uEq (opV 3) (opE (dC (.int 2)))))) (sCall uInt (aCons (opE (frD (sBin uGtI (opE (frD (callF F_law_take (aCons (opV 0) (aCons (opE (dC (.int 4))) aNil))))) (opE (dC (.int 0)))))) aNil)) (sCall uInt (aCons (opE (frD (sBin uEq (opE (frD (callF F_law_take (aCons (opV 0) (aCons (opE (dC (.int 4))) aNil))))) (opE (dC (.int 0)))))) aNil)))) (gN 1) (cs B1 none many way none) = some (.nx (cs B2 (some (dl c)) many way none)) := asg_ok q0 (by simp)
      have s1 : SeqAt.shaped (.list (c.map .int)) = true := (shd_lst (n := 0) fun d hd => by
        obtain ⟨i, _, rfl⟩ := List.mem_map.mp hd
        exact shd_int i).ok (by decide)
      have hany : ((c.map PyData.int).any fun z => PyData.eqv z (.int 1)) = decide (1 ∈ c) := by
        rw [Bool.eq_iff_iff, List.any_eq_true, decide_eq_true_eq]
        constructor
        · rintro ⟨y, hy, e⟩
          obtain ⟨x, hx, rfl⟩ := List.mem_map.mp hy
          have e' : (x == 1) = true := e
          rw [← beq_iff_eq.mp e']
          exact hx
        · intro h1
          exact ⟨.int 1, List.mem_map.mpr ⟨1, h1, rfl⟩, rfl⟩
      have hin : uIn false (dI 1) (dl c) = some (dB (decide (1 ∈ c))) := by
        unfold uIn
        rw [ev_olt, ev_tdsm]
        simp only [shp_i, s1, Bool.and_self, if_true, ev_sht, hany, Bool.false_bne]
      by_cases o1 : 1 ∈ c
      · refine ⟨c, B2, ?_, ⟨q2, o1⟩, hlen, hk⟩
        have p3 : b_law_calendar [some (.pa true box), none, none, none, none, none] = some (.rt (cal c) (cs B2 (some (dl c)) many way none)) :=
          seq_nx p1 (seq_nx (if_f (ρ1 := cs B1 none many way none) (by simp [w0]) rfl) (seq_nx (if_f (ρ1 := cs B1 none many way none) (by simp [w1]) rfl) (seq_nx p2 (ret_ok (by simp [hin, o1, -List.map_map])))))
        exact run_rt (ρ0 := [some (.pa true box)]) rfl p3 rfl
      · obtain ⟨c', r1, r2, r3⟩ := cut_last c
        refine ⟨c' ++ [1], B2, ?_, ⟨fun x hx => ?_, by simp⟩, by rw [List.length_append, List.length_singleton]; omega, hk⟩
        · have e9 : uAdd (.sh (.list (c'.map PyData.int))) (.sh (.list [PyData.int 1])) = some (.ol (((c' ++ [1]).map PyData.int).map .sh)) := by
            rw [ev_catLL (by rw [List.length_map, List.length_singleton]; omega)]
            simp only [List.map_append, List.map_cons, List.map_nil]
          have p3 : b_law_calendar [some (.pa true box), none, none, none, none, none] = some (.rt (cal (c' ++ [1])) (cs B2 (some (dl c)) many way none)) :=
            seq_nx p1 (seq_nx (if_f (ρ1 := cs B1 none many way none) (by simp [w0]) rfl) (seq_nx (if_f (ρ1 := cs B1 none many way none) (by simp [w1]) rfl) (seq_nx p2 (ret_ok (by simp [hin, o1, r1, e9, -List.map_map, -List.map_append])))))
          exact run_rt (ρ0 := [some (.pa true box)]) rfl p3 rfl
        · rcases List.mem_append.mp hx with hx | hx
          · exact q2 x (r2 x hx)
          · simp at hx
            exact .inr hx
end L67

namespace L67
open PySem PySem.Spec PyProof.Rows L2 PL
theorem IsDone.congr {f g : Int → Int} {s d e : Int} (h : IsDone f s d e) (hf : ∀ t, s ≤ t → g t = f t) : IsDone g s d e := by
  obtain ⟨h1, h2, h3⟩ := h
  refine ⟨h1, by rw [hf e h1, hf s (Int.le_refl _)]; exact h2, fun e' g1 g2 => ?_⟩
  rw [hf e' g1, hf s (Int.le_refl _)]
  exact h3 e' g1 g2
theorem IsBegun.congr {f g : Int → Int} {e d : Int} {o : Option Int} (he : 0 ≤ e) (h : IsBegun f e d o) (hf : ∀ t, 0 ≤ t → g t = f t) : IsBegun g e d o := by
  cases o with
  | none =>
    intro s' h1 h2
    rw [hf e he, hf s' h1]
    exact h s' h1 h2
  | some s =>
    obtain ⟨h0, h1, h2, h3⟩ := h
    refine ⟨h0, h1, by rw [hf e he, hf s h0]; exact h2, fun s' g1 g2 => ?_⟩
    rw [hf e he, hf s' (by omega)]
    exact h3 s' g1 g2
abbrev ot (box : O) (c c2 c3 : List Int) (b : Bool) (n far : Int) (x5 x8 x9 x10 x11 x12 x13 x14 x15 : Option O) : Ev := [some (.pa true box), some (.pa false (cal c)), some (.ow (dB b)), some (.ow (dI n)), some (.ow (dI far)), mo x5, some (.ow (cal c2)), some (.ow (cal c3)), mo x8, mo x9, mo x10, mo x11, mo x12, mo x13, mo x14, mo x15]
structure Told (T : FS) (c : List Int) (x : Int) (y : Int) (z : Int) (w : Int) (a : Int) (g : Option Int) : Prop where
  ms : T.ms = [.br, .br, .sh, .br, .br]
theorem step_other (T S K : FS) (hT : T.ms = [.br, .br, .sh, .br, .br]) (hS : S.ms = [.br, .br]) (hK : K.ms = [.io, .br]) {c c2 c3 : List Int} (b : Bool) (n far : Int) {box B1 B2 B3 : O} {s d m w a whole M : Int} {g : Option Int} (x5 x8 x9 x10 x11 x12 x13 x14 x15 : Option O)
    (hB0 : ∃ os, box = .ol os) (hB1 : ∃ os, B1 = .ol os) (hB2 : ∃ os, B2 = .ol os) (hB3 : ∃ os, B3 = .ol os)
    (k1 : K.f [box, dI 30] = some (dI s, [B1, dI 30])) (k2 : K.f [B1, dI 12] = some (dI d, [B2, dI 12])) (k3 : K.f [B2, dI 25] = some (dI m, [B3, dI 25]))
    (t1 : ∀ b, T.f [sS "worked", cal c, dI s, dI (s + m), dB b] = some (dI w, [sS "worked", cal c, dI s, dI (s + m), dB b]))
    (t2 : ∀ b, T.f [sS "done", cal c, dI s, dI d, dB b] = some (dI a, [sS "done", cal c, dI s, dI d, dB b]))
    (t3 : ∀ b, T.f [sS "begun", cal c, dI s, dI d, dB b] = some (.sh (oD g), [sS "begun", cal c, dI s, dI d, dB b]))
    (u1 : ∀ b, T.f [sS "worked", cal c2, dI s, dI (s + m), dB b] = some (dI w, [sS "worked", cal c2, dI s, dI (s + m), dB b]))
    (u2 : ∀ b, T.f [sS "done", cal c2, dI s, dI d, dB b] = some (dI a, [sS "done", cal c2, dI s, dI d, dB b]))
    (u3 : ∀ b, T.f [sS "begun", cal c2, dI s, dI d, dB b] = some (.sh (oD g), [sS "begun", cal c2, dI s, dI d, dB b]))
    (s1 : S.f [.ol [dI w, dI a, .sh (oD g)], .ol [dI w, dI a, .sh (oD g)]] = some (dB true, [.ol [dI w, dI a, .sh (oD g)], .ol [dI w, dI a, .sh (oD g)]]))
    (v1 : ∀ b, T.f [sS "worked", cal c, dI (s + far), dI (s + far + m), dB b] = some (dI w, [sS "worked", cal c, dI (s + far), dI (s + far + m), dB b]))
    (v2 : ∀ b, T.f [sS "done", cal c, dI (s + far), dI d, dB b] = some (dI (a + far), [sS "done", cal c, dI (s + far), dI d, dB b]))
    (s2 : S.f [.ol [dI w, dI (a + far)], .sh (.list [.int w, .int (a + far)])] = some (dB true, [.ol [dI w, dI (a + far)], .sh (.list [.int w, .int (a + far)])]))
    (v3 : ∀ g', g = some g' → ∀ b, T.f [sS "begun", cal c, dI (s + far), dI d, dB b] = some (dI (g' + far), [sS "begun", cal c, dI (s + far), dI d, dB b]))
    (s3 : ∀ i, S.f [dI i, dI i] = some (dB true, [dI i, dI i]))
    (hd : ∀ i, divOk i n = true) (hM : (if a < s + m then s + m else a) = M) (hm : mulOk n (1 + M / n) = true) (hw : n * (1 + M / n) = whole)
    (r1 : ∀ b, T.f [sS "worked", cal c3, dI (whole - s - m), dI (whole - s), dB b] = some (dI w, [sS "worked", cal c3, dI (whole - s - m), dI (whole - s), dB b]))
    (r2 : ∀ b, T.f [sS "begun", cal c3, dI (whole - s), dI d, dB b] = some (dI (whole - a), [sS "begun", cal c3, dI (whole - s), dI d, dB b]))
    (s4 : S.f [.ol [dI w, dI (whole - a)], .sh (.list [.int w, .int (whole - a)])] = some (dB true, [.ol [dI w, dI (whole - a)], .sh (.list [.int w, .int (whole - a)])]))
    (r3 : ∀ g', g = some g' → ∀ b, T.f [sS "done", cal c3, dI (whole - s), dI d, dB b] = some (dI (whole - g'), [sS "done", cal c3, dI (whole - s), dI d, dB b]))
    (body : XS) (hbody : body = (xSeq (xPar3 13 14 15 (lCons (callF K (aCons (opV 0) (aCons (opE (dC (.int 30))) aNil))) (lCons (callF K (aCons (opV 0) (aCons (opE (dC (.int 12))) aNil))) (lCons (callF K (aCons (opV 0) (aCons (opE (dC (.int 25))) aNil))) lNil)))) (xSeq (xAsg (sCall uLst (aCons (opE (frD (callF T (aCons (opE (dC (.str ("worked" : Str)))) (aCons (opV 1) (aCons (opE (dVar 13)) (aCons (opE (frD (sBin uAdd (opV 13) (opV 15)))) (aCons (opV 2) aNil)))))))) (aCons (opE (frD (callF T (aCons (opE (dC (.str ("done" : Str)))) (aCons (opV 1) (aCons (opE (dVar 13)) (aCons (opV 14) (aCons (opV 2) aNil)))))))) (aCons (opE (frD (callF T (aCons (opE (dC (.str ("begun" : Str)))) (aCons (opV 1) (aCons (opE (dVar 13)) (aCons (opV 14) (aCons (opE (ofB (bNot (toB (dVar 2))))) aNil)))))))) aNil)))) (gN 8)) (xSeq (xAsg (sCall uLst (aCons (opE (frD (callF T (aCons (opE (dC (.str ("worked" : Str)))) (aCons (opV 6) (aCons (opE (dVar 13)) (aCons (opE (frD (sBin uAdd (opV 13) (opV 15)))) (aCons (opE (ofB (bNot (toB (dVar 2))))) aNil)))))))) (aCons (opE (frD (callF T (aCons (opE (dC (.str ("done" : Str)))) (aCons (opV 6) (aCons (opE (dVar 13)) (aCons (opV 14) (aCons (opE (ofB (bNot (toB (dVar 2))))) aNil)))))))) (aCons (opE (frD (callF T (aCons (opE (dC (.str ("begun" : Str)))) (aCons (opV 6) (aCons (opE (dVar 13)) (aCons (opV 14) (aCons (opV 2) aNil)))))))) aNil)))) (gN 9)) (xSeq (xIf (bNot (toB (frD (callF S (aCons (opV 9) (aCons (opV 8) aNil)))))) (xRet (toO (dC (.bool false)))) xNext) (xSeq (xAsg (sCall uLst (aCons (opE (frD (callF T (aCons (opE (dC (.str ("worked" : Str)))) (aCons (opV 1) (aCons (opE (frD (sBin uAdd (opV 13) (opV 4)))) (aCons (opE (frD (sBin uAdd (opE (frD (sBin uAdd (opV 13) (opV 4)))) (opV 15)))) (aCons (opV 2) aNil)))))))) (aCons (opE (frD (callF T (aCons (opE (dC (.str ("done" : Str)))) (aCons (opV 1) (aCons (opE (frD (sBin uAdd (opV 13) (opV 4)))) (aCons (opV 14) (aCons (opV 2) aNil)))))))) aNil))) (gN 10)) (xSeq (xIf (bNot (toB (frD (callF S (aCons (opV 10) (aCons (opE (frD (sCall uLst (aCons (opE (frD (sBin uIx (opV 8) (opE (dC (.int 0)))))) (aCons (opE (frD (sBin uAdd (opE (frD (sBin uIx (opV 8) (opE (dC (.int 1)))))) (opV 4)))) aNil))))) aNil)))))) (xRet (toO (dC (.bool false)))) xNext) (xSeq (xIf (bAnd (toB (frD (sBin uIsNot (opE (frD (sBin uIx (opV 8) (opE (dC (.int 2)))))) (opE (dC .none))))) (bNot (toB (frD (callF S (aCons (opE (frD (callF T (aCons (opE (dC (.str ("begun" : Str)))) (aCons (opV 1) (aCons (opE (frD (sBin uAdd (opV 13) (opV 4)))) (aCons (opV 14) (aCons (opV 2) aNil)))))))) (aCons (opE (frD (sBin uAdd (opE (frD (sBin uIx (opV 8) (opE (dC (.int 2)))))) (opV 4)))) aNil))))))) (xRet (toO (dC (.bool false)))) xNext) (xSeq (xAsg (sBin uMul (opV 3) (opE (frD (sBin uAdd (opE (dC (.int 1))) (opE (frD (sBin uDivI (opE (frD (sCall uMax (aCons (opE (frD (sBin uIx (opV 8) (opE (dC (.int 1)))))) (aCons (opE (frD (sBin uAdd (opV 13) (opV 15)))) aNil))))) (opV 3)))))))) (gN 11)) (xSeq (xAsg (sCall uLst (aCons (opE (frD (callF T (aCons (opE (dC (.str ("worked" : Str)))) (aCons (opV 7) (aCons (opE (frD (sBin uSubI (opE (frD (sBin uSubI (opV 11) (opV 13)))) (opV 15)))) (aCons (opE (frD (sBin uSubI (opV 11) (opV 13)))) (aCons (opE (ofB (bNot (toB (dVar 2))))) aNil)))))))) (aCons (opE (frD (callF T (aCons (opE (dC (.str ("begun" : Str)))) (aCons (opV 7) (aCons (opE (frD (sBin uSubI (opV 11) (opV 13)))) (aCons (opV 14) (aCons (opV 2) aNil)))))))) aNil))) (gN 12)) (xSeq (xIf (bNot (toB (frD (callF S (aCons (opV 12) (aCons (opE (frD (sCall uLst (aCons (opE (frD (sBin uIx (opV 8) (opE (dC (.int 0)))))) (aCons (opE (frD (sBin uSubI (opV 11) (opE (frD (sBin uIx (opV 8) (opE (dC (.int 1))))))))) aNil))))) aNil)))))) (xRet (toO (dC (.bool false)))) xNext) (xSeq (xIf (bAnd (toB (frD (sBin uIsNot (opE (frD (sBin uIx (opV 8) (opE (dC (.int 2)))))) (opE (dC .none))))) (bNot (toB (frD (callF S (aCons (opE (frD (callF T (aCons (opE (dC (.str ("done" : Str)))) (aCons (opV 7) (aCons (opE (frD (sBin uSubI (opV 11) (opV 13)))) (aCons (opV 14) (aCons (opE (ofB (bNot (toB (dVar 2))))) aNil)))))))) (aCons (opE (frD (sBin uSubI (opV 11) (opE (frD (sBin uIx (opV 8) (opE (dC (.int 2))))))))) aNil))))))) (xRet (toO (dC (.bool false)))) xNext) (xAsg (toO (ofB (bNot (toB (dVar 2))))) (gN 2)))))))))))))) :
    ∃ y8 y9 y10 y11 y12 y13 y14 y15 : Option O, body (ot box c c2 c3 b n far x5 x8 x9 x10 x11 x12 x13 x14 x15) = some (.nx (ot B3 c c2 c3 (!b) n far x5 y8 y9 y10 y11 y12 y13 y14 y15)) := by
  obtain ⟨o0, rfl⟩ := hB0
  obtain ⟨o1, rfl⟩ := hB1
  obtain ⟨o2, rfl⟩ := hB2
  obtain ⟨o3, rfl⟩ := hB3
  refine ⟨some (.ol [dI w, dI a, .sh (oD g)]), some (.ol [dI w, dI a, .sh (oD g)]), some (.ol [dI w, dI (a + far)]), some (dI whole), some (.ol [dI w, dI (whole - a)]), some (dI s), some (dI d), some (dI m), ?_⟩
  rw [hbody]
  refine seq_nx (ρ1 := ot (.ol o3) c c2 c3 b n far x5 x8 x9 x10 x11 x12 (some (dI s)) (some (dI d)) (some (dI m))) (by simp [k1, k2, k3, hK]) ?_
  refine seq_nx (ρ1 := ot (.ol o3) c c2 c3 b n far x5 (some (.ol [dI w, dI a, .sh (oD g)])) x9 x10 x11 x12 (some (dI s)) (some (dI d)) (some (dI m))) (by simp [t1, t2, t3, hT]) ?_
  refine seq_nx (ρ1 := ot (.ol o3) c c2 c3 b n far x5 (some (.ol [dI w, dI a, .sh (oD g)])) (some (.ol [dI w, dI a, .sh (oD g)])) x10 x11 x12 (some (dI s)) (some (dI d)) (some (dI m))) (by simp [u1, u2, u3, hT]) ?_
  refine seq_nx (ρ1 := ot (.ol o3) c c2 c3 b n far x5 (some (.ol [dI w, dI a, .sh (oD g)])) (some (.ol [dI w, dI a, .sh (oD g)])) x10 x11 x12 (some (dI s)) (some (dI d)) (some (dI m))) (by simp [s1, hS]) ?_
  refine seq_nx (ρ1 := ot (.ol o3) c c2 c3 b n far x5 (some (.ol [dI w, dI a, .sh (oD g)])) (some (.ol [dI w, dI a, .sh (oD g)])) (some (.ol [dI w, dI (a + far)])) x11 x12 (some (dI s)) (some (dI d)) (some (dI m))) (by simp [v1, v2, hT]) ?_
  refine seq_nx (ρ1 := ot (.ol o3) c c2 c3 b n far x5 (some (.ol [dI w, dI a, .sh (oD g)])) (some (.ol [dI w, dI a, .sh (oD g)])) (some (.ol [dI w, dI (a + far)])) x11 x12 (some (dI s)) (some (dI d)) (some (dI m))) (by simp [s2, hS]) ?_
  refine seq_nx (ρ1 := ot (.ol o3) c c2 c3 b n far x5 (some (.ol [dI w, dI a, .sh (oD g)])) (some (.ol [dI w, dI a, .sh (oD g)])) (some (.ol [dI w, dI (a + far)])) x11 x12 (some (dI s)) (some (dI d)) (some (dI m))) (by
    cases g with
    | none => simp [oD, D.isNone]
    | some g' => simp [oD, D.isNone, v3 g' rfl, s3, hT, hS]) ?_
  refine seq_nx (ρ1 := ot (.ol o3) c c2 c3 b n far x5 (some (.ol [dI w, dI a, .sh (oD g)])) (some (.ol [dI w, dI a, .sh (oD g)])) (some (.ol [dI w, dI (a + far)])) (some (dI whole)) x12 (some (dI s)) (some (dI d)) (some (dI m))) (by simp [hd, hM, hm, hw]) ?_
  refine seq_nx (ρ1 := ot (.ol o3) c c2 c3 b n far x5 (some (.ol [dI w, dI a, .sh (oD g)])) (some (.ol [dI w, dI a, .sh (oD g)])) (some (.ol [dI w, dI (a + far)])) (some (dI whole)) (some (.ol [dI w, dI (whole - a)])) (some (dI s)) (some (dI d)) (some (dI m))) (by simp [r1, r2, hT]) ?_
  refine seq_nx (ρ1 := ot (.ol o3) c c2 c3 b n far x5 (some (.ol [dI w, dI a, .sh (oD g)])) (some (.ol [dI w, dI a, .sh (oD g)])) (some (.ol [dI w, dI (a + far)])) (some (dI whole)) (some (.ol [dI w, dI (whole - a)])) (some (dI s)) (some (dI d)) (some (dI m))) (by simp [s4, hS]) ?_
  refine seq_nx (ρ1 := ot (.ol o3) c c2 c3 b n far x5 (some (.ol [dI w, dI a, .sh (oD g)])) (some (.ol [dI w, dI a, .sh (oD g)])) (some (.ol [dI w, dI (a + far)])) (some (dI whole)) (some (.ol [dI w, dI (whole - a)])) (some (dI s)) (some (dI d)) (some (dI m))) (by
    cases g with
    | none => simp [oD, D.isNone]
    | some g' => simp [oD, D.isNone, r3 g' rfl, s3, hT, hS]) ?_
  simp
end L67

namespace L67
open PySem PySem.Spec PyProof.Rows L2 PL
theorem BoxOk.ol {n : Int} {o : O} (h : BoxOk n o) : ∃ os, o = .ol os := by
  obtain ⟨_, _, _, _, e, _⟩ := h.ex
  exact ⟨_, e⟩
theorem BoxOk.mono {n m : Int} {o : O} (h : BoxOk n o) (hm : n ≤ m) : BoxOk m o := by
  obtain ⟨b0, b1, b2, b3, e, g0, g2, g2', g3, g3'⟩ := h.ex
  exact ⟨b0, b1, b2, b3, e, g0, g2, g2', g3, by omega⟩
section
variable {c : List Int} (h : Cal c) (hl : c.length ≤ 14)
include h hl
theorem other_turn {n : Int} {box : O} (hb : BoxOk n box) (hn : n ≤ 100000) (b : Bool) {q : Int} (hq : 0 ≤ q) (hfar : (c.length * q).natAbs < 2 ^ 900) (x5 x8 x9 x10 x11 x12 x13 x14 x15 : Option O) :
    ∃ (box' : O) (y8 y9 y10 y11 y12 y13 y14 y15 : Option O), lb_law_other_right0 (ot box c (c ++ c) c.reverse b c.length (c.length * q) x5 x8 x9 x10 x11 x12 x13 x14 x15) = some (.nx (ot box' c (c ++ c) c.reverse (!b) c.length (c.length * q) x5 y8 y9 y10 y11 y12 y13 y14 y15)) ∧ BoxOk (n + 3) box' := by
  obtain ⟨s, B1, k1, a1, a2, j1⟩ := v_take hb (by omega) (many := 30) (by omega) (by omega)
  obtain ⟨d, B2, k2, b1, b2, j2⟩ := v_take j1 (by omega) (many := 12) (by omega) (by omega)
  obtain ⟨m, B3, k3, c1, c2, j3⟩ := v_take j2 (by omega) (many := 25) (by omega) (by omega)
  have n0 := h.pos
  have hl' : c.length ≤ 31 := by omega
  have h2 := h.twice
  have l2 : (c ++ c).length ≤ 31 := by rw [List.length_append]; omega
  have h3 := h.rev
  have l3 : c.reverse.length ≤ 31 := by rw [List.length_reverse]; omega
  have f2 : ∀ t, 0 ≤ t → du (c ++ c) t = du c t := fun t ht => du_twice h t ht
  have hfq : 0 ≤ (c.length : Int) * q := Int.mul_nonneg (by omega) hq
  have sm : ∀ t : Int, t.natAbs ≤ 1000000 → t.natAbs < 2 ^ 1000 := fun t ht => small_sm h hl' ht
  have fm : ∀ t : Int, t.natAbs ≤ 1000000 → (t + c.length * q).natAbs < 2 ^ 1000 := fun t ht => by
    have e : 2 ^ 900 + 1000000 < 2 ^ 1000 := by
      refine Nat.lt_of_le_of_lt (show 2 ^ 900 + 1000000 ≤ 2 ^ 900 * 2 ^ 20 from ?_) ?_
      · have : 1 ≤ 2 ^ 900 := Nat.one_le_two_pow
        generalize 2 ^ 900 = z at this
        omega
      · rw [← Nat.pow_add]
        exact Nat.pow_lt_pow_right (by decide) (by decide)
    generalize 2 ^ 900 = y at e hfar
    generalize 2 ^ 1000 = z at e
    omega
  have iA := doneAt_ok h (s := s) (d := d) b1
  have iG := begunAt_ok h (e := s) (d := d) a1 b1
  have hA0 := iA.1
  have hA1 := done_le h hl' (s := s) (d := d) a1 b1
  have hA2 : (c.length : Int) * d ≤ 14 * 12 := Int.mul_le_mul (by omega) (by omega) (by omega) (by omega)
  generalize hAe : doneAt c s d = A at *
  generalize hGe : begunAt c s d = G at *
  generalize hQ : 1 + (if A < s + m then s + m else A) / (c.length : Int) = Q
  have hM0 : 0 ≤ (if A < s + m then s + m else A) := by split <;> omega
  have hM1 : (if A < s + m then s + m else A) ≤ 10000 := by split <;> omega
  have hMa : A ≤ (if A < s + m then s + m else A) := by split <;> omega
  have hMs : s + m ≤ (if A < s + m then s + m else A) := by split <;> omega
  generalize hMe : (if A < s + m then s + m else A) = M at *
  have hQ0 : 0 ≤ M / (c.length : Int) := Int.ediv_nonneg hM0 (by omega)
  have hQ1 := ediv_abs (t := M) n0
  have hQ2 := Int.emod_add_mul_ediv M c.length
  have hQ3 := Int.emod_lt_of_pos M n0
  have hW0 : M < c.length * Q := by
    rw [← hQ, Int.mul_add, Int.mul_one]
    omega
  have hW1 : (c.length : Int) * Q ≤ 14 * 10001 := Int.mul_le_mul (by omega) (by omega) (by omega) (by omega)
  have hWl : (c.reverse.length : Int) = c.length := by rw [List.length_reverse]
  -- worked
  have w1 := fun b => v_told_worked h hl' (s := s) (e := s + m) b (Tm.sm (sm _ (by omega))) (Tm.sm (sm _ (by omega))) a1 (by omega)
  have w2 := fun b => v_told_worked h2 l2 (s := s) (e := s + m) b (Tm.sm (sm _ (by omega))) (Tm.sm (sm _ (by omega))) a1 (by omega)
  rw [f2 s a1, f2 (s + m) (by omega)] at w2
  have w3 := fun b => v_told_worked h hl' (s := s + c.length * q) (e := s + c.length * q + m) b (Tm.sm (fm _ (by omega))) (Tm.sm (by
    have e : s + c.length * q + m = (s + m) + c.length * q := by omega
    rw [e]
    exact fm _ (by omega))) (by omega) (by omega)
  have e3 : s + c.length * q + m = (s + m) + c.length * q := by omega
  have w3e : max 0 (du c (s + c.length * q + m) - du c (s + c.length * q)) = max 0 (du c (s + m) - du c s) := by
    rw [e3, du_shift n0, du_shift n0]
    congr 1
    omega
  rw [w3e] at w3
  have w4 := fun b => v_told_worked h3 l3 (s := c.length * Q - s - m) (e := c.length * Q - s) b (Tm.sm (sm _ (by omega))) (Tm.sm (sm _ (by omega))) (by omega) (by omega)
  have e4 : c.length * Q - s - m = c.length * Q - (s + m) := by omega
  have w4e : max 0 (du c.reverse (c.length * Q - s) - du c.reverse (c.length * Q - s - m)) = max 0 (du c (s + m) - du c s) := by
    rw [e4, du_rev' h Q (show s ≤ s + m by omega)]
  rw [w4e] at w4
  -- done
  have d1 := fun b => v_told_done h hl' (s := s) (d := d) b (sm _ (by omega)) (by omega) a1 b1
  have d2 := fun b => v_told_done h2 l2 (s := s) (d := d) b (sm _ (by omega)) (by omega) a1 b1
  have d2e : doneAt (c ++ c) s d = A := (doneAt_ok h2 (s := s) b1).uniq (iA.congr fun t ht => f2 t (by omega))
  have d3 := fun b => v_told_done h hl' (s := s + c.length * q) (d := d) b (fm _ (by omega)) (by omega) (by omega) b1
  have d3e : doneAt c (s + c.length * q) d = A + c.length * q := (doneAt_ok h b1).uniq (done_shift h iA)
  -- begun
  have g1 := fun b => v_told_begun h hl' (s := s) (d := d) b (sm _ (by omega)) (by omega) a1 b1
  have g2 := fun b => v_told_begun h2 l2 (s := s) (d := d) b (sm _ (by omega)) (by omega) a1 b1
  have g2e : begunAt (c ++ c) s d = G := (begunAt_ok h2 a1 b1).uniq (iG.congr a1 f2)
  have g3 := fun b => v_told_begun h hl' (s := s + c.length * q) (d := d) b (fm _ (by omega)) (by omega) (by omega) b1
  have g4 := fun b => v_told_begun h3 l3 (s := c.length * Q - s) (d := d) b (sm _ (by omega)) (by omega) (by omega) b1
  have g4e : begunAt c.reverse (c.length * Q - s) d = some (c.length * Q - A) := (begunAt_ok h3 (by omega) b1).uniq (done_rev h iA (by omega))
  have d4 := fun b => v_told_done h3 l3 (s := c.length * Q - s) (d := d) b (sm _ (by omega)) (by omega) (by omega) b1
  rw [hAe] at d1
  rw [d2e] at d2
  rw [d3e] at d3
  rw [hGe] at g1
  rw [g2e] at g2
  rw [g4e] at g4
  generalize max 0 (du c (s + m) - du c s) = W at *
  obtain ⟨y8, y9, y10, y11, y12, y13, y14, y15, hy⟩ := step_other F_law_told (F_law_same 4) F_law_take rfl rfl rfl (c := c) (c2 := c ++ c) (c3 := c.reverse) b c.length (c.length * q) (whole := c.length * Q) x5 x8 x9 x10 x11 x12 x13 x14 x15 hb.ol j1.ol j2.ol j3.ol k1 k2 k3 w1 d1 g1 w2 d2 g2
    (same_ll [.int W, .int A, oD G] (by
      intro x hx
      simp only [List.mem_cons, List.not_mem_nil, or_false] at hx
      rcases hx with rfl | rfl | rfl
      · exact bas_i W
      · exact bas_i A
      · exact bas_o G) (by simp) _ _ rfl rfl)
    w3 d3 (same_l [.int W, .int (A + c.length * q)] (bas2 _ (some _)) (by simp) _ rfl)
    (fun g' hg b => by
      have := g3 b
      rw [hg] at iG
      rw [show begunAt c (s + c.length * q) d = some (g' + c.length * q) from (begunAt_ok h (by omega) b1).uniq (begun_shift h hfq iG)] at this
      exact this)
    same_i (fun i => divOk_of n0 (by omega)) (M := M) hMe (Sm.mul (sm_of (by omega)) (sm_of (by omega))) (by rw [hQ]) w4 g4 (same_l [.int W, .int (c.length * Q - A)] (bas2 _ (some _)) (by simp) _ rfl)
    (fun g' hg b => by
      have := d4 b
      rw [hg] at iG
      rw [show doneAt c.reverse (c.length * Q - s) d = c.length * Q - g' from (doneAt_ok h3 b1).uniq (begun_rev h iG (by omega))] at this
      exact this) _ rfl
  exact ⟨B3, y8, y9, y10, y11, y12, y13, y14, y15, hy, by have : n + 1 + 1 + 1 = n + 3 := by omega
                                                          rw [← this]; exact j3⟩
end
end L67

namespace L67
open PySem PySem.Spec PyProof.Rows L2 PL
theorem pow_far : ∃ V1 V2 : Int, uPowI (.sh (.int 10)) (.sh (.int 60)) = some (dI V1) ∧ uPowI (.sh (.int V1)) (.sh (.int 3)) = some (dI V2) ∧ 0 ≤ V2 ∧ V2.natAbs < 2 ^ 600 := by
  refine ⟨10 ^ 60, (10 ^ 60) ^ 3, ?_, ?_, by decide +kernel, by decide +kernel⟩
  · rw [ev_powI, if_pos (by decide +kernel)]
    rfl
  · rw [ev_powI, if_pos (by decide +kernel)]
    rfl
section
variable {c : List Int} (h : Cal c) (hl : c.length ≤ 14)
include h hl
theorem other_far {n : Int} {box : O} (hb : BoxOk n box) (hn : n ≤ 100000) (b : Bool) : ∃ (q : Int) (box' : O), (xAsg (sBin uMul (opE (frD (sBin uMul (opV 3) (opE (frD (sBin uAdd (opE (dC (.int 1))) (opE (frD (callF F_law_take (aCons (opV 0) (aCons (opE (dC (.int 5))) aNil))))))))))) (opE (frD (sBin uIx (opE (frD (sCall uLst (aCons (opE (dC (.int 1))) (aCons (opE (frD (sBin uPowI (opE (frD (sBin uPowI (opE (dC (.int 10))) (opE (dC (.int 60)))))) (opE (dC (.int 3)))))) aNil))))) (opE (frD (callF F_law_take (aCons (opV 0) (aCons (opE (dC (.int 2))) aNil))))))))) (gN 4)) [some (.pa true box), some (.pa false (cal c)), some (.ow (dB b)), some (.ow (dI c.length)), none, none, some (.ow (cal (c ++ c))), some (.ow (cal c.reverse)), none, none, none, none, none, none, none, none] = some (.nx (ot box' c (c ++ c) c.reverse b c.length (c.length * q) none none none none none none none none none)) ∧ 0 ≤ q ∧ (c.length * q).natAbs < 2 ^ 900 ∧ BoxOk (n + 2) box' := by
  obtain ⟨V1, V2, p1, p2, p3, p4⟩ := pow_far
  obtain ⟨r, B1, k1, a1, a2, j1⟩ := v_take hb (by omega) (many := 5) (by omega) (by omega)
  obtain ⟨t, B2, k2, b1, b2, j2⟩ := v_take j1 (by omega) (many := 2) (by omega) (by omega)
  obtain ⟨v, ev, v0, v1⟩ : ∃ v : Int, L2.atI [PyData.int 1, .int V2] t = some (.int v) ∧ 0 ≤ v ∧ v.natAbs < 2 ^ 600 := by
    have : t = 0 ∨ t = 1 := by omega
    rcases this with rfl | rfl
    · exact ⟨1, by simp, by omega, Nat.lt_of_lt_of_le (by decide : (1 : Int).natAbs < 2 ^ 1) (Nat.pow_le_pow_right (by decide) (by decide))⟩
    · exact ⟨V2, by simp, p3, p4⟩
  have m1 : mulOk c.length (1 + r) = true := Sm.mul (sm_of (by omega)) (sm_of (by omega))
  have hb1 : ((c.length : Int) * (1 + r)).natAbs ≤ 14 * 5 := by
    rw [Int.natAbs_mul]
    exact Nat.mul_le_mul (by omega) (by omega)
  have m2 : mulOk (c.length * (1 + r)) v = true := Sm.mul (sm_of (by omega)) (Nat.lt_of_lt_of_le v1 (Nat.pow_le_pow_right (by decide) (by decide)))
  have hass : (c.length : Int) * (1 + r) * v = c.length * ((1 + r) * v) := Int.mul_assoc ..
  have hB : BoxOk (n + 2) B2 := by
    have : n + 1 + 1 = n + 2 := by omega
    rw [← this]; exact j2
  refine ⟨(1 + r) * v, B2, ?_, Int.mul_nonneg (by omega) v0, ?_, hB⟩
  · rw [← hass]
    obtain ⟨o0, rfl⟩ := hb.ol
    obtain ⟨o1, rfl⟩ := j1.ol
    obtain ⟨o2, rfl⟩ := j2.ol
    have key : ∀ K : FS, K.ms = [.io, .br] → K.f [.ol o0, dI 5] = some (dI r, [.ol o1, dI 5]) → K.f [.ol o1, dI 2] = some (dI t, [.ol o2, dI 2]) → (xAsg (sBin uMul (opE (frD (sBin uMul (opV 3) (opE (frD (sBin uAdd (opE (dC (.int 1))) (opE (frD (callF K (aCons (opV 0) (aCons (opE (dC (.int 5))) aNil))))))))))) (opE (frD (sBin uIx (opE (frD (sCall uLst (aCons (opE (dC (.int 1))) (aCons (opE (frD (sBin uPowI (opE (frD (sBin uPowI (opE (dC (.int 10))) (opE (dC (.int 60)))))) (opE (dC (.int 3)))))) aNil))))) (opE (frD (callF K (aCons (opV 0) (aCons (opE (dC (.int 2))) aNil))))))))) (gN 4)) [some (.pa true (.ol o0)), some (.pa false (cal c)), some (.ow (dB b)), some (.ow (dI c.length)), none, none, some (.ow (cal (c ++ c))), some (.ow (cal c.reverse)), none, none, none, none, none, none, none, none] = some (.nx (ot (.ol o2) c (c ++ c) c.reverse b c.length (c.length * (1 + r) * v) none none none none none none none none none)) := by
      intro K hK q1 q2
      simp [q1, q2, hK, m1, m2, ev, p1, p2, -ev_powI]
    exact key F_law_take rfl k1 k2
  · rw [← hass, Int.natAbs_mul]
    refine Nat.lt_of_le_of_lt (Nat.mul_le_mul hb1 (Nat.le_of_lt v1)) ?_
    refine Nat.lt_of_le_of_lt (Nat.mul_le_mul_right _ (by decide : 14 * 5 ≤ 2 ^ 10)) ?_
    rw [← Nat.pow_add]
    exact Nat.pow_lt_pow_right (by decide) (by decide)
theorem v_other_right {n : Int} {box : O} (hb : BoxOk n box) (hn : n ≤ 10000) (b : Bool) : ∃ box', F_law_other_right.f [box, cal c, dB b] = some (dB true, [box', cal c, dB b]) ∧ BoxOk (n + 30) box' := by
  obtain ⟨q, B1, e1, q0, q1, j1⟩ := other_far h hl hb (by omega) b
  obtain ⟨ρ', ⟨b', box', x5, x8, x9, x10, x11, x12, x13, x14, x15, rfl, hB⟩, h2⟩ := for_all0 (gN 5) lb_law_other_right0
    (fun i ρ => ∃ (b : Bool) (box : O) (x5 x8 x9 x10 x11 x12 x13 x14 x15 : Option O), ρ = ot box c (c ++ c) c.reverse b c.length (c.length * q) x5 x8 x9 x10 x11 x12 x13 x14 x15 ∧ BoxOk (n + 2 + 3 * (i : Nat)) box) 8
    (ot B1 c (c ++ c) c.reverse b c.length (c.length * q) none none none none none none none none none) ⟨b, B1, none, none, none, none, none, none, none, none, none, rfl, by simpa using j1⟩ (by
      rintro i hi _ ⟨b, box, x5, x8, x9, x10, x11, x12, x13, x14, x15, rfl, hB⟩
      obtain ⟨box', y8, y9, y10, y11, y12, y13, y14, y15, q2, q3⟩ := other_turn h hl hB (by omega) b q0 q1 (some (dI i)) x8 x9 x10 x11 x12 x13 x14 x15
      refine ⟨ot box c (c ++ c) c.reverse b c.length (c.length * q) (some (dI i)) x8 x9 x10 x11 x12 x13 x14 x15, _, by simp, .inl q2, !b, box', some (dI i), y8, y9, y10, y11, y12, y13, y14, y15, rfl, ?_⟩
      have : n + 2 + 3 * ((i + 1 : Nat) : Int) = n + 2 + 3 * (i : Int) + 3 := by omega
      rw [this]
      exact q3)
  have r8 : rgOk 8 = true := rgOk_of (by omega) (by omega)
  have hcat : c.length + c.length ≤ 16777216 := by omega
  have p1 : b_law_other_right [some (.pa true box), some (.pa false (cal c)), some (.ow (dB b)), none, none, none, none, none, none, none, none, none, none, none, none, none] = some (.rt (dB true) (ot box' c (c ++ c) c.reverse b' c.length (c.length * q) x5 x8 x9 x10 x11 x12 x13 x14 x15)) :=
    seq_nx (ρ1 := [some (.pa true box), some (.pa false (cal c)), some (.ow (dB b)), some (.ow (dI c.length)), none, none, none, none, none, none, none, none, none, none, none, none]) (by simp)
      (seq_nx (ρ1 := [some (.pa true box), some (.pa false (cal c)), some (.ow (dB b)), some (.ow (dI c.length)), none, none, some (.ow (cal (c ++ c))), some (.ow (cal c.reverse)), none, none, none, none, none, none, none, none]) (by simp [hcat])
        (seq_nx e1 (seq_nx (for_nx (x := ⟨(List.range 8).map fun i => PyData.int (i : Nat), none⟩) (by simp [r8]) h2) (by simp))))
  refine ⟨box', run_rt (ρ0 := [some (.pa true box), some (.pa false (cal c)), some (.ow (dB b))]) rfl p1 rfl, hB.mono (by omega)⟩
end
end L67

namespace L67
open PySem PySem.Spec PyProof.Rows L2 PL
abbrev sc (ns : List Int) : O := .sh (.list (ns.map .int))
abbrev lw (ns : List Int) (x1 : Option O) (box : O) (b : Bool) (x4 x5 : Option O) : Ev := [some (.pa false (sc ns)), mo x1, some (.ow box), some (.ow (dB b)), mo x4, mo x5, none]
theorem law_cal {c : List Int} (h : Cal c) (hl : c.length ≤ 14) {n : Int} {box : O} (hb : BoxOk n box) (hn : n ≤ 10000) (ns : List Int) (x1 : Option O) (b : Bool) (x4 x5 : Option O) :
    ∃ box', lb_law0 (lw ns x1 box b x4 (some (cal c))) = some (.nx (lw ns x1 box' (!b) x4 (some (cal c)))) ∧ BoxOk (n + 30) box' := by
  have hl' : c.length ≤ 31 := by omega
  obtain ⟨B1, e2, j1⟩ := v_other_right h hl hb hn (!b)
  have e1 := v_calendar_right h hl' b
  have e3 := v_judged h hl' B1 b
  obtain ⟨o0, rfl⟩ := hb.ol
  obtain ⟨o1, rfl⟩ := j1.ol
  refine ⟨.ol o1, ?_, j1⟩
  have key : ∀ F G J : FS, F.ms = [.br, .sh] → G.ms = [.io, .br, .sh] → J.ms = [.br, .sh, .sh] → F.f [cal c, dB b] = some (dB true, [cal c, dB b]) → G.f [.ol o0, cal c, dB (!b)] = some (dB true, [.ol o1, cal c, dB (!b)]) → J.f [.ol o1, cal c, dB b] = some (dB true, [.ol o1, cal c, dB b]) →
      ((xSeq (xIf (bOr (bNot (toB (frD (callF F (aCons (opV 5) (aCons (opE (dVar 3)) aNil)))))) (bOr (bNot (toB (frD (callF G (aCons (opV 2) (aCons (opV 5) (aCons (opE (ofB (bNot (toB (dVar 3))))) aNil))))))) (bNot (toB (frD (callF J (aCons (opV 2) (aCons (opE (dVar 5)) (aCons (opE (dVar 3)) aNil))))))))) (xRet (toO (dC (.bool false)))) xNext) (xAsg (toO (ofB (bNot (toB (dVar 3))))) (gN 3)))) (lw ns x1 (.ol o0) b x4 (some (cal c))) = some (.nx (lw ns x1 (.ol o1) (!b) x4 (some (cal c)))) := by
    intro F G J hF hG hJ q1 q2 q3
    simp [hF, hG, hJ, q1, q2, q3]
  exact key F_law_calendar_right F_law_other_right F_law_judged_right rfl rfl rfl e1 e2 e3
theorem two_cals (ns : List Int) (k : Int) {n : Int} {box : O} (hb : BoxOk n box) (hn : n ≤ 10000) (b : Bool) (x4 x5 : Option O) : ∃ (c c' : List Int) (box' : O), compF [6] (gN 6) (fun ρ => some (true, ρ)) (callF F_law_calendar (aCons (opV 2) aNil)) [.int 0, .int 1] (lw ns (some (dI k)) box b x4 x5) = some ([.sh (.tuple (c.map .int)), .sh (.tuple (c'.map .int))], lw ns (some (dI k)) box' b x4 x5) ∧ Cal c ∧ Cal c' ∧ c.length ≤ 14 ∧ c'.length ≤ 14 ∧ BoxOk (n + 40) box' := by
  obtain ⟨c, B1, e1, h1, l1, j1⟩ := v_calendar hb (by omega)
  obtain ⟨c', B2, e2, h2, l2, j2⟩ := v_calendar j1 (by omega)
  have hB : BoxOk (n + 40) B2 := j2.mono (by omega)
  obtain ⟨o0, rfl⟩ := hb.ol
  obtain ⟨o1, rfl⟩ := j1.ol
  obtain ⟨o2, rfl⟩ := j2.ol
  refine ⟨c, c', .ol o2, ?_, h1, h2, l1, l2, hB⟩
  have key : ∀ F : FS, F.ms = [.io] → F.f [.ol o0] = some (cal c, [.ol o1]) → F.f [.ol o1] = some (cal c', [.ol o2]) → compF [6] (gN 6) (fun ρ => some (true, ρ)) (callF F (aCons (opV 2) aNil)) [.int 0, .int 1] (lw ns (some (dI k)) (.ol o0) b x4 x5) = some ([.sh (.tuple (c.map .int)), .sh (.tuple (c'.map .int))], lw ns (some (dI k)) (.ol o2) b x4 x5) := by
    intro F hF q1 q2
    simp [ev_cp1, hF, q1, q2]
  exact key F_law_calendar rfl e1 e2
theorem law_turn (ns : List Int) (k : Nat) (hk : k ≤ 100) (x1 x2 x3 x4 x5 : Option O) : ∃ (box' : O) (b' : Bool) (y4 y5 : Option O), lb_law1 [some (.pa false (sc ns)), some (.ow (dI k)), mo x2, mo x3, mo x4, mo x5, none] = some (.nx (lw ns (some (dI k)) box' b' y4 y5)) := by
  obtain ⟨g, e1⟩ := v_cell ns k (by omega)
  obtain ⟨B0, e2, j0⟩ := v_box g
  obtain ⟨r, B1, e3, a1, a2, j1⟩ := v_take j0 (by omega) (many := 2) (by omega) (by omega)
  obtain ⟨c, c', B2, e4, h1, h2, l1, l2, j2⟩ := two_cals ns k j1 (by omega) (decide (r = 0)) x4 x5
  have p1 : xAsg (callF F_law_box (aCons (opE (frD (callF F_law_cell (aCons (opV 0) (aCons (opV 1) aNil))))) aNil)) (gN 2) [some (.pa false (sc ns)), some (.ow (dI k)), mo x2, mo x3, mo x4, mo x5, none] = some (.nx [some (.pa false (sc ns)), some (.ow (dI k)), some (.ow B0), mo x3, mo x4, mo x5, none]) := by
    have key : ∀ F G : FS, F.ms = [.br] → G.ms = [.br, .br] → F.f [dI g] = some (B0, [dI g]) → G.f [sc ns, dI k] = some (dI g, [sc ns, dI k]) → xAsg (callF F (aCons (opE (frD (callF G (aCons (opV 0) (aCons (opV 1) aNil))))) aNil)) (gN 2) [some (.pa false (sc ns)), some (.ow (dI k)), mo x2, mo x3, mo x4, mo x5, none] = some (.nx [some (.pa false (sc ns)), some (.ow (dI k)), some (.ow B0), mo x3, mo x4, mo x5, none]) := by
      intro F G hF hG q1 q2
      simp [hF, hG, q1, q2]
    exact key F_law_box F_law_cell rfl rfl e2 e1
  have p2 : xAsg (sBin uEq (opE (frD (callF F_law_take (aCons (opV 2) (aCons (opE (dC (.int 2))) aNil))))) (opE (dC (.int 0)))) (gN 3) [some (.pa false (sc ns)), some (.ow (dI k)), some (.ow B0), mo x3, mo x4, mo x5, none] = some (.nx (lw ns (some (dI k)) B1 (decide (r = 0)) x4 x5)) := by
    obtain ⟨o0, rfl⟩ := j0.ol
    obtain ⟨o1, rfl⟩ := j1.ol
    have key : ∀ F : FS, F.ms = [.io, .br] → F.f [.ol o0, dI 2] = some (dI r, [.ol o1, dI 2]) → xAsg (sBin uEq (opE (frD (callF F (aCons (opV 2) (aCons (opE (dC (.int 2))) aNil))))) (opE (dC (.int 0)))) (gN 3) [some (.pa false (sc ns)), some (.ow (dI k)), some (.ow (.ol o0)), mo x3, mo x4, mo x5, none] = some (.nx (lw ns (some (dI k)) (.ol o1) (decide (r = 0)) x4 x5)) := by
      intro F hF q1
      simp [hF, q1]
      by_cases z : r = 0 <;> simp [z]
    exact key F_law_take rfl e3
  have r2 : rgOk 2 = true := rgOk_of (by omega) (by omega)
  have p3 : xAsg (sComp (iRange (dC (.int 2))) [6] (gN 6) (fun ρ => some (true, ρ)) (callF F_law_calendar (aCons (opV 2) aNil))) (gN 4) (lw ns (some (dI k)) B1 (decide (r = 0)) x4 x5) = some (.nx (lw ns (some (dI k)) B2 (decide (r = 0)) (some (.ol [cal c, cal c'])) x5)) := by
    refine asg_ok (comp_ok' (x := ⟨[.int 0, .int 1], none⟩) (ρ1 := lw ns (some (dI k)) B1 (decide (r = 0)) x4 x5) ?_ (by simp) (by simp) e4) (by simp)
    have e : (List.range 2).map (fun k => PyData.int ((k : Nat) : Int)) = [.int 0, .int 1] := rfl
    simp only [ev_iRange, ev_dC, r2, if_true]
    rw [← e]
    rfl
  obtain ⟨ρ', ⟨box', b', y5, n', rfl, hB⟩, h3⟩ : ∃ ρ', (∃ (box : O) (b : Bool) (x5 : Option O) (n : Int), ρ' = lw ns (some (dI k)) box b (some (.ol [cal c, cal c'])) x5 ∧ BoxOk n box) ∧ forF (gN 5) lb_law0 [.tuple (c.map .int), .tuple (c'.map .int), .tuple (c.map .int)] (lw ns (some (dI k)) B2 (decide (r = 0)) (some (.ol [cal c, cal c'])) x5) = some (.nx ρ') := by
    obtain ⟨B3, q3, j3⟩ := law_cal h1 l1 j2 (by omega) ns (some (dI k)) (decide (r = 0)) (some (.ol [cal c, cal c'])) none
    obtain ⟨B4, q4, j4⟩ := law_cal h2 l2 j3 (by omega) ns (some (dI k)) (!(decide (r = 0))) (some (.ol [cal c, cal c'])) none
    obtain ⟨B5, q5, j5⟩ := law_cal h1 l1 j4 (by omega) ns (some (dI k)) (!(!(decide (r = 0)))) (some (.ol [cal c, cal c'])) none
    refine ⟨_, ⟨B5, !(!(!(decide (r = 0)))), some (cal c), _, rfl, j5⟩, ?_⟩
    have g1 : ∀ (box : O) (b : Bool) (x : Option O) (d : D), gN 5 (.sh d) (lw ns (some (dI k)) box b (some (.ol [cal c, cal c'])) x) = some (lw ns (some (dI k)) box b (some (.ol [cal c, cal c'])) (some (.sh d))) := fun box b x d => by simp
    rw [ev_for1, g1, bnd_some, q3]
    show forF _ _ _ _ = _
    rw [ev_for1, g1, bnd_some, q4]
    show forF _ _ _ _ = _
    rw [ev_for1, g1, bnd_some, q5]
    rfl
  refine ⟨box', b', some (.ol [cal c, cal c']), y5, ?_⟩
  unfold lb_law1
  refine seq_nx p1 (seq_nx p2 (seq_nx p3 (for_nx (x := ⟨[.tuple (c.map .int), .tuple (c'.map .int), .tuple (c.map .int)], none⟩) (seqI ?_) h3)))
  have e8 : PL.cutD [PyData.tuple (c.map .int), .tuple (c'.map .int)] none (some 1) = [.tuple (c.map .int)] := rfl
  have hS : sBin uAdd (opV 4) (opE (frD (sSl uSl (opV 4) oNone (oSome (dC (.int 1)))))) (lw ns (some (dI k)) B2 (decide (r = 0)) (some (.ol [cal c, cal c'])) x5) = some (.ol ([.tuple (c.map .int), .tuple (c'.map .int), .tuple (c.map .int)].map .sh), lw ns (some (dI k)) B2 (decide (r = 0)) (some (.ol [cal c, cal c'])) x5) := by
    refine bin_ok (x := .sl 4) (y := .vl (.list [.tuple (c.map .int)])) (o1 := .ol [cal c, cal c']) (o2 := .sh (.list [.tuple (c.map .int)])) rfl ?_ rfl rfl ?_
    · have e9 : uSl (.ol [cal c, cal c']) none (some 1) = some (.ol [cal c]) := by
        have := ev_slO [PyData.tuple (c.map .int), .tuple (c'.map .int)] none (some 1)
        rw [e8] at this
        exact this
      simp [e9]
    · exact ev_catOL (xs := [.tuple (c.map .int), .tuple (c'.map .int)]) rfl (by simp)
  rw [frD_ok hS, ev_olt, ev_tdsm]
theorem law_true (ns : List Int) (h : ns.length ≤ 63) : F_law.ms.length = 1 ∧ ∃ fins, F_law.f [.sh (.list (ns.map .int))] = some (.sh (.bool true), fins) := by
  refine ⟨rfl, [sc ns], ?_⟩
  obtain ⟨N, hN, e⟩ : ∃ N : Nat, N ≤ 63 ∧ iRange (frD (sCall uMax (aCons (opE (dC (.int 2))) (aCons (opE (frD (sCall uMin (aCons (opE (dC (.int 3))) (aCons (opE (frD (sCall uLen (aCons (opV 0) aNil)))) aNil))))) aNil)))) [some (.pa false (sc ns)), none, none, none, none, none, none] = some (⟨(List.range N).map fun k => PyData.int (k : Nat), none⟩, [some (.pa false (sc ns)), none, none, none, none, none, none]) := by
    have r : ∀ i : Int, 0 ≤ i → i ≤ 63 → rgOk i = true := fun i h0 h1 => rgOk_of (by omega) (by omega)
    by_cases z : (ns.length : Int) < 3
    · by_cases w : (2 : Int) < ns.length
      · exact ⟨ns.length, h, by simp [z, w, r ns.length (by omega) (by omega)]⟩
      · refine ⟨2, by omega, ?_⟩
        have z' : ns.length < 3 := by omega
        have w' : ¬ 2 < ns.length := by omega
        simp [z, w, r 2 (by omega) (by omega)]
    · refine ⟨3, by omega, ?_⟩
      have z' : ¬ ns.length < 3 := by omega
      simp [z, r 3 (by omega) (by omega)]
  obtain ⟨ρ', ⟨x1, x2, x3, x4, x5, rfl⟩, h2⟩ := for_all0 (gN 1) lb_law1 (fun _ ρ => ∃ x1 x2 x3 x4 x5 : Option O, ρ = [some (.pa false (sc ns)), mo x1, mo x2, mo x3, mo x4, mo x5, none]) N [some (.pa false (sc ns)), none, none, none, none, none, none] ⟨none, none, none, none, none, rfl⟩ (by
    rintro i hi _ ⟨x1, x2, x3, x4, x5, rfl⟩
    obtain ⟨box', b', y4, y5, q⟩ := law_turn ns i (by omega) x1 x2 x3 x4 x5
    exact ⟨[some (.pa false (sc ns)), some (.ow (dI i)), mo x2, mo x3, mo x4, mo x5, none], _, by simp, .inl q, some (dI i), some box', some (dB b'), y4, y5, rfl⟩)
  have p1 : b_law [some (.pa false (sc ns)), none, none, none, none, none, none] = some (.rt (dB true) [some (.pa false (sc ns)), mo x1, mo x2, mo x3, mo x4, mo x5, none]) := seq_nx (for_nx e h2) (by simp)
  exact run_rt (ρ0 := [some (.pa false (sc ns))]) rfl p1 rfl
end L67

open PySem PySem.W PyProof.Rows
set_option maxHeartbeats 0 in
theorem PySem.Challenge.cw_planwide_k67_whole_working_days_as_inver_holds : PySem.Challenge.rw_planwide_k67_whole_working_days_as_inver.Holds := by
  w_on; o_law; k_head; (case hw => w_witness2)
  k_fill
  refine L2.walk_of (l := PySem.Challenge.rw_planwide_k67_whole_working_days_as_inver) (n := 63) (k := 7) (x := "script") (CX := fun _ => L2.CX0) (sp := fun w => PL.spF _ L67.F_law) rfl (by decide) rfl ⟨rfl, by decide, by decide⟩ (fun w h Y => PySem.W.kIn_of Y) ?F (fun _ H a ns hl _ hS => PL.law_sp hS (L67.law_true ns hl)) (fun _ _ _ _ _ h => h)
  case F =>
    intro w mg fa h KX G hmg
    refine' L67.all_mk KX G hmg ?b_abs ?b_all ?b_bool ?b_dict ?b_enumerate ?b_int ?b_isinstance ?b_len ?b_list ?b_max ?b_min ?b_range ?b_str ?b_sum ?b_tuple ?g_MOST_DAYS ?d_law_box ?d_law_cell ?d_law_take ?d_law_calendar ?d_law_days ?d_law_same ?d_is_integer ?d_is_calendar ?d_check_calendar ?d_days_until ?d_time_of_day ?d_begun_at ?d_is_count ?d_begun ?d_worked ?d_done_at ?d_done ?d_law_told ?d_law_begun ?d_law_done ?d_law_calendar_right ?d_law_other_right ?d_law_judged_right ?d_law
    (case b_abs => k_is)
    (case b_all => k_is)
    (case b_bool => k_is)
    (case b_dict => k_is)
    (case b_enumerate => k_is)
    (case b_int => k_is)
    (case b_isinstance => k_is)
    (case b_len => k_is)
    (case b_list => k_is)
    (case b_max => k_is)
    (case b_min => k_is)
    (case b_range => k_is)
    (case b_str => k_is)
    (case b_sum => k_is)
    (case b_tuple => k_is)
    (case g_MOST_DAYS => exact ⟨_, by k_is⟩)
    (case d_law_box => refine' L67.defIn_mk ?a ?l ?c ?k; (case a => k_is); (case l => k_is); (case c => k_is); (case k => k_is))
    (case d_law_cell => refine' L67.defIn_mk ?a ?l ?c ?k; (case a => k_is); (case l => k_is); (case c => k_is); (case k => k_is))
    (case d_law_take => refine' L67.defIn_mk ?a ?l ?c ?k; (case a => k_is); (case l => k_is); (case c => k_is); (case k => k_is))
    (case d_law_calendar => refine' L67.defIn_mk ?a ?l ?c ?k; (case a => k_is); (case l => k_is); (case c => k_is); (case k => k_is))
    (case d_law_days => refine' L67.defIn_mk ?a ?l ?c ?k; (case a => k_is); (case l => k_is); (case c => k_is); (case k => k_is))
    (case d_law_same => refine' L67.defIn_mk ?a ?l ?c ?k; (case a => k_is); (case l => k_is); (case c => k_is); (case k => k_is))
    (case d_is_integer => refine' L67.defIn_mk ?a ?l ?c ?k; (case a => k_is); (case l => k_is); (case c => k_is); (case k => k_is))
    (case d_is_calendar => refine' L67.defIn_mk ?a ?l ?c ?k; (case a => k_is); (case l => k_is); (case c => k_is); (case k => k_is))
    (case d_check_calendar => refine' L67.defIn_mk ?a ?l ?c ?k; (case a => k_is); (case l => k_is); (case c => k_is); (case k => k_is))
    (case d_days_until => refine' L67.defIn_mk ?a ?l ?c ?k; (case a => k_is); (case l => k_is); (case c => k_is); (case k => k_is))
    (case d_time_of_day => refine' L67.defIn_mk ?a ?l ?c ?k; (case a => k_is); (case l => k_is); (case c => k_is); (case k => k_is))
    (case d_begun_at => refine' L67.defIn_mk ?a ?l ?c ?k; (case a => k_is); (case l => k_is); (case c => k_is); (case k => k_is))
    (case d_is_count => refine' L67.defIn_mk ?a ?l ?c ?k; (case a => k_is); (case l => k_is); (case c => k_is); (case k => k_is))
    (case d_begun => refine' L67.defIn_mk ?a ?l ?c ?k; (case a => k_is); (case l => k_is); (case c => k_is); (case k => k_is))
    (case d_worked => refine' L67.defIn_mk ?a ?l ?c ?k; (case a => k_is); (case l => k_is); (case c => k_is); (case k => k_is))
    (case d_done_at => refine' L67.defIn_mk ?a ?l ?c ?k; (case a => k_is); (case l => k_is); (case c => k_is); (case k => k_is))
    (case d_done => refine' L67.defIn_mk ?a ?l ?c ?k; (case a => k_is); (case l => k_is); (case c => k_is); (case k => k_is))
    (case d_law_told => refine' L67.defIn_mk ?a ?l ?c ?k; (case a => k_is); (case l => k_is); (case c => k_is); (case k => k_is))
    (case d_law_begun => refine' L67.defIn_mk ?a ?l ?c ?k; (case a => k_is); (case l => k_is); (case c => k_is); (case k => k_is))
    (case d_law_done => refine' L67.defIn_mk ?a ?l ?c ?k; (case a => k_is); (case l => k_is); (case c => k_is); (case k => k_is))
    (case d_law_calendar_right => refine' L67.defIn_mk ?a ?l ?c ?k; (case a => k_is); (case l => k_is); (case c => k_is); (case k => k_is))
    (case d_law_other_right => refine' L67.defIn_mk ?a ?l ?c ?k; (case a => k_is); (case l => k_is); (case c => k_is); (case k => k_is))
    (case d_law_judged_right => refine' L67.defIn_mk ?a ?l ?c ?k; (case a => k_is); (case l => k_is); (case c => k_is); (case k => k_is))
    (case d_law => refine' L67.defIn_mk ?a ?l ?c ?k; (case a => k_is); (case l => k_is); (case c => k_is); (case k => k_is))

import PyProof.Rows.All
import Wide.All
import OpenK.AllK
import Wide.FinOn
import HandS.ForMost
import HandS.ForExc
import HandS.TupAny
import HandS.TupMul
import HandS.TupLe
import HandS.Wide
import HandS.Star
import HandS.Deep
import HandS.Conv
import HandS.Zip
import HandS.Style
import HandS.Flow
import HandS.Walk
import HandS.Defaults
import HandS.Ends
import HandS.Exc
import HandS.ExcOwn
import HandS.Words
import HandS.Small
import HandS.TryOnly
import HandS.Rev
import PyProof.ReprRoads
import KE.GoesMore
import KE.GoesEnum
import HandS.Iter
import HandS.SortInts
import KE.GoesZip
import KE.GoesEnumKw
import HandS.Head0
import HandS.Head1
import HandS.Head2
import HandS.HeadEnd
import HandS.HeadHook1
import HandS.HeadHook2
import KE.KStateDown
import PySem.Challenge.RW_covernets_k48_whole_polynomials
set_option Elab.async false
set_option linter.all false
set_option maxRecDepth 100000
set_option maxHeartbeats 4000000
/-! DBase -/
namespace DL
open PySem PySem.Spec PyProof.Rows L2

/-- a value with all that it holds -/
inductive D where
  | non | bl (b : Bool) | int (i : Int) | str (x : Str) | tup (xs : List D) | lst (xs : List D) | dct (ks vs : List D) | src | scr (ns : List Int)
/-- a value, or lists and dicts that this def alone holds -/
inductive O where
  | val (d : D) | lst (os : List O) | dct (ks : List D) (os : List O)
mutual
def O.d : O → D
  | .val d => d
  | .lst os => .lst (O.ds os)
  | .dct ks os => .dct ks (O.ds os)
def O.ds : List O → List D
  | [] => []
  | o :: os => o.d :: O.ds os
end
@[simp] theorem O.d_val (d : D) : (O.val d).d = d := by simp [O.d]
@[simp] theorem O.d_lst (os : List O) : (O.lst os).d = .lst (O.ds os) := by simp [O.d]
@[simp] theorem O.d_dct (ks : List D) (os : List O) : (O.dct ks os).d = .dct ks (O.ds os) := by simp [O.d]
@[simp] theorem O.ds_nil : O.ds [] = [] := by simp [O.ds]
@[simp] theorem O.ds_cons (o : O) (os : List O) : O.ds (o :: os) = o.d :: O.ds os := by simp [O.ds]
theorem O.ds_map : ∀ os : List O, O.ds os = os.map O.d
  | [] => by simp
  | o :: os => by simp [O.ds_map os]
@[simp] theorem O.ds_vals (l : List D) : O.ds (l.map O.val) = l := by
  rw [O.ds_map, List.map_map]
  induction l with
  | nil => rfl
  | cons x r ih => simp [ih]
mutual
def noLst : D → Bool
  | .lst _ => false
  | .dct _ _ => false
  | .scr _ => false
  | .tup xs => noLsts xs
  | _ => true
def noLsts : List D → Bool
  | [] => true
  | x :: xs => noLst x && noLsts xs
end
@[simp] theorem noLst_non : noLst .non = true := by simp [noLst]
@[simp] theorem noLst_bl (b : Bool) : noLst (.bl b) = true := by simp [noLst]
@[simp] theorem noLst_int (i : Int) : noLst (.int i) = true := by simp [noLst]
@[simp] theorem noLst_str (i : Str) : noLst (.str i) = true := by simp [noLst]
@[simp] theorem noLst_src : noLst .src = true := by simp [noLst]
@[simp] theorem noLst_lst (xs : List D) : noLst (.lst xs) = false := by simp [noLst]
@[simp] theorem noLst_dct (xs ys : List D) : noLst (.dct xs ys) = false := by simp [noLst]
@[simp] theorem noLst_scr (xs : List Int) : noLst (.scr xs) = false := by simp [noLst]
@[simp] theorem noLst_tup (xs : List D) : noLst (.tup xs) = noLsts xs := by simp [noLst]
@[simp] theorem noLsts_nil : noLsts [] = true := by simp [noLsts]
@[simp] theorem noLsts_cons (x : D) (xs : List D) : noLsts (x :: xs) = (noLst x && noLsts xs) := by simp [noLsts]
theorem noLsts_iff : ∀ xs : List D, noLsts xs = true ↔ ∀ x ∈ xs, noLst x = true
  | [] => by simp
  | x :: xs => by simp [noLsts_iff xs]
@[simp] theorem noLsts_append (xs ys : List D) : noLsts (xs ++ ys) = (noLsts xs && noLsts ys) := by
  induction xs with
  | nil => simp
  | cons x r ih => simp [ih, Bool.and_assoc]
mutual
def O.clean : O → Bool
  | .val d => noLst d
  | .lst os => O.cleans os
  | .dct _ os => O.cleans os
def O.cleans : List O → Bool
  | [] => true
  | o :: os => o.clean && O.cleans os
end
@[simp] theorem O.clean_val (d : D) : (O.val d).clean = noLst d := by simp [O.clean]
@[simp] theorem O.clean_lst (os : List O) : (O.lst os).clean = O.cleans os := by simp [O.clean]
@[simp] theorem O.clean_dct (ks : List D) (os : List O) : (O.dct ks os).clean = O.cleans os := by simp [O.clean]
@[simp] theorem O.cleans_nil : O.cleans [] = true := by simp [O.cleans]
@[simp] theorem O.cleans_cons (o : O) (os : List O) : O.cleans (o :: os) = (o.clean && O.cleans os) := by simp [O.cleans]
theorem O.cleans_iff : ∀ os : List O, O.cleans os = true ↔ ∀ o ∈ os, o.clean = true
  | [] => by simp
  | o :: os => by simp [O.cleans_iff os]
@[simp] theorem O.cleans_append (xs ys : List O) : O.cleans (xs ++ ys) = (O.cleans xs && O.cleans ys) := by
  induction xs with
  | nil => simp
  | cons x r ih => simp [ih, Bool.and_assoc]

abbrev Zs := List (Addr × Addr)
def inZ (Z : Zs) (b : Addr) : Prop := ∃ p ∈ Z, b = p.1 ∨ b = p.2
def kD : Key → D
  | .inl i => .int i
  | .inr x => .str x
mutual
inductive At (K : PySem.W.Frag) (Z : Zs) (F : Hp) : V → D → Prop
  | non : At K Z F .non .non
  | bl (b : Bool) : At K Z F (.bl b) (.bl b)
  | int (i : Int) : At K Z F (.int i) (.int i)
  | str (x : Str) : At K Z F (.str x) (.str x)
  | tup {a : Addr} {vs : List V} {ds : List D} : SqT K F a vs → Ats K Z F vs ds → At K Z F (.ref a) (.tup ds)
  | lst {a : Addr} {vs : List V} {ds : List D} : F a = some (.lst vs) → Ats K Z F vs ds → At K Z F (.ref a) (.lst ds)
  | scr {a : Addr} {ns : List Int} : SqL K F a (ns.map V.int) → At K Z F (.ref a) (.scr ns)
  | dctK {a : Addr} {kvs : List (Key × V)} {ds : List D} : Rd F a (.dK kvs) → Ats K Z F (kvs.map (·.2)) ds → At K Z F (.ref a) (.dct (kvs.map fun p => kD p.1) ds)
  | dctT {a : Addr} {kvs : List (List Key × V)} {ds : List D} : Rd F a (.dT kvs) → Ats K Z F (kvs.map (·.2)) ds → At K Z F (.ref a) (.dct (kvs.map fun p => .tup (p.1.map kD)) ds)
  | src {a c : Addr} : (a, c) ∈ Z → At K Z F (.ref a) .src
inductive Ats (K : PySem.W.Frag) (Z : Zs) (F : Hp) : List V → List D → Prop
  | nil : Ats K Z F [] []
  | cons {v : V} {vs : List V} {d : D} {ds : List D} : At K Z F v d → Ats K Z F vs ds → Ats K Z F (v :: vs) (d :: ds)
end
def Sub (F H : Hp) : Prop := ∀ a u, F a = some u → H a = some u
theorem Sub.refl (H : Hp) : Sub H H := fun _ _ h => h
theorem Sub.trans {F G H : Hp} (a : Sub F G) (b : Sub G H) : Sub F H := fun c u h => b c u (a c u h)
theorem Sub.sqL {K : PySem.W.Frag} {F H : Hp} {a : Addr} {xs : List V} (e : Sub F H) (h : SqL K F a xs) : SqL K H a xs := Same.seq (H := F) (H' := H) e h
theorem Sub.rd {F H : Hp} {a : Addr} {u : HO} (e : Sub F H) (h : Rd F a u) : Rd H a u := by
  rcases h with h | ⟨o, h⟩
  · exact .inl (e _ _ h)
  · exact .inr ⟨o, e _ _ h⟩
theorem Sub.sqT {K : PySem.W.Frag} {F H : Hp} {a : Addr} {xs : List V} (e : Sub F H) (h : SqT K F a xs) : SqT K H a xs := by
  rcases h with h | h
  · exact .inl (e.rd h)
  · exact .inr h
section
variable {K : PySem.W.Frag} {Z Z' : Zs} {F G H : Hp}
mutual
theorem At.mono (e : Sub F G) (z : ∀ p ∈ Z, p ∈ Z') : ∀ {v : V} {d : D}, At K Z F v d → At K Z' G v d
  | _, _, .non => .non
  | _, _, .bl b => .bl b
  | _, _, .int i => .int i
  | _, _, .str x => .str x
  | _, _, .tup h hs => .tup (e.sqT h) (Ats.mono e z hs)
  | _, _, .lst h hs => .lst (e _ _ h) (Ats.mono e z hs)
  | _, _, .scr h => .scr (e.sqL h)
  | _, _, .dctK h hs => .dctK (e.rd h) (Ats.mono e z hs)
  | _, _, .dctT h hs => .dctT (e.rd h) (Ats.mono e z hs)
  | _, _, .src h => .src (z _ h)
theorem Ats.mono (e : Sub F G) (z : ∀ p ∈ Z, p ∈ Z') : ∀ {vs : List V} {ds : List D}, Ats K Z F vs ds → Ats K Z' G vs ds
  | _, _, .nil => .nil
  | _, _, .cons h hs => .cons (At.mono e z h) (Ats.mono e z hs)
end
theorem Ats.length : ∀ {vs : List V} {ds : List D}, Ats K Z F vs ds → vs.length = ds.length
  | _, _, .nil => rfl
  | _, _, .cons _ t => by simp [Ats.length t]
theorem Ats.get : ∀ {vs : List V} {ds : List D} {i : Nat} {d : D}, Ats K Z F vs ds → ds[i]? = some d → ∃ v, vs[i]? = some v ∧ At K Z F v d
  | _, _, _, _, .nil, e => by simp at e
  | _, _, 0, _, .cons h _, e => by simp at e; subst e; exact ⟨_, rfl, h⟩
  | _, _, i + 1, d, .cons _ t, e => by
    obtain ⟨v, h1, h2⟩ := Ats.get (i := i) (d := d) t (by simpa using e)
    exact ⟨v, by simpa using h1, h2⟩
theorem Ats.getV : ∀ {vs : List V} {ds : List D} {i : Nat} {v : V}, Ats K Z F vs ds → vs[i]? = some v → ∃ d, ds[i]? = some d ∧ At K Z F v d
  | _, _, _, _, .nil, e => by simp at e
  | _, _, 0, _, .cons h _, e => by simp at e; subst e; exact ⟨_, rfl, h⟩
  | _, _, i + 1, v, .cons _ t, e => by
    obtain ⟨d, h1, h2⟩ := Ats.getV (i := i) (v := v) t (by simpa using e)
    exact ⟨d, by simpa using h1, h2⟩
theorem Ats.append : ∀ {vs ws : List V} {ds es : List D}, Ats K Z F vs ds → Ats K Z F ws es → Ats K Z F (vs ++ ws) (ds ++ es)
  | _, _, _, _, .nil, s => s
  | _, _, _, _, .cons h t, s => .cons h (Ats.append t s)
theorem Ats.take (n : Nat) : ∀ {vs : List V} {ds : List D}, Ats K Z F vs ds → Ats K Z F (vs.take n) (ds.take n) := by
  induction n with
  | zero => intro vs ds _; simpa using Ats.nil
  | succ n ih =>
    intro vs ds h
    cases h with
    | nil => simpa using Ats.nil
    | cons h t => simpa using Ats.cons h (ih t)
theorem Ats.drop (n : Nat) : ∀ {vs : List V} {ds : List D}, Ats K Z F vs ds → Ats K Z F (vs.drop n) (ds.drop n) := by
  induction n with
  | zero => intro vs ds h; simpa using h
  | succ n ih =>
    intro vs ds h
    cases h with
    | nil => simpa using Ats.nil
    | cons h t => simpa using ih t
theorem Ats.one {v : V} {d : D} (h : At K Z F v d) : Ats K Z F [v] [d] := .cons h .nil
theorem Ats.rev : ∀ {vs : List V} {ds : List D}, Ats K Z F vs ds → Ats K Z F vs.reverse ds.reverse
  | _, _, .nil => by simpa using Ats.nil
  | _, _, .cons h t => by
    rw [List.reverse_cons, List.reverse_cons]
    exact (Ats.rev t).append (.one h)
theorem Ats.rep {v : V} {d : D} (h : At K Z F v d) : ∀ n : Nat, Ats K Z F (List.replicate n v) (List.replicate n d)
  | 0 => .nil
  | n + 1 => .cons h (Ats.rep h n)
theorem Ats.ints : ∀ ns : List Int, Ats K Z F (ns.map V.int) (ns.map D.int)
  | [] => .nil
  | n :: r => .cons (.int n) (Ats.ints r)
/-- tuples stay tuples: what has no list in it needs no list's place -/
def isTupO : HO → Bool
  | .tup _ => true
  | .frz _ (.tup _) => true
  | _ => false
mutual
theorem At.strip (e : ∀ a u, G a = some u → isTupO u = true → F a = some u) : ∀ {v : V} {d : D}, At K Z G v d → noLst d = true → At K Z F v d
  | _, _, .non, _ => .non
  | _, _, .bl b, _ => .bl b
  | _, _, .int i, _ => .int i
  | _, _, .str x, _ => .str x
  | _, _, .tup (a := a) (vs := vs) h hs, n => by
    refine .tup ?_ (Ats.strip e hs (by simpa using n))
    rcases h with h | h
    · rcases h with h | ⟨o, h⟩
      · exact .inl (.inl (e _ _ h rfl))
      · exact .inl (.inr ⟨o, e _ _ h rfl⟩)
    · exact .inr h
  | _, _, .lst _ _, n => by simp at n
  | _, _, .scr _, n => by simp at n
  | _, _, .dctK _ _, n => by simp at n
  | _, _, .dctT _ _, n => by simp at n
  | _, _, .src h, _ => .src h
theorem Ats.strip (e : ∀ a u, G a = some u → isTupO u = true → F a = some u) : ∀ {vs : List V} {ds : List D}, Ats K Z G vs ds → noLsts ds = true → Ats K Z F vs ds
  | _, _, .nil, _ => .nil
  | _, _, .cons h t, n => by
    have n' := Bool.and_eq_true_iff.mp (by simpa using n)
    exact .cons (At.strip e h n'.1) (Ats.strip e t n'.2)
end
end

mutual
inductive RO (K : PySem.W.Frag) (Z : Zs) (F H : Hp) : V → O → List Addr → Prop
  | val {v : V} {d : D} : At K Z F v d → RO K Z F H v (.val d) []
  | lst {a : Addr} {vs : List V} {os : List O} {cs : List Addr} : H a = some (.lst vs) → ROs K Z F H vs os cs → RO K Z F H (.ref a) (.lst os) (a :: cs)
  | dctK {a : Addr} {kvs : List (Key × V)} {os : List O} {cs : List Addr} : H a = some (.dK kvs) → ROs K Z F H (kvs.map (·.2)) os cs → RO K Z F H (.ref a) (.dct (kvs.map fun p => kD p.1) os) (a :: cs)
  | dctT {a : Addr} {kvs : List (List Key × V)} {os : List O} {cs : List Addr} : H a = some (.dT kvs) → ROs K Z F H (kvs.map (·.2)) os cs → RO K Z F H (.ref a) (.dct (kvs.map fun p => .tup (p.1.map kD)) os) (a :: cs)
inductive ROs (K : PySem.W.Frag) (Z : Zs) (F H : Hp) : List V → List O → List Addr → Prop
  | nil : ROs K Z F H [] [] []
  | cons {v : V} {vs : List V} {o : O} {os : List O} {cs ds : List Addr} : RO K Z F H v o cs → ROs K Z F H vs os ds → ROs K Z F H (v :: vs) (o :: os) (cs ++ ds)
end
section
variable {K : PySem.W.Frag} {Z Z' : Zs} {F F' H H' : Hp}
mutual
theorem RO.mono (e : Sub F F') (z : ∀ p ∈ Z, p ∈ Z') : ∀ {v : V} {o : O} {cs : List Addr}, RO K Z F H v o cs → (∀ c ∈ cs, ∀ u, H c = some u → H' c = some u) → RO K Z' F' H' v o cs
  | _, _, _, .val h, _ => .val (h.mono e z)
  | _, _, _, .lst h hs, k => .lst (k _ (by simp) _ h) (ROs.mono e z hs fun c hc => k c (by simp [hc]))
  | _, _, _, .dctK h hs, k => .dctK (k _ (by simp) _ h) (ROs.mono e z hs fun c hc => k c (by simp [hc]))
  | _, _, _, .dctT h hs, k => .dctT (k _ (by simp) _ h) (ROs.mono e z hs fun c hc => k c (by simp [hc]))
theorem ROs.mono (e : Sub F F') (z : ∀ p ∈ Z, p ∈ Z') : ∀ {vs : List V} {os : List O} {cs : List Addr}, ROs K Z F H vs os cs → (∀ c ∈ cs, ∀ u, H c = some u → H' c = some u) → ROs K Z' F' H' vs os cs
  | _, _, _, .nil, _ => .nil
  | _, _, _, .cons h hs, k => .cons (RO.mono e z h fun c hc => k c (by simp [hc])) (ROs.mono e z hs fun c hc => k c (by simp [hc]))
end
theorem ROs.length : ∀ {vs : List V} {os : List O} {cs : List Addr}, ROs K Z F H vs os cs → vs.length = os.length
  | _, _, _, .nil => rfl
  | _, _, _, .cons _ t => by simp [ROs.length t]
theorem ROs.append : ∀ {vs ws : List V} {os ps : List O} {cs ds : List Addr}, ROs K Z F H vs os cs → ROs K Z F H ws ps ds → ROs K Z F H (vs ++ ws) (os ++ ps) (cs ++ ds)
  | _, _, _, _, _, _, .nil, s => s
  | _, _, _, _, _, _, .cons (cs := c1) (ds := c2) h t, s => by
    rw [List.append_assoc]
    exact .cons h (ROs.append t s)
theorem ROs.vals : ∀ {vs : List V} {ds : List D}, Ats K Z F vs ds → ROs K Z F H vs (ds.map O.val) []
  | _, _, .nil => .nil
  | _, _, .cons h t => by
    have := ROs.cons (K := K) (Z := Z) (F := F) (H := H) (.val h) (ROs.vals t)
    simpa using this
/-- what may be own -/
def isCellO : HO → Bool
  | .lst _ => true
  | .dK _ => true
  | .dT _ => true
  | _ => false
theorem isTup_cell {u : HO} (h : isCellO u = true) : isTupO u = false := by cases u <;> simp [isCellO, isTupO] at h ⊢
mutual
/-- the cells stand in the heap -/
theorem RO.there : ∀ {v : V} {o : O} {cs : List Addr}, RO K Z F H v o cs → ∀ c ∈ cs, ∃ u, H c = some u ∧ isCellO u = true
  | _, _, _, .val _, c, hc => by simp at hc
  | _, _, _, .lst h hs, c, hc => by
    rcases List.mem_cons.mp hc with rfl | hc
    · exact ⟨_, h, rfl⟩
    · exact ROs.there hs c hc
  | _, _, _, .dctK h hs, c, hc => by
    rcases List.mem_cons.mp hc with rfl | hc
    · exact ⟨_, h, rfl⟩
    · exact ROs.there hs c hc
  | _, _, _, .dctT h hs, c, hc => by
    rcases List.mem_cons.mp hc with rfl | hc
    · exact ⟨_, h, rfl⟩
    · exact ROs.there hs c hc
theorem ROs.there : ∀ {vs : List V} {os : List O} {cs : List Addr}, ROs K Z F H vs os cs → ∀ c ∈ cs, ∃ u, H c = some u ∧ isCellO u = true
  | _, _, _, .nil, c, hc => by simp at hc
  | _, _, _, .cons h t, c, hc => by
    rcases List.mem_append.mp hc with hc | hc
    · exact RO.there h c hc
    · exact ROs.there t c hc
end
mutual
/-- frozen -/
theorem RO.at_ (e : Sub F F') : ∀ {v : V} {o : O} {cs : List Addr}, RO K Z F H v o cs → (∀ c ∈ cs, F' c = H c) → At K Z F' v o.d
  | _, _, _, .val h, _ => by simpa using h.mono e fun _ q => q
  | _, _, _, .lst h hs, k => by
    simp only [O.d_lst]
    exact .lst ((k _ (by simp)).trans h) (ROs.at_ e hs fun c hc => k c (by simp [hc]))
  | _, _, _, .dctK h hs, k => by
    simp only [O.d_dct]
    exact .dctK (.inl ((k _ (by simp)).trans h)) (ROs.at_ e hs fun c hc => k c (by simp [hc]))
  | _, _, _, .dctT h hs, k => by
    simp only [O.d_dct]
    exact .dctT (.inl ((k _ (by simp)).trans h)) (ROs.at_ e hs fun c hc => k c (by simp [hc]))
theorem ROs.at_ (e : Sub F F') : ∀ {vs : List V} {os : List O} {cs : List Addr}, ROs K Z F H vs os cs → (∀ c ∈ cs, F' c = H c) → Ats K Z F' vs (O.ds os)
  | _, _, _, .nil, _ => by simpa using Ats.nil
  | _, _, _, .cons h t, k => by
    simp only [O.ds_cons]
    exact .cons (RO.at_ e h fun c hc => k c (by simp [hc])) (ROs.at_ e t fun c hc => k c (by simp [hc]))
end
mutual
/-- without lists at the leaves, another frozen heap with the same tuples does -/
theorem RO.strip (e : ∀ a u, F a = some u → isTupO u = true → F' a = some u) : ∀ {v : V} {o : O} {cs : List Addr}, RO K Z F H v o cs → o.clean = true → RO K Z F' H v o cs
  | _, _, _, .val h, n => .val (h.strip e (by simpa using n))
  | _, _, _, .lst h hs, n => .lst h (ROs.strip e hs (by simpa using n))
  | _, _, _, .dctK h hs, n => .dctK h (ROs.strip e hs (by simpa using n))
  | _, _, _, .dctT h hs, n => .dctT h (ROs.strip e hs (by simpa using n))
theorem ROs.strip (e : ∀ a u, F a = some u → isTupO u = true → F' a = some u) : ∀ {vs : List V} {os : List O} {cs : List Addr}, ROs K Z F H vs os cs → O.cleans os = true → ROs K Z F' H vs os cs
  | _, _, _, .nil, _ => .nil
  | _, _, _, .cons h t, n => by
    have n' := Bool.and_eq_true_iff.mp (by simpa using n)
    exact .cons (RO.strip e h n'.1) (ROs.strip e t n'.2)
end
end

structure SrcAt (H : Hp) (a c : Addr) : Prop where
  ex : ∃ (cells : List Int) (left mixed turn : Int),
    H a = some (.dK [(.inr "cells", .ref c), (.inr "left", .int left), (.inr "mixed", .int mixed), (.inr "turn", .int turn)]) ∧ H c = some (.lst (cells.map V.int)) ∧
    (∀ x ∈ cells, 0 ≤ x) ∧ 0 ≤ left ∧ 0 ≤ mixed ∧ mixed < 2147483647 ∧ 0 ≤ turn
structure SrcOk (Z : Zs) (H : Hp) : Prop where
  ok : ∀ p ∈ Z, SrcAt H p.1 p.2
  ap : ∀ p ∈ Z, ∀ q ∈ Z, p.1 = q.1 ∨ p.2 = q.2 → p = q

/-- a ghost: the sources, what is frozen, the abstract heap -/
structure Gh where
  Z : Zs
  F : Hp
  H : Hp
structure Gh.Ok (g : Gh) : Prop where
  sub : Sub g.F g.H
  src : SrcOk g.Z g.H
  nz : ∀ a, inZ g.Z a → g.F a = none
structure Step (g g' : Gh) : Prop where
  ok : g'.Ok
  up : Sub g.F g'.F
  new : ∀ a, g.F a = none → g'.F a ≠ none → g.H a = none
  keep : ∀ a u, g.H a = some u → ¬ inZ g.Z a → g'.H a = some u
  zs : ∀ p ∈ g.Z, p ∈ g'.Z
  zn : ∀ a, inZ g'.Z a → inZ g.Z a ∨ g.H a = none
theorem Gh.Ok.refl {g : Gh} (h : g.Ok) : Step g g := ⟨h, Sub.refl _, fun _ a b => absurd a b, fun _ _ e _ => e, fun _ q => q, fun _ q => .inl q⟩
theorem Gh.Ok.thereZ {g : Gh} (h : g.Ok) {a : Addr} (z : inZ g.Z a) : ∃ u, g.H a = some u := by
  obtain ⟨p, hp, e⟩ := z
  obtain ⟨cells, left, mixed, turn, h1, h2, _⟩ := (h.src.ok p hp).ex
  rcases e with rfl | rfl
  · exact ⟨_, h1⟩
  · exact ⟨_, h2⟩
theorem Step.trans {g g1 g2 : Gh} (s : Step g g1) (t : Step g1 g2) : Step g g2 where
  ok := t.ok
  up := s.up.trans t.up
  new := fun a n m => by
    cases e : g1.F a with
    | some u => exact s.new a n (by rw [e]; simp)
    | none =>
      have h1 := t.new a e m
      cases q : g.H a with
      | none => rfl
      | some u =>
        by_cases z : inZ g.Z a
        · have : inZ g2.Z a := by
            obtain ⟨p, hp, r⟩ := z
            exact ⟨p, t.zs _ (s.zs _ hp), r⟩
          exact absurd (t.ok.nz a this) m
        · rw [s.keep a u q z] at h1
          cases h1
  keep := fun a u e z => by
    have h1 := s.keep a u e z
    refine t.keep a u h1 fun z' => ?_
    rcases s.zn a z' with q | q
    · exact z q
    · rw [q] at e; cases e
  zs := fun p hp => t.zs p (s.zs p hp)
  zn := fun a z => by
    rcases t.zn a z with q | q
    · exact s.zn a q
    · cases e : g.H a with
      | none => exact .inr rfl
      | some u =>
        by_cases z' : inZ g.Z a
        · exact .inl z'
        · rw [s.keep a u e z'] at q; cases q
/-- what was not there stays apart of what is frozen later, if it is there by now -/
theorem Step.apart {g g' : Gh} (s : Step g g') {c : Addr} {u : HO} (n : g.F c = none) (h : g.H c = some u) : g'.F c = none := by
  cases e : g'.F c with
  | none => rfl
  | some w =>
    have := s.new c n (by rw [e]; simp)
    rw [h] at this; cases this

abbrev DEnv := List (Option D)
structure ES (K : PySem.W.Frag) (g : Gh) (env : DEnv) (σ : L2.St) : Prop where
  ok : g.Ok
  len : env.length = σ.length
  slot : ∀ (i : Nat) (d : D), env[i]? = some (some d) → ∃ v, σ[i]? = some (some v) ∧ At K g.Z g.F v d
theorem ES.step {K : PySem.W.Frag} {g g' : Gh} {env : DEnv} {σ : L2.St} (h : ES K g env σ) (s : Step g g') : ES K g' env σ :=
  ⟨s.ok, h.len, fun i d e => let ⟨v, e1, e2⟩ := h.slot i d e; ⟨v, e1, e2.mono s.up s.zs⟩⟩
/-- a result: its own cells are new -/
def RR (K : PySem.W.Frag) (g g' : Gh) (v : V) (o : O) : Prop := ∃ cs, RO K g'.Z g'.F g'.H v o cs ∧ cs.Nodup ∧ ∀ c ∈ cs, g'.F c = none ∧ g.H c = none ∧ ¬ inZ g'.Z c
theorem RR.val {K : PySem.W.Frag} {g g' : Gh} {v : V} {d : D} (h : At K g'.Z g'.F v d) : RR K g g' v (.val d) := ⟨[], .val h, .nil, fun _ z => by simp at z⟩
open Classical in
/-- some cells frozen -/
noncomputable def thaw (F H : Hp) (cs : Addr → Prop) : Hp := fun a => if cs a then H a else F a
theorem thaw_in {F H : Hp} {cs : Addr → Prop} {a : Addr} (h : cs a) : thaw F H cs a = H a := if_pos h
theorem thaw_out {F H : Hp} {cs : Addr → Prop} {a : Addr} (h : ¬ cs a) : thaw F H cs a = F a := if_neg h
theorem thaw_up {F H : Hp} {cs : Addr → Prop} (h : ∀ c, cs c → F c = none) : Sub F (thaw F H cs) := fun a u e => by
  by_cases m : cs a
  · rw [h a m] at e; cases e
  · rw [thaw_out m]; exact e
theorem thaw_sub {F H : Hp} {cs : Addr → Prop} (h : Sub F H) : Sub (thaw F H cs) H := fun a u e => by
  by_cases m : cs a
  · rw [thaw_in m] at e; exact e
  · rw [thaw_out m] at e; exact h a u e
theorem Gh.Ok.thaw {g : Gh} (o : g.Ok) {cs : Addr → Prop} (z : ∀ c, cs c → ¬ inZ g.Z c) : Gh.Ok ⟨g.Z, DL.thaw g.F g.H cs, g.H⟩ :=
  ⟨thaw_sub o.sub, o.src, fun a i => by
    show DL.thaw g.F g.H cs a = none
    rw [thaw_out fun m => z a m i]
    exact o.nz a i⟩
/-- the result frozen -/
theorem RR.freeze {K : PySem.W.Frag} {g g' : Gh} {v : V} {o : O} (s : Step g g') (h : RR K g g' v o) : ∃ F', Step g ⟨g'.Z, F', g'.H⟩ ∧ Sub g'.F F' ∧ At K g'.Z F' v o.d := by
  obtain ⟨cs, r, nd, hc⟩ := h
  refine ⟨thaw g'.F g'.H (· ∈ cs), ⟨s.ok.thaw fun c m => (hc c m).2.2, s.up.trans (thaw_up fun c m => (hc c m).1), fun a n m => ?_, s.keep, s.zs, s.zn⟩, thaw_up fun c m => (hc c m).1, r.at_ (thaw_up fun c m => (hc c m).1) fun c m => thaw_in m⟩
  by_cases q : a ∈ cs
  · exact (hc a q).2.1
  · have m' : thaw g'.F g'.H (· ∈ cs) a ≠ none := m
    rw [thaw_out q] at m'
    exact s.new a n m'
/-- a new place -/
theorem Gh.Ok.noZ {g : Gh} (o : g.Ok) {p : Addr} (n : g.H p = none) : ¬ inZ g.Z p := fun z => by
  obtain ⟨u, h⟩ := o.thereZ z
  rw [n] at h; cases h
theorem Gh.Ok.noF {g : Gh} (o : g.Ok) {p : Addr} (n : g.H p = none) : g.F p = none := by
  cases e : g.F p with
  | none => rfl
  | some u => have := o.sub p u e; rw [n] at this; cases this
theorem SrcAt.keep {H H' : Hp} {a c : Addr} (h : SrcAt H a c) (k : ∀ b u, (b = a ∨ b = c) → H b = some u → H' b = some u) : SrcAt H' a c := by
  obtain ⟨cells, left, mixed, turn, h1, h2, r⟩ := h.ex
  exact ⟨cells, left, mixed, turn, k _ _ (.inl rfl) h1, k _ _ (.inr rfl) h2, r⟩
theorem SrcOk.keep {Z : Zs} {H H' : Hp} (h : SrcOk Z H) (k : ∀ b u, inZ Z b → H b = some u → H' b = some u) : SrcOk Z H' :=
  ⟨fun p hp => (h.ok p hp).keep fun b u e => k b u ⟨p, hp, e⟩, h.ap⟩
/-- a new object, own -/
theorem Step.laid {g : Gh} (o : g.Ok) {p : Addr} {u : HO} (n : g.H p = none) : Step g ⟨g.Z, g.F, upd g.H p u⟩ where
  ok := ⟨fun a w e => by
    show upd g.H p u a = some w
    rw [upd_ne (ne_of_none (o.sub a w e) n)]
    exact o.sub a w e, o.src.keep fun b w _ e => by
      show upd g.H p u b = some w
      rw [upd_ne (ne_of_none e n)]
      exact e, o.nz⟩
  up := Sub.refl _
  new := fun _ a b => absurd a b
  keep := fun a w e _ => by
    show upd g.H p u a = some w
    rw [upd_ne (ne_of_none e n)]
    exact e
  zs := fun _ q => q
  zn := fun _ q => .inl q
/-- a new object, frozen at once -/
theorem Step.laidF {g : Gh} (o : g.Ok) {p : Addr} {u : HO} (n : g.H p = none) : Step g ⟨g.Z, upd g.F p u, upd g.H p u⟩ where
  ok := ⟨fun a w e => by
    have e : upd g.F p u a = some w := e
    show upd g.H p u a = some w
    by_cases q : a = p
    · subst q; rw [upd_same] at e ⊢; exact e
    · rw [upd_ne q] at e ⊢
      exact o.sub a w e, o.src.keep fun b w _ e => by
      show upd g.H p u b = some w
      rw [upd_ne (ne_of_none e n)]
      exact e, fun a z => by
        show upd g.F p u a = none
        rw [upd_ne (show a ≠ p from fun e => o.noZ n (by rw [← e]; exact z))]
        exact o.nz a z⟩
  up := fun a w e => by
    show upd g.F p u a = some w
    rw [upd_ne (ne_of_none (o.sub a w e) n)]
    exact e
  new := fun a h1 h2 => by
    have h2 : upd g.F p u a ≠ none := h2
    by_cases q : a = p
    · subst q; exact n
    · rw [upd_ne q] at h2; exact absurd h1 h2
  keep := fun a w e _ => by
    show upd g.H p u a = some w
    rw [upd_ne (ne_of_none e n)]
    exact e
  zs := fun _ q => q
  zn := fun _ q => .inl q
theorem Step.none_ {g g1 : Gh} (s : Step g g1) {c : Addr} (h : g1.H c = none) : g.H c = none := by
  cases e : g.H c with
  | none => rfl
  | some u =>
    by_cases z : inZ g.Z c
    · obtain ⟨p, hp, r⟩ := z
      obtain ⟨w, hw⟩ := s.ok.thereZ (a := c) ⟨p, s.zs _ hp, r⟩
      rw [h] at hw; cases hw
    · rw [s.keep c u e z] at h; cases h
theorem RR.back {K : PySem.W.Frag} {g g1 g' : Gh} {v : V} {o : O} (s : Step g g1) (h : RR K g1 g' v o) : RR K g g' v o := by
  obtain ⟨cs, r, nd, hc⟩ := h
  exact ⟨cs, r, nd, fun c m => ⟨(hc c m).1, s.none_ (hc c m).2.1, (hc c m).2.2⟩⟩
/-- a new list of frozen things -/
theorem RR.newL {K : PySem.W.Frag} {g : Gh} (o : g.Ok) {p : Addr} {vs : List V} {ds : List D} (n : g.H p = none) (h : Ats K g.Z g.F vs ds) : RR K g ⟨g.Z, g.F, upd g.H p (.lst vs)⟩ (.ref p) (.lst (ds.map .val)) :=
  ⟨[p], .lst upd_same (.vals h), by simp, fun c m => by
    obtain rfl : c = p := by simpa using m
    exact ⟨o.noF n, n, o.noZ n⟩⟩
theorem RR.newT {K : PySem.W.Frag} {g : Gh} (o : g.Ok) {p : Addr} {vs : List V} {ds : List D} (n : g.H p = none) (h : Ats K g.Z g.F vs ds) : RR K g ⟨g.Z, upd g.F p (.tup vs), upd g.H p (.tup vs)⟩ (.ref p) (.val (.tup ds)) :=
  .val (.tup (SqT.of upd_same) (h.mono (Step.laidF o n).up fun _ q => q))
/-- an own cell is written -/
theorem Step.own {g g' : Gh} (s : Step g g') {c : Addr} {u : HO} (h : g.H c = none) (f : g'.F c = none) (z : ¬ inZ g'.Z c) : Step g ⟨g'.Z, g'.F, upd g'.H c u⟩ where
  ok := ⟨fun a w e => by
    show upd g'.H c u a = some w
    rw [upd_ne fun q => by rw [q, f] at e; cases e]
    exact s.ok.sub a w e, s.ok.src.keep fun b w i e => by
      show upd g'.H c u b = some w
      rw [upd_ne fun q => z (by rw [← q]; exact i)]
      exact e, s.ok.nz⟩
  up := s.up
  new := s.new
  keep := fun a w e nz => by
    show upd g'.H c u a = some w
    rw [upd_ne (ne_of_none e h)]
    exact s.keep a w e nz
  zs := s.zs
  zn := s.zn
end DL
/-! DExp -/
namespace DL
open PySem PySem.Spec PyProof.Rows L2

/-- an exception: its class's name, its fields -/
structure Ex where
  cls : Str
  fs : List (Str × D) := []
def XR (mg : Str → Option Value) (K : PySem.W.Frag) (g : Gh) (cls : Value) (dd : Option Addr) (x : Ex) : Prop :=
  ∃ C, cls = .ref C ∧ mg x.cls = some (.ref C) ∧ ((x.fs = [] ∧ dd = none) ∨ ∃ d vs, dd = some d ∧ g.F d = some (.xd ((x.fs.map (·.1)).zip vs)) ∧ Ats K g.Z g.F vs (x.fs.map (·.2)))
abbrev PQ := (O → Prop) → Prop
abbrev EX := Ex → Prop
abbrev WE := DEnv → (O → Prop) → EX → Prop
/-- from data's asking to the layer's reading -/
def LE (X : Cx) (W : WX) (w : WE) : TE := fun σ H Q => ∃ (g : Gh) (env : DEnv) (Qd : O → Prop) (Ed : EX), g.H = H ∧ ES X.K g env σ ∧ w env Qd Ed ∧
  (∀ v o g', Step g g' → RR X.K g g' v o → Qd o → Q v g'.H) ∧ (∀ x cls dd g', Step g g' → XR X.mg X.K g' cls dd x → Ed x → W cls dd σ g'.H)
abbrev DE (X : Cx) (W : WX) (e : Expr) (w : WE) : Prop := PE X e (LE X W w)
theorem pe_imp {X : Cx} {e : Expr} {t t' : TE} (h : PE X e t) (i : ∀ σ H Q, t' σ H Q → t σ H Q) : PE X e t' := ⟨fun pins s σ H Q I q => h.run pins s σ H Q I (i σ H Q q)⟩
section
variable {X : Cx} {W : WX} {σ : L2.St} {env : DEnv} {g g0 : Gh} {w wa wb : WE} {Q : VK} {Qd : O → Prop} {Ed : EX}
/-- the link of exceptions, moved on -/
abbrev XL (X : Cx) (W : WX) (σ : L2.St) (g : Gh) (Ed : EX) : Prop := ∀ x cls dd g', Step g g' → XR X.mg X.K g' cls dd x → Ed x → W cls dd σ g'.H
abbrev QL (X : Cx) (g : Gh) (Qd : O → Prop) (Q : VK) : Prop := ∀ v o g', Step g g' → RR X.K g g' v o → Qd o → Q v g'.H
theorem XL.on (k : XL X W σ g0 Ed) (s : Step g0 g) : XL X W σ g Ed := fun x cls dd g' s' r e => k x cls dd g' (s.trans s') r e
theorem QL.on (k : QL X g0 Qd Q) (s : Step g0 g) : QL X g Qd Q := fun v o g' s' r e => k v o g' (s.trans s') (r.back s) e
/-- a part is run; its value is frozen -/
theorem LE.go {R : D → Prop} (es : ES X.K g env σ) (h : w env (fun o => R o.d) Ed) (k : ∀ v d g1, Step g g1 → At X.K g1.Z g1.F v d → R d → Q v g1.H) (kx : XL X W σ g Ed) : LE X W w σ g.H Q :=
  ⟨g, env, fun o => R o.d, Ed, rfl, es, h, fun v o g' s r q => by
    obtain ⟨F', s1, up, a⟩ := r.freeze s
    exact k v o.d ⟨g'.Z, F', g'.H⟩ s1 a q, kx⟩
/-- .. as it is -/
theorem LE.goO (es : ES X.K g env σ) (h : w env Qd Ed) (k : QL X g Qd Q) (kx : XL X W σ g Ed) : LE X W w σ g.H Q := ⟨g, env, Qd, Ed, rfl, es, h, k, kx⟩

def eVar (i : Nat) : WE := fun env Q _ => match env[i]? with
  | some (some d) => Q (.val d)
  | _ => False
def eC (d : D) : WE := fun _ Q _ => Q (.val d)
theorem de_of {e : Expr} {v : V} {d : D} (h : PE X e (tC v)) (a : ∀ Z F, At X.K Z F v d) : DE X W e (eC d) := pe_imp h fun σ H Q ⟨g, env, Qd, Ed, e, es, h, k, kx⟩ => by
  subst e
  exact k v _ g es.ok.refl (.val (a _ _)) h
theorem de_int {i j pos} : DE X W (.Constant (.int i) j pos) (eC (.int i)) := de_of pe_int fun _ _ => .int i
theorem de_bl {b j pos} : DE X W (.Constant (.bool b) j pos) (eC (.bl b)) := de_of pe_bl fun _ _ => .bl b
theorem de_non {j pos} : DE X W (.Constant .none j pos) (eC .non) := de_of pe_non fun _ _ => .non
theorem de_str {x j pos} : DE X W (.Constant (.str x) j pos) (eC (.str x)) := de_of pe_str fun _ _ => .str x
theorem dv (i : Nat) {x : Str} {pos : Pos} (hN : X.N[i]? = some x := by rfl) (hv : Vis X.env.scope x := by first | exact Or.inl rfl | exact Or.inr (Or.inl rfl) | exact Or.inr (Or.inr rfl)) (hd : (x == ("__debug__" : Str)) = false := by decide)
    (hcd : (x == ("__classdict__" : Str)) = false := by decide) : DE X W (.Name x pos) (eVar i) := pe_imp (pe_var hN hv hd hcd) fun σ H Q ⟨g, env, Qd, Ed, e, es, h, k, kx⟩ => by
  subst e
  unfold eVar at h
  split at h
  · rename_i d hd
    obtain ⟨v, hv, a⟩ := es.slot i d hd
    exact ⟨v, hv, k v _ g es.ok.refl (.val a) h⟩
  · exact h.elim
/-- a module's constant -/
theorem de_glob {x : Str} {v : V} {u : Value} {d : D} {pos : Pos} (hg : Gl X x) (hm : X.mg x = some u) (r : RelV v u) (a : ∀ Z F, At X.K Z F v d) (hd : (x == ("__debug__" : Str)) = false := by decide) : DE X W (.Name x pos) (eC d) :=
  de_of (pe_glob hg hm r hd) a

variable {a b : Expr} {pos : Pos}
def eBin (f : D → D → PQ) (wa wb : WE) : WE := fun env Q E => wa env (fun x => wb env (fun y => f x.d y.d Q) E) E
def eUn (f : D → PQ) (wa : WE) : WE := fun env Q E => wa env (fun x => f x.d Q) E
/-- a rule of two values, by data -/
def OpD (K : PySem.W.Frag) (r : R2) (f : D → D → PQ) : Prop := ∀ (g : Gh) (x y : V) (a b : D) (Qd : O → Prop) (Q : VK), g.Ok → At K g.Z g.F x a → At K g.Z g.F y b → f a b Qd → (∀ v o g', Step g g' → RR K g g' v o → Qd o → Q v g'.H) → r x y g.H Q
def UnD (K : PySem.W.Frag) (r : V → Hp → VK → Prop) (f : D → PQ) : Prop := ∀ (g : Gh) (x : V) (a : D) (Qd : O → Prop) (Q : VK), g.Ok → At K g.Z g.F x a → f a Qd → (∀ v o g', Step g g' → RR K g g' v o → Qd o → Q v g'.H) → r x g.H Q
theorem lop {r : R2} {f : D → D → PQ} (h : OpD X.K r f) (hw : LE X W (eBin f wa wb) σ g.H Q) : True := trivial
theorem le_bin {r : R2} {f : D → D → PQ} (hd : OpD X.K r f) (σ : L2.St) (H : Hp) (Q : VK) (h : LE X W (eBin f wa wb) σ H Q) : tOp r (LE X W wa) (LE X W wb) σ H Q := by
  obtain ⟨g, env, Qd, Ed, e, es, h, k, kx⟩ := h
  subst e
  refine LE.go (R := fun d => wb env (fun y => f d y.d Qd) Ed) es h (fun x dx g1 s1 ax h1 => ?_) kx
  refine LE.go (R := fun d => f dx d Qd) (es.step s1) h1 (fun y dy g2 s2 ay h2 => ?_) (XL.on kx s1)
  exact hd g2 x y dx dy Qd Q s2.ok (ax.mono s2.up s2.zs) ay h2 (QL.on (QL.on k s1) s2)
theorem le_un {r : V → Hp → VK → Prop} {f : D → PQ} (hd : UnD X.K r f) (σ : L2.St) (H : Hp) (Q : VK) (h : LE X W (eUn f wa) σ H Q) : tUn r (LE X W wa) σ H Q := by
  obtain ⟨g, env, Qd, Ed, e, es, h, k, kx⟩ := h
  subst e
  refine LE.go (R := fun d => f d Qd) es h (fun x dx g1 s1 ax h1 => ?_) kx
  exact hd g1 x dx Qd Q s1.ok ax h1 (QL.on k s1)
theorem de_bin {op : Operator} {r : R2} {f : D → D → PQ} (ho : OpR X (binaryOp op) r) (hd : OpD X.K r f) (ha : DE X W a wa) (hb : DE X W b wb) : DE X W (.BinOp a op b pos) (eBin f wa wb) := pe_imp (pe_op ho ha hb) (le_bin hd)
theorem de_cmp {op : CmpOp} {r : R2} {f : D → D → PQ} (ho : OpR X (compareOp op) r) (hd : OpD X.K r f) (ha : DE X W a wa) (hb : DE X W b wb) (hm : behindInMarks op b = false) : DE X W (.Compare a [op] [b] pos) (eBin f wa wb) := pe_imp (pe_cmpR ho ha hb hm) (le_bin hd)
theorem de_un {op : UnaryOp} {r : V → Hp → VK → Prop} {f : D → PQ} (ho : UnR X (unaryOp op) r) (hd : UnD X.K r f) (ha : DE X W a wa) : DE X W (.UnaryOp op a pos) (eUn f wa) := pe_imp (pe_un ho ha) (le_un hd)
theorem de_ix {r : R2} {f : D → D → PQ} (hr : IxR X r) (hd : OpD X.K r f) (ha : DE X W a wa) (hb : DE X W b wb) (hs : PlainIx b := by exact fun _ _ => rfl) : DE X W (.Subscript a b pos) (eBin f wa wb) := pe_imp (pe_ix hr ha hb hs) (le_bin hd)
end

section
variable {K : PySem.W.Frag}
/-- two ints, nothing asked -/
def fI (f : Int → Int → D) : D → D → PQ
  | .int i, .int j => fun Q => Q (.val (f i j))
  | _, _ => fun _ => False
def fIC (C : Int → Int → Prop) (f : Int → Int → D) : D → D → PQ
  | .int i, .int j => fun Q => C i j ∧ Q (.val (f i j))
  | _, _ => fun _ => False
theorem At.int_inv {Z : Zs} {F : Hp} {v : V} {i : Int} (h : At K Z F v (.int i)) : v = .int i := by cases h; rfl
theorem At.bl_inv {Z : Zs} {F : Hp} {v : V} {i : Bool} (h : At K Z F v (.bl i)) : v = .bl i := by cases h; rfl
theorem At.non_inv {Z : Zs} {F : Hp} {v : V} (h : At K Z F v .non) : v = .non := by cases h; rfl
theorem At.str_inv {Z : Zs} {F : Hp} {v : V} {x : Str} (h : At K Z F v (.str x)) : v = .str x := by cases h; rfl
theorem At.tup_inv {Z : Zs} {F : Hp} {v : V} {ds : List D} (h : At K Z F v (.tup ds)) : ∃ a vs, v = .ref a ∧ SqT K F a vs ∧ Ats K Z F vs ds := by cases h with | tup h hs => exact ⟨_, _, rfl, h, hs⟩
theorem At.lst_inv {Z : Zs} {F : Hp} {v : V} {ds : List D} (h : At K Z F v (.lst ds)) : ∃ a vs, v = .ref a ∧ F a = some (.lst vs) ∧ Ats K Z F vs ds := by cases h with | lst h hs => exact ⟨_, _, rfl, h, hs⟩
theorem od_I {f : Int → Int → V} {fd : Int → Int → D} (h : ∀ i j Z F, At K Z F (f i j) (fd i j)) : OpD K (rI0 f) (fI fd) := by
  intro g x y a b Qd Q ok ha hb hw k
  unfold fI at hw
  split at hw
  · rw [ha.int_inv, hb.int_inv]
    exact ⟨_, _, rfl, rfl, k _ _ g ok.refl (.val (h _ _ _ _)) hw⟩
  · exact hw.elim
theorem od_IC {C : Int → Int → Prop} {f : Int → Int → V} {fd : Int → Int → D} (h : ∀ i j Z F, At K Z F (f i j) (fd i j)) : OpD K (rI C f) (fIC C fd) := by
  intro g x y a b Qd Q ok ha hb hw k
  unfold fIC at hw
  split at hw
  · rw [ha.int_inv, hb.int_inv]
    exact ⟨_, _, rfl, rfl, hw.1, k _ _ g ok.refl (.val (h _ _ _ _)) hw.2⟩
  · exact hw.elim
theorem OpD.or1 {r r' : R2} {f : D → D → PQ} (h : OpD K r f) : OpD K (fun x y H Q => r x y H Q ∨ r' x y H Q) f := fun g x y a b Qd Q ok ha hb hw k => .inl (h g x y a b Qd Q ok ha hb hw k)
/-- a + b -/
def addD : D → D → PQ
  | .int i, .int j => fun Q => Q (.val (.int (i + j)))
  | .str x, .str y => fun Q => x.length + y.length ≤ sizeLine ∧ Q (.val (.str (x ++ y)))
  | .tup xs, .tup ys => fun Q => xs.length + ys.length ≤ sizeLine ∧ Q (.val (.tup (xs ++ ys)))
  | .lst xs, .lst ys => fun Q => xs.length + ys.length ≤ sizeLine ∧ Q (.lst ((xs ++ ys).map .val))
  | _, _ => fun _ => False
abbrev rAddD (K : PySem.W.Frag) : R2 := fun x y H Q => (∃ i j, x = .int i ∧ y = .int j ∧ Q (.int (i + j)) H) ∨ ((∃ i j, x = .str i ∧ y = .str j ∧ i.length + j.length ≤ sizeLine ∧ Q (.str (i ++ j)) H) ∨ (rCatA K x y H Q ∨ rCat x y H Q))
theorem op_addD {X : Cx} : OpR X (binaryOp .Add) (rAddD X.K) := op_add.or (op_add_str.or (op_catA.or op_cat))
theorem od_add : OpD K (rAddD K) addD := by
  intro g x y a b Qd Q ok ha hb hw k
  unfold addD at hw
  split at hw
  · rw [ha.int_inv, hb.int_inv]
    exact .inl ⟨_, _, rfl, rfl, k _ _ g ok.refl (.val (.int _)) hw⟩
  · rw [ha.str_inv, hb.str_inv]
    exact .inr (.inl ⟨_, _, rfl, rfl, hw.1, k _ _ g ok.refl (.val (.str _)) hw.2⟩)
  · rename_i xs ys
    obtain ⟨p, vs, rfl, hp, as⟩ := ha.tup_inv
    obtain ⟨q, ws, rfl, hq, bs⟩ := hb.tup_inv
    have l1 := as.length
    have l2 := bs.length
    refine .inr (.inr (.inl ⟨p, q, vs, ws, rfl, rfl, ok.sub.sqT hp, ok.sub.sqT hq, by omega, fun e => ?_, fun n e => ?_, fun n n' r hr => ?_⟩))
    · subst e
      cases as
      exact k _ _ g ok.refl (.val hb) hw.2
    · subst e
      cases bs
      rw [List.append_nil] at hw
      exact k _ _ g ok.refl (.val ha) hw.2
    · exact k _ _ _ (Step.laidF ok hr) (RR.newT ok hr (as.append bs)) hw.2
  · obtain ⟨p, vs, rfl, hp, as⟩ := ha.lst_inv
    obtain ⟨q, ws, rfl, hq, bs⟩ := hb.lst_inv
    have l1 := as.length
    have l2 := bs.length
    refine .inr (.inr (.inr ⟨p, q, vs, ws, rfl, rfl, ok.sub _ _ hp, ok.sub _ _ hq, by omega, fun r hr => ?_⟩))
    exact k _ _ _ (Step.laid ok hr) (RR.newL ok hr (as.append bs)) hw.2
  · exact hw.elim
theorem op_subD {X : Cx} : OpR X (binaryOp .Sub) (rI0 fun i j => .int (i - j)) := op_sub
abbrev subD : D → D → PQ := fI fun i j => .int (i - j)
theorem od_sub : OpD K (rI0 fun i j => .int (i - j)) subD := od_I fun _ _ _ _ => .int _
/-- a product: one side below 2^64, or both together below a million bits -/
def MulOk (i j : Int) : Prop := CMul i j ∨ CMulW i j
def mulD : D → D → PQ
  | .int i, .int j => fun Q => MulOk i j ∧ Q (.val (.int (i * j)))
  | .lst xs, .int k => fun Q => (-(2 ^ 63) ≤ k ∧ k < 2 ^ 63 ∧ xs.length * k.toNat ≤ sizeLine) ∧ Q (.lst (((List.replicate k.toNat xs).flatten).map .val))
  | .tup xs, .int k => fun Q => (xs ≠ [] ∧ 2 ≤ k ∧ k ≤ 1000 ∧ xs.length ≤ 1000) ∧ Q (.val (.tup (List.replicate k.toNat xs).flatten))
  | _, _ => fun _ => False
abbrev rMulD (K : PySem.W.Frag) : R2 := fun x y H Q => rI CMul (fun i j => .int (i * j)) x y H Q ∨ (rI CMulW (fun i j => .int (i * j)) x y H Q ∨ (rRep x y H Q ∨ rRepT K x y H Q))
theorem op_mulD {X : Cx} : OpR X (binaryOp .Mult) (rMulD X.K) := op_mul.or (op_mulW.or (op_rep.or op_repT))
theorem Ats.reps {Z : Zs} {F : Hp} {vs : List V} {ds : List D} (h : Ats K Z F vs ds) : ∀ n : Nat, Ats K Z F (List.replicate n vs).flatten (List.replicate n ds).flatten
  | 0 => .nil
  | n + 1 => by
    rw [List.replicate_succ, List.replicate_succ, List.flatten_cons, List.flatten_cons]
    exact h.append (Ats.reps h n)
theorem od_mul : OpD K (rMulD K) mulD := by
  intro g x y a b Qd Q ok ha hb hw k
  unfold mulD at hw
  split at hw
  · rw [ha.int_inv, hb.int_inv]
    rcases hw.1 with c | c
    · exact .inl ⟨_, _, rfl, rfl, c, k _ _ g ok.refl (.val (.int _)) hw.2⟩
    · exact .inr (.inl ⟨_, _, rfl, rfl, c, k _ _ g ok.refl (.val (.int _)) hw.2⟩)
  · obtain ⟨p, vs, rfl, hp, as⟩ := ha.lst_inv
    rw [hb.int_inv]
    have l1 := as.length
    obtain ⟨⟨h1, h2, h3⟩, hq⟩ := hw
    refine .inr (.inr (.inl ⟨p, _, vs, rfl, rfl, ok.sub _ _ hp, h1, h2, by rw [l1]; exact h3, fun r hr => ?_⟩))
    exact k _ _ _ (Step.laid ok hr) (RR.newL ok hr (as.reps _)) hq
  · obtain ⟨p, vs, rfl, hp, as⟩ := ha.tup_inv
    rw [hb.int_inv]
    have l1 := as.length
    obtain ⟨⟨h1, h2, h3, h4⟩, hq⟩ := hw
    refine .inr (.inr (.inr ⟨p, _, vs, rfl, rfl, ok.sub.sqT hp, fun e => h1 ?_, h2, h3, by omega, fun r hr => ?_⟩))
    · subst e
      cases as
      rfl
    · exact k _ _ _ (Step.laidF ok hr) (RR.newT ok hr (as.reps _)) hq
  · exact hw.elim
/-- a // b -/
def DivOk (_ j : Int) : Prop := 0 < j ∧ j.natAbs.log2 < 9000
def fdivD : D → D → PQ := fIC (fun _ j => (j ≠ 0 ∧ j.natAbs < 1073741824)) fun i j => .int (i.fdiv j)
theorem op_fdivD {X : Cx} : OpR X (binaryOp .FloorDiv) (rI CDivN fun i j => .int (i.fdiv j)) := op_fdivN
theorem od_fdiv : OpD K (rI CDivN fun i j => .int (i.fdiv j)) fdivD := od_IC fun _ _ _ _ => .int _
/-- a // b, b above 0 and great -/
def fdivWD : D → D → PQ := fIC (fun _ j => 0 < j ∧ j.natAbs.log2 < 9000) fun i j => .int (i / j)
theorem od_fdivW : OpD K (rI CDivW fun i j => .int (i / j)) fdivWD := od_IC fun _ _ _ _ => .int _
def modD : D → D → PQ := fIC (fun _ j => j ≠ 0) fun i j => .int (i.fmod j)
theorem od_mod : OpD K (rI (fun _ j => j ≠ 0) fun i j => .int (i.fmod j)) modD := od_IC fun _ _ _ _ => .int _
def powD : D → D → PQ := fIC CPow fun i j => .int (i ^ j.toNat)
theorem od_pow : OpD K (rI CPow fun i j => .int (i ^ j.toNat)) powD := od_IC fun _ _ _ _ => .int _
abbrev ltD : D → D → PQ := fI fun i j => .bl (decide (i < j))
abbrev leD : D → D → PQ := fI fun i j => .bl (decide (i ≤ j))
abbrev gtD : D → D → PQ := fI fun i j => .bl (decide (j < i))
abbrev geD : D → D → PQ := fI fun i j => .bl (decide (j ≤ i))
theorem od_lt : OpD K (rI0 fun i j => .bl (decide (i < j))) ltD := od_I fun _ _ _ _ => .bl _
theorem od_le : OpD K (rI0 fun i j => .bl (decide (i ≤ j))) leD := od_I fun _ _ _ _ => .bl _
theorem od_gt : OpD K (rI0 fun i j => .bl (decide (j < i))) gtD := od_I fun _ _ _ _ => .bl _
theorem od_ge : OpD K (rI0 fun i j => .bl (decide (j ≤ i))) geD := od_I fun _ _ _ _ => .bl _
def negD : D → PQ
  | .int i => fun Q => Q (.val (.int (-i)))
  | _ => fun _ => False
theorem ud_neg : UnD K (rU fun i => .int (-i)) negD := by
  intro g x a Qd Q ok ha hw k
  unfold negD at hw
  split at hw
  · rw [ha.int_inv]
    exact ⟨_, rfl, k _ _ g ok.refl (.val (.int _)) hw⟩
  · exact hw.elim
end

mutual
def toPy : D → PyData
  | .non => .none
  | .bl b => .bool b
  | .int i => .int i
  | .str x => .str x
  | .tup xs => .tuple (toPys xs)
  | .lst xs => .list (toPys xs)
  | .dct _ _ => .dict []
  | .src => .dict []
  | .scr _ => .dict []
def toPys : List D → List PyData
  | [] => []
  | x :: xs => toPy x :: toPys xs
end
theorem toPys_map : ∀ xs : List D, toPys xs = xs.map toPy
  | [] => by simp [toPys]
  | x :: xs => by simp [toPys, toPys_map xs]
mutual
/-- data that == and repr take: no dicts, texts of real signs, at most so deep -/
def okD : Nat → D → Bool
  | _, .non => true
  | _, .bl _ => true
  | _, .int _ => true
  | _, .str x => PyData.strOk x
  | n + 1, .tup xs => okDs n xs
  | n + 1, .lst xs => okDs n xs
  | _, _ => false
def okDs : Nat → List D → Bool
  | _, [] => true
  | n, x :: xs => okD n x && okDs n xs
end
@[simp] theorem okD_non (n : Nat) : okD n .non = true := by cases n <;> simp [okD]
@[simp] theorem okD_bl (n : Nat) (b : Bool) : okD n (.bl b) = true := by cases n <;> simp [okD]
@[simp] theorem okD_int (n : Nat) (i : Int) : okD n (.int i) = true := by cases n <;> simp [okD]
@[simp] theorem okD_str (n : Nat) (x : Str) : okD n (.str x) = PyData.strOk x := by cases n <;> simp [okD]
@[simp] theorem okD_tup (n : Nat) (xs : List D) : okD (n + 1) (.tup xs) = okDs n xs := by simp [okD]
@[simp] theorem okD_lst (n : Nat) (xs : List D) : okD (n + 1) (.lst xs) = okDs n xs := by simp [okD]
@[simp] theorem okDs_nil (n : Nat) : okDs n [] = true := by cases n <;> simp [okDs]
@[simp] theorem okDs_cons (n : Nat) (x : D) (xs : List D) : okDs n (x :: xs) = (okD n x && okDs n xs) := by cases n <;> simp [okDs]
theorem okDs_iff (n : Nat) : ∀ xs : List D, okDs n xs = true ↔ ∀ x ∈ xs, okD n x = true
  | [] => by simp
  | x :: xs => by simp [okDs_iff n xs]
@[simp] theorem okDs_append (n : Nat) (xs ys : List D) : okDs n (xs ++ ys) = (okDs n xs && okDs n ys) := by
  induction xs with
  | nil => simp
  | cons x r ih => simp [ih, Bool.and_assoc]
mutual
theorem okD_lay : ∀ (d : D) (n : Nat), okD n d = true → (toPy d).canLay0 = true ∧ (toPy d).depth ≤ n
  | .non, n, _ => by simp [toPy, PyData.canLay0, PyData.depth]
  | .bl _, n, _ => by simp [toPy, PyData.canLay0, PyData.depth]
  | .int _, n, _ => by simp [toPy, PyData.canLay0, PyData.depth]
  | .str x, n, h => by simp at h; simp [toPy, PyData.canLay0, PyData.depth, h]
  | .tup xs, 0, h => by simp [okD] at h
  | .tup xs, n + 1, h => by
    obtain ⟨h1, h2⟩ := okDs_lay xs n (by simpa using h)
    simp only [toPy, PyData.canLay0, PyData.depth, h1, true_and]
    omega
  | .lst xs, 0, h => by simp [okD] at h
  | .lst xs, n + 1, h => by
    obtain ⟨h1, h2⟩ := okDs_lay xs n (by simpa using h)
    simp only [toPy, PyData.canLay0, PyData.depth, h1, true_and]
    omega
  | .dct _ _, n, h => by cases n <;> simp [okD] at h
  | .src, n, h => by cases n <;> simp [okD] at h
  | .scr _, n, h => by cases n <;> simp [okD] at h
theorem okDs_lay : ∀ (ds : List D) (n : Nat), okDs n ds = true → PyData.canLayAll0 (toPys ds) = true ∧ PyData.depthAll (toPys ds) ≤ n
  | [], n, _ => by simp [toPys, PyData.canLayAll0, PyData.depthAll]
  | x :: xs, n, h => by
    have h' := Bool.and_eq_true_iff.mp (by simpa using h)
    obtain ⟨a1, a2⟩ := okD_lay x n h'.1
    obtain ⟨b1, b2⟩ := okDs_lay xs n h'.2
    simp only [toPys, PyData.canLayAll0, PyData.depthAll, a1, b1, Bool.and_self, true_and]
    omega
end
theorem shaped_of {d : D} {n : Nat} (h : okD n d = true) (hn : n ≤ 64) : SeqAt.shaped (toPy d) = true := by
  obtain ⟨h1, h2⟩ := okD_lay d n h
  unfold SeqAt.shaped
  rw [h1, Bool.true_and, decide_eq_true_eq]
  omega
section
variable {K : PySem.W.Frag} {Z : Zs} {F H : Hp}
mutual
theorem At.dp (e : Sub F H) : ∀ {v : V} {d : D} {n : Nat}, At K Z F v d → okD n d = true → Dp K H v (toPy d)
  | _, _, _, .non, _ => by simp only [toPy]; exact .non
  | _, _, _, .bl b, _ => by simp only [toPy]; exact .bl b
  | _, _, _, .int i, _ => by simp only [toPy]; exact .int i
  | _, _, _, .str x, _ => by simp only [toPy]; exact .str x
  | _, _, 0, .tup h hs, o => by simp [okD] at o
  | _, _, n + 1, .tup h hs, o => by simp only [toPy]; exact .tup (e.sqT h) (Ats.dps e hs (n := n) (by simpa using o))
  | _, _, 0, .lst h hs, o => by simp [okD] at o
  | _, _, n + 1, .lst h hs, o => by simp only [toPy]; exact .lst (SqL.of (e _ _ h)) (Ats.dps e hs (n := n) (by simpa using o))
  | _, _, n, .dctK h hs, o => by cases n <;> simp [okD] at o
  | _, _, n, .dctT h hs, o => by cases n <;> simp [okD] at o
  | _, _, n, .src h, o => by cases n <;> simp [okD] at o
  | _, _, n, .scr h, o => by cases n <;> simp [okD] at o
theorem Ats.dps (e : Sub F H) : ∀ {vs : List V} {ds : List D} {n : Nat}, Ats K Z F vs ds → okDs n ds = true → DpAll K H vs (toPys ds)
  | _, _, _, .nil, _ => by simp only [toPys]; exact .nil
  | _, _, _, .cons h t, o => by
    have o' := Bool.and_eq_true_iff.mp (by simpa using o)
    simp only [toPys]
    exact .cons (At.dp e h o'.1) (Ats.dps e t o'.2)
end
def eqB (a b : D) : Bool := PyData.eqv (toPy a) (toPy b)
def okE (d : D) : Prop := okD 8 d = true
def eqD (a b : D) : PQ := fun Q => okE a ∧ okE b ∧ Q (.val (.bl (eqB a b)))
def neD (a b : D) : PQ := fun Q => okE a ∧ okE b ∧ Q (.val (.bl (!eqB a b)))
theorem od_eq : OpD K (rEqD K) eqD := fun g x y a b Qd Q ok ha hb hw k =>
  ⟨_, _, ha.dp ok.sub hw.1, hb.dp ok.sub hw.2.1, shaped_of hw.1 (by decide), shaped_of hw.2.1 (by decide), k _ _ g ok.refl (.val (.bl _)) hw.2.2⟩
theorem od_ne : OpD K (rNeD K) neD := fun g x y a b Qd Q ok ha hb hw k =>
  ⟨_, _, ha.dp ok.sub hw.1, hb.dp ok.sub hw.2.1, shaped_of hw.1 (by decide), shaped_of hw.2.1 (by decide), k _ _ g ok.refl (.val (.bl _)) hw.2.2⟩
/-- is None, is not None -/
def isNoneB : D → Bool
  | .non => true
  | _ => false
def isND (a b : D) : PQ := fun Q => isNoneB b = true ∧ Q (.val (.bl (isNoneB a)))
def notND (a b : D) : PQ := fun Q => isNoneB b = true ∧ Q (.val (.bl (!isNoneB a)))
theorem At.isNone {v : V} {d : D} (h : At K Z F v d) : decide (v = .non) = isNoneB d := by
  cases h <;> simp [isNoneB]
theorem At.none_of {v : V} {d : D} (h : At K Z F v d) (e : isNoneB d = true) : v = .non := by
  rw [← h.isNone] at e
  exact of_decide_eq_true e
theorem od_isN : OpD K (fun x y H Q => y = .non ∧ Q (.bl (decide (x = .non))) H) isND := fun g x y a b Qd Q ok ha hb hw k =>
  ⟨hb.none_of hw.1, by rw [ha.isNone]; exact k _ _ g ok.refl (.val (.bl _)) hw.2⟩
theorem od_notN : OpD K (fun x y H Q => y = .non ∧ Q (.bl (!decide (x = .non))) H) notND := fun g x y a b Qd Q ok ha hb hw k =>
  ⟨hb.none_of hw.1, by rw [ha.isNone]; exact k _ _ g ok.refl (.val (.bl _)) hw.2⟩
/-- is of two bools -/
def isBD : D → D → PQ
  | .bl a, .bl b => fun Q => Q (.val (.bl (decide (a = b))))
  | _, _ => fun _ => False
def notBD : D → D → PQ
  | .bl a, .bl b => fun Q => Q (.val (.bl (!decide (a = b))))
  | _, _ => fun _ => False
theorem od_isB : OpD K (fun x y H Q => ∃ a b, x = .bl a ∧ y = .bl b ∧ Q (.bl (decide (a = b))) H) isBD := by
  intro g x y a b Qd Q ok ha hb hw k
  unfold isBD at hw
  split at hw
  · exact ⟨_, _, ha.bl_inv, hb.bl_inv, k _ _ g ok.refl (.val (.bl _)) hw⟩
  · exact hw.elim
theorem od_notB : OpD K (fun x y H Q => ∃ a b, x = .bl a ∧ y = .bl b ∧ Q (.bl (!decide (a = b))) H) notBD := by
  intro g x y a b Qd Q ok ha hb hw k
  unfold notBD at hw
  split at hw
  · exact ⟨_, _, ha.bl_inv, hb.bl_inv, k _ _ g ok.refl (.val (.bl _)) hw⟩
  · exact hw.elim
/-- x in a list of data -/
def inD (a : D) : D → PQ
  | .lst ds => fun Q => okE a ∧ okE (.lst ds) ∧ Q (.val (.bl (ds.any fun z => eqB z a)))
  | _ => fun _ => False
def notInD (a : D) : D → PQ
  | .lst ds => fun Q => okE a ∧ okE (.lst ds) ∧ Q (.val (.bl (!ds.any fun z => eqB z a)))
  | _ => fun _ => False
theorem any_toPys (a : D) : ∀ ds : List D, ((toPys ds).any fun z => PyData.eqv z (toPy a)) = ds.any fun z => eqB z a
  | [] => by simp [toPys]
  | d :: ds => by simp [toPys, any_toPys a ds, eqB]
theorem od_in : OpD K (rInD K) inD := by
  intro g x y a b Qd Q ok ha hb hw k
  unfold inD at hw
  split at hw
  · obtain ⟨h1, h2, h3⟩ := hw
    have hb' := hb.dp ok.sub h2
    have hs := shaped_of h2 (by decide)
    simp only [toPy] at hb' hs
    refine ⟨_, _, ha.dp ok.sub h1, hb', shaped_of h1 (by decide), hs, ?_⟩
    rw [any_toPys]
    exact k _ _ g ok.refl (.val (.bl _)) h3
  · exact hw.elim
theorem od_notIn : OpD K (rNotInD K) notInD := by
  intro g x y a b Qd Q ok ha hb hw k
  unfold notInD at hw
  split at hw
  · obtain ⟨h1, h2, h3⟩ := hw
    have hb' := hb.dp ok.sub h2
    have hs := shaped_of h2 (by decide)
    simp only [toPy] at hb' hs
    refine ⟨_, _, ha.dp ok.sub h1, hb', shaped_of h1 (by decide), hs, ?_⟩
    rw [any_toPys]
    exact k _ _ g ok.refl (.val (.bl _)) h3
  · exact hw.elim
end
end DL
/-! DExp2 -/
namespace DL
open PySem PySem.Spec PyProof.Rows L2

def RRs (K : PySem.W.Frag) (g g' : Gh) (vs : List V) (os : List O) : Prop := ∃ cs, ROs K g'.Z g'.F g'.H vs os cs ∧ cs.Nodup ∧ ∀ c ∈ cs, g'.F c = none ∧ g.H c = none ∧ ¬ inZ g'.Z c
theorem RRs.nil {K : PySem.W.Frag} {g g' : Gh} : RRs K g g' [] [] := ⟨[], .nil, .nil, fun _ z => by simp at z⟩
theorem RRs.vals {K : PySem.W.Frag} {g g' : Gh} {vs : List V} {ds : List D} (h : Ats K g'.Z g'.F vs ds) : RRs K g g' vs (ds.map .val) := ⟨[], .vals h, .nil, fun _ z => by simp at z⟩
theorem RRs.append {K : PySem.W.Frag} {g g1 g2 : Gh} {vs ws : List V} {os ps : List O} (s1 : Step g g1) (s2 : Step g1 g2) (h : RRs K g g1 vs os) (t : RRs K g1 g2 ws ps) : RRs K g g2 (vs ++ ws) (os ++ ps) := by
  obtain ⟨cs, r, nd, hc⟩ := h
  obtain ⟨ds, r', nd', hd⟩ := t
  have th : ∀ c ∈ cs, ∃ u, g1.H c = some u := fun c m => by
    obtain ⟨u, h, _⟩ := r.there c m
    exact ⟨u, h⟩
  refine ⟨cs ++ ds, (ROs.mono s2.up s2.zs r fun c m u e => s2.keep c u e (hc c m).2.2).append r', List.nodup_append.mpr ⟨nd, nd', fun a ma b mb e => ?_⟩, fun c m => ?_⟩
  · subst e
    obtain ⟨u, hu⟩ := th a ma
    rw [(hd a mb).2.1] at hu
    cases hu
  · rcases List.mem_append.mp m with m | m
    · obtain ⟨u, hu⟩ := th c m
      refine ⟨s2.apart (hc c m).1 hu, (hc c m).2.1, fun z => ?_⟩
      rcases s2.zn c z with q | q
      · exact (hc c m).2.2 q
      · rw [hu] at q; cases q
    · exact ⟨(hd c m).1, s1.none_ (hd c m).2.1, (hd c m).2.2⟩
theorem RR.sing {K : PySem.W.Frag} {g g' : Gh} {v : V} {o : O} (h : RR K g g' v o) : RRs K g g' [v] [o] := by
  obtain ⟨cs, r, nd, hc⟩ := h
  refine ⟨cs, ?_, nd, hc⟩
  have := ROs.cons r (ROs.nil (K := K) (Z := g'.Z) (F := g'.F) (H := g'.H))
  rwa [List.append_nil] at this
theorem RRs.cons {K : PySem.W.Frag} {g g1 g2 : Gh} {v : V} {ws : List V} {o : O} {ps : List O} (s1 : Step g g1) (s2 : Step g1 g2) (h : RR K g g1 v o) (t : RRs K g1 g2 ws ps) : RRs K g g2 (v :: ws) (o :: ps) := RRs.append s1 s2 h.sing t
/-- all frozen -/
theorem RRs.freeze {K : PySem.W.Frag} {g g' : Gh} {vs : List V} {os : List O} (s : Step g g') (h : RRs K g g' vs os) : ∃ F', Step g ⟨g'.Z, F', g'.H⟩ ∧ Sub g'.F F' ∧ Ats K g'.Z F' vs (O.ds os) := by
  obtain ⟨cs, r, nd, hc⟩ := h
  refine ⟨thaw g'.F g'.H (· ∈ cs), ⟨s.ok.thaw fun c m => (hc c m).2.2, s.up.trans (thaw_up fun c m => (hc c m).1), fun a n m => ?_, s.keep, s.zs, s.zn⟩, thaw_up fun c m => (hc c m).1, r.at_ (thaw_up fun c m => (hc c m).1) fun c m => thaw_in m⟩
  by_cases q : a ∈ cs
  · exact (hc a q).2.1
  · have m' : thaw g'.F g'.H (· ∈ cs) a ≠ none := m
    rw [thaw_out q] at m'
    exact s.new a n m'
abbrev WA := DEnv → (List O → Prop) → EX → Prop
def LA (X : Cx) (W : WX) (w : WA) : TA := fun σ H Q => ∃ (g : Gh) (env : DEnv) (Qd : List O → Prop) (Ed : EX), g.H = H ∧ ES X.K g env σ ∧ w env Qd Ed ∧
  (∀ vs os g', Step g g' → RRs X.K g g' vs os → Qd os → Q vs g'.H) ∧ XL X W σ g Ed
abbrev DA (X : Cx) (W : WX) (es : List Expr) (w : WA) : Prop := PA X es (LA X W w)
theorem pa_imp {X : Cx} {es : List Expr} {t t' : TA} (h : PA X es t) (i : ∀ σ H Q, t' σ H Q → t σ H Q) : PA X es t' := ⟨fun pos pins s σ H Q I q => h.run pos pins s σ H Q I (i σ H Q q)⟩
section
variable {X : Cx} {W : WX} {σ : L2.St} {env : DEnv} {g g0 : Gh} {w wa wb : WE} {ws : WA} {Q : VK} {Qd : O → Prop} {Ed : EX} {e a b : Expr} {es : List Expr} {pos : Pos}
theorem LA.go {R : List D → Prop} {Q : List V → Hp → Prop} (es : ES X.K g env σ) (h : ws env (fun os => R (O.ds os)) Ed) (k : ∀ vs ds g1, Step g g1 → Ats X.K g1.Z g1.F vs ds → R ds → Q vs g1.H) (kx : XL X W σ g Ed) : LA X W ws σ g.H Q :=
  ⟨g, env, fun os => R (O.ds os), Ed, rfl, es, h, fun v o g' s r q => by
    obtain ⟨F', s1, up, a⟩ := r.freeze s
    exact k v _ ⟨g'.Z, F', g'.H⟩ s1 a q, kx⟩
theorem LA.goO {Qd : List O → Prop} {Q : List V → Hp → Prop} (es : ES X.K g env σ) (h : ws env Qd Ed) (k : ∀ vs os g', Step g g' → RRs X.K g g' vs os → Qd os → Q vs g'.H) (kx : XL X W σ g Ed) : LA X W ws σ g.H Q := ⟨g, env, Qd, Ed, rfl, es, h, k, kx⟩
def aNil : WA := fun _ Q _ => Q []
def aCons (w : WE) (ws : WA) : WA := fun env Q E => w env (fun o => ws env (fun os => Q (o :: os)) E) E
/-- the items of a starred thing -/
def itemsD : D → (List D → Prop) → Prop
  | .tup ds => fun Q => Q ds
  | .lst ds => fun Q => Q ds
  | _ => fun _ => False
def aStar (w : WE) (ws : WA) : WA := fun env Q E => w env (fun o => itemsD o.d fun ds => ws env (fun os => Q (ds.map .val ++ os)) E) E
theorem da_nil : DA X W [] aNil := pa_imp pa_nil fun σ H Q ⟨g, env, Qd, Ed, e, es, h, k, kx⟩ => by
  subst e
  exact k [] [] g es.ok.refl .nil h
theorem da_cons (ha : DE X W e w) (hr : DA X W es ws) (hs : starEach (e :: es) X.env = (false, eval e X.env) :: starEach es X.env := by rfl) : DA X W (e :: es) (aCons w ws) := pa_imp (pa_cons ha hr hs) fun σ H Q ⟨g, env, Qd, Ed, e, es, h, k, kx⟩ => by
  subst e
  refine LE.goO es h (fun v o g1 s1 r1 h1 => ?_) kx
  exact LA.goO (es.step s1) h1 (fun vs os g2 s2 r2 h2 => k _ _ g2 (s1.trans s2) (RRs.cons s1 s2 r1 r2) h2) (XL.on kx s1)
theorem da_star {p : Pos} (ha : DE X W e w) (hr : DA X W es ws) (hs : starEach (.Starred e p :: es) X.env = (true, eval e X.env) :: starEach es X.env := by rfl) : DA X W (.Starred e p :: es) (aStar w ws) := pa_imp (StX.pa_star ha hr hs) fun σ H Q ⟨g, env, Qd, Ed, e, es, h, k, kx⟩ => by
  subst e
  refine LE.go (R := fun d => itemsD d fun ds => ws env (fun os => Qd (ds.map O.val ++ os)) Ed) es h (fun v d g1 s1 a1 h1 => ?_) kx
  have fin : ∀ p vs ds, v = .ref p → (SqT X.K g1.H p vs ∨ SqL X.K g1.H p vs) → Ats X.K g1.Z g1.F vs ds → ws env (fun os => Qd (ds.map .val ++ os)) Ed → ∃ p xs, v = V.ref p ∧ (SqT X.K g1.H p xs ∨ SqL X.K g1.H p xs) ∧ LA X W ws σ g1.H fun ys H2 => Q (xs ++ ys) H2 := fun p vs ds ev hp as hw =>
    ⟨p, vs, ev, hp, LA.goO (es.step s1) hw (fun ws' os g2 s2 r2 h2 => k _ _ g2 (s1.trans s2) (RRs.append s1 s2 (RRs.vals as) r2) h2) (XL.on kx s1)⟩
  unfold itemsD at h1
  split at h1
  · obtain ⟨p, vs, ev, hp, as⟩ := a1.tup_inv
    exact fin p vs _ ev (.inl (s1.ok.sub.sqT hp)) as h1
  · obtain ⟨p, vs, ev, hp, as⟩ := a1.lst_inv
    exact fin p vs _ ev (.inr (SqL.of (s1.ok.sub _ _ hp))) as h1
  · exact h1.elim

def eTup (ws : WA) : WE := fun env Q E => ws env (fun os => os.length ≤ sizeLine ∧ Q (.val (.tup (O.ds os)))) E
def eLst (ws : WA) : WE := fun env Q E => ws env (fun os => os.length ≤ sizeLine ∧ Q (.lst os)) E
theorem O.ds_length (os : List O) : (O.ds os).length = os.length := by rw [O.ds_map, List.length_map]
theorem de_tup {x1} (h : DA X W es ws) : DE X W (.Tuple es x1 pos) (eTup ws) := pe_imp (pe_tup h) fun σ H Q ⟨g, env, Qd, Ed, e, es, hw, k, kx⟩ => by
  subst e
  refine LA.goO es hw (fun vs os g1 s1 r1 h1 => ?_) kx
  obtain ⟨F', s2, up, as⟩ := r1.freeze s1
  have l := as.length
  rw [O.ds_length] at l
  exact ⟨by rw [l]; exact h1.1, fun p n => k _ _ _ (s2.trans (Step.laidF s2.ok n)) (RR.back s2 (RR.newT s2.ok n as)) h1.2⟩
theorem de_lst (h : DA X W es ws) : DE X W (.List es pos) (eLst ws) := pe_imp (pe_lst h) fun σ H Q ⟨g, env, Qd, Ed, e, es, hw, k, kx⟩ => by
  subst e
  refine LA.goO es hw (fun vs os g1 s1 r1 h1 => ?_) kx
  obtain ⟨cs, r, nd, hc⟩ := r1
  refine ⟨by rw [r.length]; exact h1.1, fun p n => k _ _ _ (s1.trans (Step.laid s1.ok n)) ⟨p :: cs, .lst upd_same (ROs.mono (Sub.refl _) (fun _ q => q) r fun c m u e => ?_), ?_, fun c m => ?_⟩ h1.2⟩
  · show upd g1.H p _ c = some u
    rw [upd_ne (ne_of_none e n)]
    exact e
  · refine List.nodup_cons.mpr ⟨fun m => ?_, nd⟩
    obtain ⟨u, hu, _⟩ := r.there p m
    rw [n] at hu; cases hu
  · rcases List.mem_cons.mp m with rfl | m
    · exact ⟨s1.ok.noF n, s1.none_ n, s1.ok.noZ n⟩
    · exact hc c m

def eB (f : List D → PQ) (ws : WA) : WE := fun env Q E => ws env (fun os => f (O.ds os) Q) E
def CallD (K : PySem.W.Frag) (r : List V → Hp → VK → Prop) (f : List D → PQ) : Prop := ∀ (g : Gh) (vs : List V) (ds : List D) (Qd : O → Prop) (Q : VK), g.Ok → Ats K g.Z g.F vs ds → f ds Qd → (∀ v o g', Step g g' → RR K g g' v o → Qd o → Q v g'.H) → r vs g.H Q
theorem le_cb {r : List V → Hp → VK → Prop} {f : List D → PQ} (hd : CallD X.K r f) (σ : L2.St) (H : Hp) (Q : VK) (h : LE X W (eB f ws) σ H Q) : tCB r (LA X W ws) σ H Q := by
  obtain ⟨g, env, Qd, Ed, e, es, h, k, kx⟩ := h
  subst e
  refine LA.go (R := fun ds => f ds Qd) es h (fun vs ds g1 s1 as h1 => ?_) kx
  exact hd g1 vs ds Qd Q s1.ok as h1 (QL.on k s1)
theorem de_blt {x : Str} {p : Pos} {id : String} {r : List V → Hp → VK → Prop} {f : List D → PQ} (hc : CallR X (.builtin id) r) (hd : CallD X.K r f) (hm : X.mg x = none) (hv : bootBuiltins x = some (.builtin id)) (ha : DA X W (e :: es) ws) (hg : Gl X x := by rfl) (hn : x ≠ "__name__" := by decide) (hdb : (x == ("__debug__" : Str)) = false := by decide)
    (he : starEach (e :: es) X.env = (false, eval e X.env) :: starEach es X.env := by rfl) (hpl : (backTo pos (starEach es X.env)).any (·.1) = false := by rfl) : DE X W (.Call (.Name x p) (e :: es) [] pos) (eB f ws) :=
  pe_imp (pe_callB hc hg hm hv ha hn hdb he hpl) (le_cb hd)
theorem de_ty {x : Str} {p : Pos} {T : String} {r : List V → Hp → VK → Prop} {f : List D → PQ} (hc : CallR X (.type T) r) (hd : CallD X.K r f) (hm : X.mg x = none) (hv : bootBuiltins x = some (.type T)) (ha : DA X W (e :: es) ws) (hg : Gl X x := by rfl) (hn : x ≠ "__name__" := by decide) (hdb : (x == ("__debug__" : Str)) = false := by decide)
    (he : starEach (e :: es) X.env = (false, eval e X.env) :: starEach es X.env := by rfl) (hpl : (backTo pos (starEach es X.env)).any (·.1) = false := by rfl) : DE X W (.Call (.Name x p) (e :: es) [] pos) (eB f ws) :=
  pe_imp (pe_callTy hc hg hm hv ha hn hdb he hpl) (le_cb hd)
end
section
variable {K : PySem.W.Frag} {X : Cx}
theorem Ats.one_inv {Z : Zs} {F : Hp} {vs : List V} {d : D} (h : Ats K Z F vs [d]) : ∃ v, vs = [v] ∧ At K Z F v d := by
  cases h with
  | cons h t => cases t; exact ⟨_, rfl, h⟩
theorem Ats.two_inv {Z : Zs} {F : Hp} {vs : List V} {d e : D} (h : Ats K Z F vs [d, e]) : ∃ v w, vs = [v, w] ∧ At K Z F v d ∧ At K Z F w e := by
  cases h with
  | cons h t =>
    obtain ⟨w, rfl, h'⟩ := t.one_inv
    exact ⟨_, _, rfl, h, h'⟩
/-- len -/
def lenD : List D → PQ
  | [.tup ds] => fun Q => Q (.val (.int ds.length))
  | [.lst ds] => fun Q => Q (.val (.int ds.length))
  | [.str x] => fun Q => x.length ≤ sizeLine ∧ Q (.val (.int x.length))
  | _ => fun _ => False
abbrev rLenD (K : PySem.W.Frag) : List V → Hp → VK → Prop := fun xs H Q => (∃ p ys, xs = [.ref p] ∧ (SqL K H p ys ∨ SqT K H p ys) ∧ Q (.int ys.length) H) ∨ ∃ z, xs = [.str z] ∧ z.length ≤ sizeLine ∧ Q (.int z.length) H
theorem call_lenD' : CallR X (.builtin "len") (rLenD X.K) := CallR.or call_len_seq call_len_str
theorem cd_len : CallD K (rLenD K) lenD := by
  intro g vs ds Qd Q ok ha hw k
  unfold lenD at hw
  split at hw
  · obtain ⟨v, rfl, a⟩ := ha.one_inv
    obtain ⟨p, vs, rfl, hp, as⟩ := a.tup_inv
    refine .inl ⟨p, vs, rfl, .inr (ok.sub.sqT hp), ?_⟩
    rw [as.length]
    exact k _ _ g ok.refl (.val (.int _)) hw
  · obtain ⟨v, rfl, a⟩ := ha.one_inv
    obtain ⟨p, vs, rfl, hp, as⟩ := a.lst_inv
    refine .inl ⟨p, vs, rfl, .inl (SqL.of (ok.sub _ _ hp)), ?_⟩
    rw [as.length]
    exact k _ _ g ok.refl (.val (.int _)) hw
  · obtain ⟨v, rfl, a⟩ := ha.one_inv
    rw [a.str_inv]
    exact .inr ⟨_, rfl, hw.1, k _ _ g ok.refl (.val (.int _)) hw.2⟩
  · exact hw.elim
/-- tuple(x), list(x) -/
def tupleD : List D → PQ
  | [.tup ds] => fun Q => Q (.val (.tup ds))
  | [.lst ds] => fun Q => Q (.val (.tup ds))
  | _ => fun _ => False
def listD : List D → PQ
  | [.tup ds] => fun Q => Q (.lst (ds.map .val))
  | [.lst ds] => fun Q => Q (.lst (ds.map .val))
  | _ => fun _ => False
theorem cd_tuple : CallD K (fun xs H Q => ∃ p ys, xs = [.ref p] ∧ ((SqL K H p ys ∧ ∀ l, H l = none → Q (.ref l) (upd H l (.tup ys))) ∨ (SqT K H p ys ∧ Q (.ref p) H))) tupleD := by
  intro g vs ds Qd Q ok ha hw k
  unfold tupleD at hw
  split at hw
  · obtain ⟨v, rfl, a⟩ := ha.one_inv
    have a' := a
    obtain ⟨p, vs, rfl, hp, as⟩ := a.tup_inv
    exact ⟨p, vs, rfl, .inr ⟨ok.sub.sqT hp, k _ _ g ok.refl (.val a') hw⟩⟩
  · obtain ⟨v, rfl, a⟩ := ha.one_inv
    obtain ⟨p, vs, rfl, hp, as⟩ := a.lst_inv
    exact ⟨p, vs, rfl, .inl ⟨SqL.of (ok.sub _ _ hp), fun l n => k _ _ _ (Step.laidF ok n) (RR.newT ok n as) hw⟩⟩
  · exact hw.elim
theorem cd_list : CallD K (fun xs H Q => ∃ p ys, xs = [.ref p] ∧ (SqL K H p ys ∨ SqT K H p ys) ∧ ∀ l, H l = none → Q (.ref l) (upd H l (.lst ys))) listD := by
  intro g vs ds Qd Q ok ha hw k
  unfold listD at hw
  split at hw
  · obtain ⟨v, rfl, a⟩ := ha.one_inv
    obtain ⟨p, vs, rfl, hp, as⟩ := a.tup_inv
    exact ⟨p, vs, rfl, .inr (ok.sub.sqT hp), fun l n => k _ _ _ (Step.laid ok n) (RR.newL ok n as) hw⟩
  · obtain ⟨v, rfl, a⟩ := ha.one_inv
    obtain ⟨p, vs, rfl, hp, as⟩ := a.lst_inv
    exact ⟨p, vs, rfl, .inl (SqL.of (ok.sub _ _ hp)), fun l n => k _ _ _ (Step.laid ok n) (RR.newL ok n as) hw⟩
  · exact hw.elim
/-- int(x), abs(x), max(x, y), min(x, y) of ints -/
def intD : List D → PQ
  | [.int i] => fun Q => Q (.val (.int i))
  | [.bl b] => fun Q => Q (.val (.int (if b then 1 else 0)))
  | _ => fun _ => False
theorem cd_int : CallD K (fun xs H Q => (∃ i, xs = [.int i] ∧ Q (.int i) H) ∨ ∃ k, xs = [.bl k] ∧ Q (.int (if k then 1 else 0)) H) intD := by
  intro g vs ds Qd Q ok ha hw k
  unfold intD at hw
  split at hw
  · obtain ⟨v, rfl, a⟩ := ha.one_inv
    rw [a.int_inv]
    exact .inl ⟨_, rfl, k _ _ g ok.refl (.val (.int _)) hw⟩
  · obtain ⟨v, rfl, a⟩ := ha.one_inv
    rw [a.bl_inv]
    exact .inr ⟨_, rfl, k _ _ g ok.refl (.val (.int _)) hw⟩
  · exact hw.elim
def absD : List D → PQ
  | [.int i] => fun Q => Q (.val (.int (if i < 0 then -i else i)))
  | _ => fun _ => False
theorem cd_abs : CallD K (fun xs H Q => ∃ i, xs = [.int i] ∧ Q (.int (if i < 0 then -i else i)) H) absD := by
  intro g vs ds Qd Q ok ha hw k
  unfold absD at hw
  split at hw
  · obtain ⟨v, rfl, a⟩ := ha.one_inv
    rw [a.int_inv]
    exact ⟨_, rfl, k _ _ g ok.refl (.val (.int _)) hw⟩
  · exact hw.elim
def max2D : List D → PQ
  | [.int i, .int j] => fun Q => Q (.val (.int (if j > i then j else i)))
  | _ => fun _ => False
def min2D : List D → PQ
  | [.int i, .int j] => fun Q => Q (.val (.int (if j < i then j else i)))
  | _ => fun _ => False
theorem cd_max2 : CallD K (fun xs H Q => ∃ i j, xs = [.int i, .int j] ∧ Q (.int (if j > i then j else i)) H) max2D := by
  intro g vs ds Qd Q ok ha hw k
  unfold max2D at hw
  split at hw
  · obtain ⟨v, w, rfl, a, b⟩ := ha.two_inv
    rw [a.int_inv, b.int_inv]
    exact ⟨_, _, rfl, k _ _ g ok.refl (.val (.int _)) hw⟩
  · exact hw.elim
theorem cd_min2 : CallD K (fun xs H Q => ∃ i j, xs = [.int i, .int j] ∧ Q (.int (if j < i then j else i)) H) min2D := by
  intro g vs ds Qd Q ok ha hw k
  unfold min2D at hw
  split at hw
  · obtain ⟨v, w, rfl, a, b⟩ := ha.two_inv
    rw [a.int_inv, b.int_inv]
    exact ⟨_, _, rfl, k _ _ g ok.refl (.val (.int _)) hw⟩
  · exact hw.elim
end

section
variable {K : PySem.W.Frag} {X : Cx}
/-- x[i] -/
def ixD : D → D → PQ
  | .tup ds, .int i => fun Q => ∃ d, atI ds i = some d ∧ Q (.val d)
  | .lst ds, .int i => fun Q => ∃ d, atI ds i = some d ∧ Q (.val d)
  | .str z, .int i => fun Q => z.length ≤ sizeLine ∧ ∃ c, atI z.cps.toList i = some c ∧ Q (.val (.str ⟨#[c]⟩))
  | _, _ => fun _ => False
theorem Ats.atI {Z : Zs} {F : Hp} {vs : List V} {ds : List D} {i : Int} {d : D} (h : Ats K Z F vs ds) (e : L2.atI ds i = some d) : ∃ v, L2.atI vs i = some v ∧ At K Z F v d := by
  unfold L2.atI at e ⊢
  rw [h.length]
  cases q : ixN ds.length i with
  | none => rw [q] at e; cases e
  | some j =>
    rw [q] at e
    exact h.get e
theorem od_ix : OpD K (rIx K) ixD := by
  intro g x y a b Qd Q ok ha hb hw k
  unfold ixD at hw
  split at hw
  · obtain ⟨p, vs, rfl, hp, as⟩ := ha.tup_inv
    rw [hb.int_inv]
    obtain ⟨d, e, q⟩ := hw
    obtain ⟨v, e', a'⟩ := as.atI e
    exact .inr (.inl ⟨p, vs, _, v, rfl, rfl, ok.sub.sqT hp, e', k _ _ g ok.refl (.val a') q⟩)
  · obtain ⟨p, vs, rfl, hp, as⟩ := ha.lst_inv
    rw [hb.int_inv]
    obtain ⟨d, e, q⟩ := hw
    obtain ⟨v, e', a'⟩ := as.atI e
    exact .inl ⟨p, vs, _, v, rfl, rfl, SqL.of (ok.sub _ _ hp), e', k _ _ g ok.refl (.val a') q⟩
  · rw [ha.str_inv, hb.int_inv]
    obtain ⟨h1, c, e, q⟩ := hw
    exact .inr (.inr ⟨_, _, c, rfl, rfl, h1, e, k _ _ g ok.refl (.val (.str _)) q⟩)
  · exact hw.elim
abbrev WO := DEnv → (Option Int → Prop) → EX → Prop
def LO (X : Cx) (W : WX) (w : WO) : TO := fun σ H Q => ∃ (g : Gh) (env : DEnv) (Qd : Option Int → Prop) (Ed : EX), g.H = H ∧ ES X.K g env σ ∧ w env Qd Ed ∧
  (∀ o g', Step g g' → Qd o → Q o g'.H) ∧ XL X W σ g Ed
abbrev DO (X : Cx) (W : WX) (e : Option Expr) (w : WO) : Prop := PO X e (LO X W w)
theorem po_imp {e : Option Expr} {t t' : TO} (h : PO X e t) (i : ∀ σ H Q, t' σ H Q → t σ H Q) : PO X e t' := ⟨fun pins s σ H Q I q => h.run pins s σ H Q I (i σ H Q q)⟩
def oNo : WO := fun _ Q _ => Q none
def oSo (w : WE) : WO := fun env Q E => w env (fun o => match o.d with | .int i => Q (some i) | _ => False) E
variable {W : WX} {w : WE} {e : Expr} {lo hi : Option Expr} {wl wh : WO} {pos p2 : Pos}
theorem do_no : DO X W none oNo := po_imp po_none fun σ H Q ⟨g, env, Qd, Ed, e, es, h, k, kx⟩ => by
  subst e
  exact k _ g es.ok.refl h
theorem do_so (h : DE X W e w) : DO X W (some e) (oSo w) := po_imp (po_some h) fun σ H Q ⟨g, env, Qd, Ed, e, es, h, k, kx⟩ => by
  subst e
  refine LE.go (R := fun d => match d with | .int i => Qd (some i) | _ => False) es h (fun v d g1 s1 a1 h1 => ?_) kx
  split at h1
  · rw [a1.int_inv]
    exact ⟨_, rfl, k _ g1 s1 h1⟩
  · exact h1.elim
def cut {α : Type} (xs : List α) (lo hi : Option Int) : List α := (xs.drop (HT.sIx xs.length 0 lo)).take (HT.sIx xs.length xs.length hi - HT.sIx xs.length 0 lo)
def sliceD : D → Option Int → Option Int → PQ
  | .tup ds, lo, hi => fun Q => Q (.val (.tup (cut ds lo hi)))
  | .lst ds, lo, hi => fun Q => Q (.lst ((cut ds lo hi).map .val))
  | _, _, _ => fun _ => False
def eSl (we : WE) (wl wh : WO) : WE := fun env Q E => we env (fun o => wl env (fun l => wh env (fun h => sliceD o.d l h Q) E) E) E
abbrev rSlD (K : PySem.W.Frag) : V → Option Int → Option Int → Hp → VK → Prop := fun x lo hi H Q => rSlA K x lo hi H Q ∨ rSlL K x lo hi H Q
theorem cut_ats {Z : Zs} {F : Hp} {vs : List V} {ds : List D} (h : Ats K Z F vs ds) (lo hi : Option Int) : Ats K Z F (cutV vs lo hi) (cut ds lo hi) := by
  unfold cutV cut
  rw [h.length]
  exact (h.drop _).take _
theorem cut_whole {α : Type} {ds : List α} {lo hi : Option Int} (h : HT.sIx ds.length 0 lo = 0 ∧ HT.sIx ds.length ds.length hi = ds.length) : cut ds lo hi = ds := by
  unfold cut
  rw [h.1, h.2, List.drop_zero, Nat.sub_zero, List.take_length]
theorem de_slice (he : DE X W e w) (hl : DO X W lo wl) (hu : DO X W hi wh) : DE X W (.Subscript e (.Slice lo hi none p2) pos) (eSl w wl wh) := pe_imp (pe_slice (sl_tupA.or sl_list) he hl hu) fun σ H Q ⟨g, env, Qd, Ed, e, es, h, k, kx⟩ => by
  subst e
  refine LE.go (R := fun d => wl env (fun l => wh env (fun h => sliceD d l h Qd) Ed) Ed) es h (fun v d g1 s1 a1 h1 => ?_) kx
  refine ⟨g1, env, _, Ed, rfl, es.step s1, h1, fun l g2 s2 h2 => ?_, XL.on kx s1⟩
  refine ⟨g2, env, _, Ed, rfl, (es.step s1).step s2, h2, fun u g3 s3 h3 => ?_, XL.on (XL.on kx s1) s2⟩
  have a3 := (a1.mono s2.up s2.zs).mono s3.up s3.zs
  have k3 : QL X g3 Qd Q := QL.on (QL.on (QL.on k s1) s2) s3
  unfold sliceD at h3
  split at h3
  · have a3' := a3
    obtain ⟨p, vs, rfl, hp, as⟩ := a3.tup_inv
    have el := as.length
    refine .inl ⟨p, vs, rfl, s3.ok.sub.sqT hp, fun hw => ?_, fun _ q n => ?_⟩
    · rw [el] at hw
      rw [cut_whole hw] at h3
      exact k3 _ _ g3 s3.ok.refl (.val a3') h3
    · exact k3 _ _ _ (Step.laidF s3.ok n) (RR.newT s3.ok n (cut_ats as _ _)) h3
  · obtain ⟨p, vs, rfl, hp, as⟩ := a3.lst_inv
    exact .inr ⟨p, vs, rfl, SqL.of (s3.ok.sub _ _ hp), fun q n => k3 _ _ _ (Step.laid s3.ok n) (RR.newL s3.ok n (cut_ats as _ _)) h3⟩
  · exact h3.elim
/-- xs[::-1] of a list -/
def revLD : D → PQ
  | .lst ds => fun Q => Q (.lst (ds.reverse.map .val))
  | _ => fun _ => False
theorem de_revL {k : Nat} {p1 p3 : Pos} (he : DE X W e w) : DE X W (.Subscript e (.Slice none none (some (.UnaryOp .USub (.Constant (.int 1) k p1) p2)) p3) pos) (eUn revLD w) := pe_imp (pe_revL he) fun σ H Q ⟨g, env, Qd, Ed, e, es, h, k, kx⟩ => by
  subst e
  refine LE.go (R := fun d => revLD d Qd) es h (fun v d g1 s1 a1 h1 => ?_) kx
  unfold revLD at h1
  split at h1
  · obtain ⟨p, vs, rfl, hp, as⟩ := a1.lst_inv
    exact ⟨p, vs, rfl, SqL.of (s1.ok.sub _ _ hp), fun q n => (QL.on k s1) _ _ _ (Step.laid s1.ok n) (RR.newL s1.ok n as.rev) h1⟩
  · exact h1.elim
end

abbrev WT := DEnv → (Bool → Prop) → EX → Prop
def LT (X : Cx) (W : WX) (w : WT) : TT := fun σ H Q => ∃ (g : Gh) (env : DEnv) (Qd : Bool → Prop) (Ed : EX), g.H = H ∧ ES X.K g env σ ∧ w env Qd Ed ∧
  (∀ b g', Step g g' → Qd b → Q b g'.H) ∧ XL X W σ g Ed
abbrev DT (X : Cx) (W : WX) (e : Expr) (w : WT) : Prop := PT X e (LT X W w)
abbrev DW (X : Cx) (W : WX) (e : Expr) (w : WT) : Prop := PW X e (LT X W w)
section
variable {X : Cx} {W : WX} {σ : L2.St} {env : DEnv} {g g0 : Gh} {w wa wb wc : WE} {t u : WT} {e a b c : Expr} {rest : List Expr} {pos : Pos}
theorem pt_imp {t t' : TT} (h : PT X e t) (i : ∀ σ H Q, t' σ H Q → t σ H Q) : PT X e t' := ⟨fun pins s σ H Q I q => h.run pins s σ H Q I (i σ H Q q)⟩
theorem pw_imp {t t' : TT} (h : PW X e t) (i : ∀ σ H Q, t' σ H Q → t σ H Q) : PW X e t' := ⟨fun wh pins s σ H Q I q => h.run wh pins s σ H Q I (i σ H Q q)⟩
theorem LT.go {Qd : Bool → Prop} {Ed : EX} {Q : Bool → Hp → Prop} (es : ES X.K g env σ) (h : t env Qd Ed) (k : ∀ b g', Step g g' → Qd b → Q b g'.H) (kx : XL X W σ g Ed) : LT X W t σ g.H Q := ⟨g, env, Qd, Ed, rfl, es, h, k, kx⟩
/-- a bool -/
def blD (Q : Bool → Prop) : D → Prop
  | .bl b => Q b
  | _ => False
def tBl (w : WE) : WT := fun env Q E => w env (fun o => blD Q o.d) E
def truD (Q : Bool → Prop) : D → Prop
  | .non => Q false
  | .bl b => Q b
  | .int i => Q (i != 0)
  | .str x => x.length ≤ sizeLine ∧ Q ((x.length : Int) != 0)
  | .tup ds => Q (!ds.isEmpty)
  | .lst ds => Q (!ds.isEmpty)
  | _ => False
def tTru (w : WE) : WT := fun env Q E => w env (fun o => truD Q o.d) E
theorem Ats.isEmpty {K : PySem.W.Frag} {Z : Zs} {F : Hp} {vs : List V} {ds : List D} (h : Ats K Z F vs ds) : vs.isEmpty = ds.isEmpty := by cases h <;> rfl
theorem dt_bl {t : TE} (h : PT X e (fun σ H Q => t σ H fun x H' => ∃ k, x = .bl k ∧ Q k H')) (i : ∀ σ H Q, LE X W w σ H Q → t σ H Q) : DT X W e (tBl w) := pt_imp h fun σ H Q ⟨g, env, Qd, Ed, e, es, hw, k, kx⟩ => by
  subst e
  refine i _ _ _ (LE.go (R := fun d => blD Qd d) es hw (fun v d g1 s1 a1 h1 => ?_) kx)
  unfold blD at h1
  split at h1
  · rw [a1.bl_inv]
    exact ⟨_, rfl, k _ g1 s1 h1⟩
  · exact h1.elim
theorem dt_cmp {op : CmpOp} {r : R2} {f : D → D → PQ} (ho : OpR X (compareOp op) r) (hd : OpD X.K r f) (ha : DE X W a wa) (hb : DE X W b wb) (hm : behindInMarks op b = false) : DT X W (.Compare a [op] [b] pos) (tBl (eBin f wa wb)) :=
  dt_bl (pt_cmpR ho ha hb hm) (le_bin hd)
theorem dt_tru (h : DE X W e w) (he : ∀ whole, isTrue e X.env whole = (do let v ← whole; standAt e.pos; holding [v] (truthy v)) := by intro _; rfl) : DT X W e (tTru w) := pt_imp (pt_truth h he) fun σ H Q ⟨g, env, Qd, Ed, e, es, hw, k, kx⟩ => by
  subst e
  refine LE.go (R := fun d => truD Qd d) es hw (fun v d g1 s1 a1 h1 => ?_) kx
  unfold truD at h1
  split at h1
  · rw [a1.non_inv]
    exact ⟨_, rfl, k _ g1 s1 h1⟩
  · rw [a1.bl_inv]
    exact ⟨_, rfl, k _ g1 s1 h1⟩
  · rw [a1.int_inv]
    exact ⟨_, rfl, k _ g1 s1 h1⟩
  · rw [a1.str_inv]
    exact ⟨_, ⟨h1.1, rfl⟩, k _ g1 s1 h1.2⟩
  · obtain ⟨p, vs, rfl, hp, as⟩ := a1.tup_inv
    exact ⟨_, .inr (.inl ⟨vs, s1.ok.sub.sqT hp, by rw [as.isEmpty]⟩), k _ g1 s1 h1⟩
  · obtain ⟨p, vs, rfl, hp, as⟩ := a1.lst_inv
    exact ⟨_, .inl ⟨vs, SqL.of (s1.ok.sub _ _ hp), by rw [as.isEmpty]⟩, k _ g1 s1 h1⟩
  · exact h1.elim
/-- a < b <= c -/
def eChain (f f' : D → D → PQ) (wa wb wc : WE) : WE := fun env Q E => wa env (fun x => wb env (fun y => f x.d y.d fun z => blD (fun k => if k = true then wc env (fun u => f' y.d u.d Q) E else Q (.val (.bl false))) z.d) E) E
theorem le_chain {r r' : R2} {f f' : D → D → PQ} (hd : OpD X.K r f) (hd' : OpD X.K r' f') (σ : L2.St) (H : Hp) (Q : VK) (h : LE X W (eChain f f' wa wb wc) σ H Q) : tChain r r' (LE X W wa) (LE X W wb) (LE X W wc) σ H Q := by
  obtain ⟨g, env, Qd, Ed, e, es, h, k, kx⟩ := h
  subst e
  refine LE.go (R := fun x => wb env (fun y => f x y.d fun z => blD (fun k => if k = true then wc env (fun u => f' y.d u.d Qd) Ed else Qd (.val (.bl false))) z.d) Ed) es h (fun x dx g1 s1 ax h1 => ?_) kx
  refine LE.go (R := fun y => f dx y fun z => blD (fun k => if k = true then wc env (fun u => f' y u.d Qd) Ed else Qd (.val (.bl false))) z.d) (es.step s1) h1 (fun y dy g2 s2 ay h2 => ?_) (XL.on kx s1)
  refine hd g2 x y dx dy _ _ s2.ok (ax.mono s2.up s2.zs) ay h2 fun z o g3 s3 r3 h3 => ?_
  obtain ⟨F', s4, up, a4⟩ := r3.freeze s3
  unfold blD at h3
  split at h3
  · rename_i bb eb
    rw [eb] at a4
    refine ⟨bb, a4.bl_inv, ?_⟩
    have s04 := (s1.trans s2).trans s4
    cases bb with
    | true =>
      rw [if_pos rfl] at h3 ⊢
      refine LE.go (g := ⟨g3.Z, F', g3.H⟩) (R := fun u => f' dy u Qd) (es.step s04) h3 (fun u du g5 s5 au h5 => ?_) (XL.on kx s04)
      exact hd' g5 y u dy du Qd Q s5.ok ((ay.mono s4.up s4.zs).mono s5.up s5.zs) au h5 (QL.on (QL.on k s04) s5)
    | false =>
      rw [if_neg (by decide)] at h3 ⊢
      exact k _ _ ⟨g3.Z, F', g3.H⟩ s04 (.val (.bl false)) h3
  · exact h3.elim
theorem de_chain {op op' : CmpOp} {r r' : R2} {f f' : D → D → PQ} (ho : OpR X (compareOp op) r) (hd : OpD X.K r f) (ho' : OpR X (compareOp op') r') (hd' : OpD X.K r' f') (ha : DE X W a wa) (hb : DE X W b wb) (hc : DE X W c wc)
    (hm : lastMarks [op, op'] [b, c] = false := by with_unfolding_all rfl) : DE X W (.Compare a [op, op'] [b, c] pos) (eChain f f' wa wb wc) := pe_imp (pe_chain ho ho' ha hb hc hm) (le_chain hd hd')
theorem dt_chain {op op' : CmpOp} {r r' : R2} {f f' : D → D → PQ} (ho : OpR X (compareOp op) r) (hd : OpD X.K r f) (ho' : OpR X (compareOp op') r') (hd' : OpD X.K r' f') (ha : DE X W a wa) (hb : DE X W b wb) (hc : DE X W c wc)
    (hm : lastMarks [op, op'] [b, c] = false := by with_unfolding_all rfl) : DT X W (.Compare a [op, op'] [b, c] pos) (tBl (eChain f f' wa wb wc)) := dt_bl (pt_chain ho ho' ha hb hc hm) (le_chain hd hd')
/-- and, or, not -/
def wAnd (t u : WT) : WT := fun env Q E => t env (fun c => if c = true then u env Q E else Q false) E
def wOr (t u : WT) : WT := fun env Q E => t env (fun c => if c = true then Q true else u env Q E) E
def wNot (t : WT) : WT := fun env Q E => t env (fun c => Q (!c)) E
theorem dw_and1 (h : DT X W a t) : DW X W (.BoolOp .And [a] pos) t := pw_and1 h
theorem dw_or1 (h : DT X W a t) : DW X W (.BoolOp .Or [a] pos) t := pw_or1 h
theorem dw_and (h : DT X W a t) (h' : DW X W (.BoolOp .And (b :: rest) pos) u) : DW X W (.BoolOp .And (a :: b :: rest) pos) (wAnd t u) := pw_imp (pw_and h h') fun σ H Q ⟨g, env, Qd, Ed, e, es, hw, k, kx⟩ => by
  subst e
  refine LT.go es hw (fun c g1 s1 h1 => ?_) kx
  cases c with
  | true =>
    rw [if_pos rfl] at h1 ⊢
    exact LT.go (es.step s1) h1 (fun b g2 s2 => k b g2 (s1.trans s2)) (XL.on kx s1)
  | false =>
    rw [if_neg (by decide)] at h1 ⊢
    exact k _ g1 s1 h1
theorem dw_or (h : DT X W a t) (h' : DW X W (.BoolOp .Or (b :: rest) pos) u) : DW X W (.BoolOp .Or (a :: b :: rest) pos) (wOr t u) := pw_imp (pw_or h h') fun σ H Q ⟨g, env, Qd, Ed, e, es, hw, k, kx⟩ => by
  subst e
  refine LT.go es hw (fun c g1 s1 h1 => ?_) kx
  cases c with
  | false =>
    rw [if_neg (by decide)] at h1 ⊢
    exact LT.go (es.step s1) h1 (fun b g2 s2 => k b g2 (s1.trans s2)) (XL.on kx s1)
  | true =>
    rw [if_pos rfl] at h1 ⊢
    exact k _ g1 s1 h1
theorem dt_w (h : DW X W e t) : DT X W e t := h.pt
theorem dt_not (h : DT X W a t) : DT X W (.UnaryOp .Not a pos) (wNot t) := pt_imp (pt_not h) fun σ H Q ⟨g, env, Qd, Ed, e, es, hw, k, kx⟩ => by
  subst e
  exact LT.go es hw (fun c g1 s1 h1 => k _ g1 s1 h1) kx
/-- .. as values, bools ahead of the last -/
def eAnd (wa wb : WE) : WE := fun env Q E => wa env (fun o => blD (fun c => if c = true then wb env Q E else Q (.val (.bl false))) o.d) E
def eOr (wa wb : WE) : WE := fun env Q E => wa env (fun o => blD (fun c => if c = true then Q (.val (.bl true)) else wb env Q E) o.d) E
def eNot (wa : WE) : WE := fun env Q E => wa env (fun o => blD (fun c => Q (.val (.bl (!c)))) o.d) E
theorem de_one {op} (h : DE X W a w) : DE X W (.BoolOp op [a] pos) w := pe_one h
theorem de_and (ha : DE X W a wa) (hb : DE X W (.BoolOp .And (b :: rest) pos) wb) : DE X W (.BoolOp .And (a :: b :: rest) pos) (eAnd wa wb) := pe_imp (pe_and ha hb) fun σ H Q ⟨g, env, Qd, Ed, e, es, hw, k, kx⟩ => by
  subst e
  refine LE.go (R := fun d => blD (fun c => if c = true then wb env Qd Ed else Qd (.val (.bl false))) d) es hw (fun v d g1 s1 a1 h1 => ?_) kx
  unfold blD at h1
  split at h1
  · rename_i c
    refine ⟨c, a1.bl_inv, ?_⟩
    cases c with
    | true =>
      rw [if_pos rfl] at h1 ⊢
      exact LE.goO (es.step s1) h1 (QL.on k s1) (XL.on kx s1)
    | false =>
      rw [if_neg (by decide)] at h1 ⊢
      exact k _ _ g1 s1 (.val (.bl false)) h1
  · exact h1.elim
theorem de_or (ha : DE X W a wa) (hb : DE X W (.BoolOp .Or (b :: rest) pos) wb) : DE X W (.BoolOp .Or (a :: b :: rest) pos) (eOr wa wb) := pe_imp (pe_or ha hb) fun σ H Q ⟨g, env, Qd, Ed, e, es, hw, k, kx⟩ => by
  subst e
  refine LE.go (R := fun d => blD (fun c => if c = true then Qd (.val (.bl true)) else wb env Qd Ed) d) es hw (fun v d g1 s1 a1 h1 => ?_) kx
  unfold blD at h1
  split at h1
  · rename_i c
    refine ⟨c, a1.bl_inv, ?_⟩
    cases c with
    | false =>
      rw [if_neg (by decide)] at h1 ⊢
      exact LE.goO (es.step s1) h1 (QL.on k s1) (XL.on kx s1)
    | true =>
      rw [if_pos rfl] at h1 ⊢
      exact k _ _ g1 s1 (.val (.bl true)) h1
  · exact h1.elim
theorem de_not (ha : DE X W a wa) : DE X W (.UnaryOp .Not a pos) (eNot wa) := pe_imp (pe_not ha) fun σ H Q ⟨g, env, Qd, Ed, e, es, hw, k, kx⟩ => by
  subst e
  refine LE.go (R := fun d => blD (fun c => Qd (.val (.bl (!c)))) d) es hw (fun v d g1 s1 a1 h1 => ?_) kx
  unfold blD at h1
  split at h1
  · exact ⟨_, a1.bl_inv, k _ _ g1 s1 (.val (.bl _)) h1⟩
  · exact h1.elim
/-- a if t else b -/
def eIf (t : WT) (wa wb : WE) : WE := fun env Q E => t env (fun c => if c = true then wa env Q E else wb env Q E) E
theorem de_if (ht : DT X W c t) (ha : DE X W a wa) (hb : DE X W b wb) : DE X W (.IfExp c a b pos) (eIf t wa wb) := pe_imp (pe_ifExp ht ha hb) fun σ H Q ⟨g, env, Qd, Ed, e, es, hw, k, kx⟩ => by
  subst e
  refine LT.go es hw (fun c g1 s1 h1 => ?_) kx
  cases c with
  | true =>
    rw [if_pos rfl] at h1 ⊢
    exact LE.goO (es.step s1) h1 (QL.on k s1) (XL.on kx s1)
  | false =>
    rw [if_neg (by decide)] at h1 ⊢
    exact LE.goO (es.step s1) h1 (QL.on k s1) (XL.on kx s1)
end
end DL
/-! DLoop -/
namespace DL
open PySem PySem.Spec PyProof.Rows L2

inductive Pat where
  | nm (i : Nat) | tp (ps : List Pat)
mutual
def Pat.slots : Pat → List Nat
  | .nm i => [i]
  | .tp ps => Pat.slotss ps
def Pat.slotss : List Pat → List Nat
  | [] => []
  | p :: ps => p.slots ++ Pat.slotss ps
end
/-- the items of a tuple or a list -/
def unD : D → Option (List D)
  | .tup ds => some ds
  | .lst ds => some ds
  | _ => none
mutual
/-- what the names hold then -/
def Pat.bind {α : Type} (f : D → α) : Pat → D → List (Option α) → Option (List (Option α))
  | .nm i, d, env => if i < env.length then some (env.set i (some (f d))) else none
  | .tp ps, d, env => match unD d with
    | some ds => Pat.binds f ps ds env
    | none => none
def Pat.binds {α : Type} (f : D → α) : List Pat → List D → List (Option α) → Option (List (Option α))
  | [], [], env => some env
  | p :: ps, d :: ds, env => match p.bind f d env with
    | some env' => Pat.binds f ps ds env'
    | none => none
  | _, _, _ => none
end
@[simp] theorem Pat.bind_nm {α : Type} (f : D → α) (i : Nat) (d : D) (env : List (Option α)) : (Pat.nm i).bind f d env = if i < env.length then some (env.set i (some (f d))) else none := by simp [Pat.bind]
@[simp] theorem Pat.bind_tup {α : Type} (f : D → α) (ps : List Pat) (ds : List D) (env : List (Option α)) : (Pat.tp ps).bind f (.tup ds) env = Pat.binds f ps ds env := by simp [Pat.bind, unD]
@[simp] theorem Pat.bind_lst {α : Type} (f : D → α) (ps : List Pat) (ds : List D) (env : List (Option α)) : (Pat.tp ps).bind f (.lst ds) env = Pat.binds f ps ds env := by simp [Pat.bind, unD]
@[simp] theorem Pat.binds_nil {α : Type} (f : D → α) (env : List (Option α)) : Pat.binds f [] [] env = some env := by simp [Pat.binds]
@[simp] theorem Pat.binds_cons {α : Type} (f : D → α) (p : Pat) (ps : List Pat) (d : D) (ds : List D) (env : List (Option α)) : Pat.binds f (p :: ps) (d :: ds) env = (match p.bind f d env with | some env' => Pat.binds f ps ds env' | none => none) := by simp [Pat.binds]
/-- the slots that may have changed -/
structure Chg (is : List Nat) (σ σ' : L2.St) : Prop where
  len : σ'.length = σ.length
  out : ∀ i, i ∉ is → σ'[i]? = σ[i]?
theorem Chg.refl (is : List Nat) (σ : L2.St) : Chg is σ σ := ⟨rfl, fun _ _ => rfl⟩
theorem Chg.trans {is js : List Nat} {σ τ ρ : L2.St} (a : Chg is σ τ) (b : Chg js τ ρ) : Chg (is ++ js) σ ρ :=
  ⟨b.len.trans a.len, fun i h => (b.out i fun m => h (by simp [m])).trans (a.out i fun m => h (by simp [m]))⟩
theorem Chg.set (σ : L2.St) (i : Nat) (v : Option V) : Chg [i] σ (σ.set i v) := ⟨by simp, fun j h => by rw [List.getElem?_set_ne]; intro e; exact h (by simp [e])⟩
theorem Chg.mono {is js : List Nat} {σ τ : L2.St} (a : Chg is σ τ) (h : ∀ i ∈ is, i ∈ js) : Chg js σ τ := ⟨a.len, fun i n => a.out i fun m => n (h i m)⟩
mutual
def tgP (K : PySem.W.Frag) : Pat → TG
  | .nm i => gName i
  | .tp ps => fun v σ H Q => gTup K ps.length (tgPs K ps) v σ H Q ∨ gLst K ps.length (tgPs K ps) v σ H Q
def tgPs (K : PySem.W.Frag) : List Pat → TGs
  | [] => gNil
  | p :: ps => gCons (tgP K p) (tgPs K ps)
end
section
variable {X : Cx} {pos : Pos} {p : Pat} {ps : List Pat} {e : Expr} {es : List Expr}
abbrev DG (X : Cx) (e : Expr) (p : Pat) : Prop := PG X e (tgP X.K p)
abbrev DGs (X : Cx) (es : List Expr) (ps : List Pat) : Prop := PGs X es (tgPs X.K ps)
theorem PG.or {e : Expr} {t t' : TG} (h : PG X e t) (h' : PG X e t') : PG X e (fun v σ H Q => t v σ H Q ∨ t' v σ H Q) := ⟨fun pins s σ H v u Q I r q => by
  rcases q with q | q
  · exact h.run pins s σ H v u Q I r q
  · exact h'.run pins s σ H v u Q I r q⟩
theorem dg_nm (i : Nat) {x : Str} (hN : X.N.Nodup) (hi : X.N[i]? = some x := by rfl) (hx : Loc X.env.scope x := by first | exact Or.inl rfl | exact Or.inr rfl) (hf : X.fn x = true ∨ X.env.scope.names.lookup x = some .local := by first | exact .inl rfl | exact .inr rfl | assumption) : DG X (.Name x pos) (.nm i) := by
  show PG X _ (tgP X.K (.nm i))
  simp only [tgP]
  exact pg_name hN hi hx hf
theorem dgs_nil : DGs X [] [] := by
  show PGs X _ (tgPs X.K [])
  simp only [tgPs]
  exact pgs_nil
theorem dgs_cons (h : DG X e p) (t : DGs X es ps) (hs : (assignEach (e :: es) X.env).map (·.2) = assign e X.env :: (assignEach es X.env).map (·.2) := by rfl) : DGs X (e :: es) (p :: ps) := by
  show PGs X _ (tgPs X.K (p :: ps))
  simp only [tgPs]
  exact pgs_cons h t hs
theorem dg_tp {k : Nat} (hc : X.calm = true) (h : DGs X es ps) (hn : (assignEach es X.env).length = ps.length := by rfl) (hst : (assignEach es X.env).findIdx? (·.1) = none := by rfl) : DG X (.Tuple es k pos) (.tp ps) := by
  show PG X _ (tgP X.K (.tp ps))
  simp only [tgP]
  exact PG.or (pg_tup hc h hn hst) (pg_lst hc h hn hst)
end
theorem List.set_get {α : Type} {l : List (Option α)} {i j : Nat} {a : Option α} {d : α} (h : (l.set i a)[j]? = some (some d)) : (i = j ∧ a = some d) ∨ (i ≠ j ∧ l[j]? = some (some d)) := by
  by_cases e : i = j
  · subst e
    by_cases hl : i < l.length
    · rw [List.getElem?_set_self hl] at h
      exact .inl ⟨rfl, Option.some.inj h⟩
    · rw [List.getElem?_eq_none (by simpa using hl)] at h
      cases h
  · rw [List.getElem?_set_ne e] at h
    exact .inr ⟨e, h⟩
theorem ES.set {K : PySem.W.Frag} {g : Gh} {env : DEnv} {σ : L2.St} {i : Nat} {v : V} {d : D} (h : ES K g env σ) (hi : i < env.length) (a : At K g.Z g.F v d) : ES K g (env.set i (some d)) (σ.set i (some v)) :=
  ⟨h.ok, by simp [h.len], fun j e q => by
    rcases List.set_get q with ⟨ej, q1⟩ | ⟨n, q1⟩
    · subst ej
      obtain rfl : d = e := Option.some.inj q1
      exact ⟨v, List.getElem?_set_self (by rw [← h.len]; exact hi), a⟩
    · obtain ⟨w, h1, h2⟩ := h.slot j e q1
      exact ⟨w, by rw [List.getElem?_set_ne n]; exact h1, h2⟩⟩
mutual
theorem tgP_es {K : PySem.W.Frag} {g : Gh} : ∀ (p : Pat) {env env' : DEnv} {σ : L2.St} {v : V} {d : D} {Q : L2.St → Hp → Prop}, ES K g env σ → At K g.Z g.F v d → p.bind id d env = some env' →
    (∀ σ', ES K g env' σ' → Chg p.slots σ σ' → Q σ' g.H) → tgP K p v σ g.H Q
  | .nm i, env, env', σ, v, d, Q, h, a, e, k => by
    simp only [tgP]
    rw [Pat.bind_nm] at e
    split at e
    · rename_i hi
      cases e
      exact k _ (h.set hi a) (by simp only [Pat.slots]; exact Chg.set σ i _)
    · cases e
  | .tp ps, env, env', σ, v, d, Q, h, a, e, k => by
    simp only [tgP]
    cases d with
    | tup ds =>
      rw [Pat.bind_tup] at e
      obtain ⟨q, vs, rfl, hq, as⟩ := a.tup_inv
      obtain ⟨hl, hh⟩ := tgPs_es ps h as e k
      exact .inl ⟨q, vs, rfl, h.ok.sub.sqT hq, hl, hh⟩
    | lst ds =>
      rw [Pat.bind_lst] at e
      obtain ⟨q, vs, rfl, hq, as⟩ := a.lst_inv
      obtain ⟨hl, hh⟩ := tgPs_es ps h as e k
      exact .inr ⟨q, vs, rfl, SqL.of (h.ok.sub _ _ hq), hl, hh⟩
    | _ => simp [Pat.bind, unD] at e
theorem tgPs_es {K : PySem.W.Frag} {g : Gh} : ∀ (ps : List Pat) {env env' : DEnv} {σ : L2.St} {vs : List V} {ds : List D} {Q : L2.St → Hp → Prop}, ES K g env σ → Ats K g.Z g.F vs ds → Pat.binds id ps ds env = some env' →
    (∀ σ', ES K g env' σ' → Chg (Pat.slotss ps) σ σ' → Q σ' g.H) → vs.length = ps.length ∧ tgPs K ps vs σ g.H Q
  | [], env, env', σ, vs, ds, Q, h, a, e, k => by
    simp only [tgPs]
    cases ds with
    | nil =>
      cases a
      rw [Pat.binds_nil] at e
      cases e
      exact ⟨rfl, rfl, k _ h (by simp only [Pat.slotss]; exact Chg.refl _ _)⟩
    | cons d ds => simp [Pat.binds] at e
  | p :: ps, env, env', σ, vs, ds, Q, h, a, e, k => by
    simp only [tgPs]
    cases ds with
    | nil => simp [Pat.binds] at e
    | cons d ds =>
      cases a with
      | cons a t =>
        rename_i v vs
        rw [Pat.binds_cons] at e
        split at e
        · rename_i env1 e1
          have len : vs.length = ps.length ∧ True := by
            -- by a dry run of the rest
            have := t.length
            have hlen : ∀ (ps : List Pat) (ds : List D) (env env' : DEnv), Pat.binds id ps ds env = some env' → ds.length = ps.length := by
              intro ps
              induction ps with
              | nil => intro ds env env' q; cases ds <;> simp [Pat.binds] at q ⊢
              | cons p ps ih =>
                intro ds env env' q
                cases ds with
                | nil => simp [Pat.binds] at q
                | cons d ds =>
                  rw [Pat.binds_cons] at q
                  split at q
                  · have := ih _ _ _ q; simp [this]
                  · cases q
            exact ⟨by rw [this, hlen _ _ _ _ e], trivial⟩
          refine ⟨by simp [len.1], v, vs, rfl, tgP_es p h a e1 fun σ1 h1 c1 => ?_⟩
          exact (tgPs_es ps h1 t e fun σ2 h2 c2 => k σ2 h2 (by simp only [Pat.slotss]; exact c1.trans c2)).2
        · cases e
end

structure Grow (g g' : Gh) : Prop where
  ok : g'.Ok
  up : Sub g.F g'.F
  zs : ∀ p ∈ g.Z, p ∈ g'.Z
theorem Step.grow {g g' : Gh} (s : Step g g') : Grow g g' := ⟨s.ok, s.up, s.zs⟩
theorem Grow.trans {g g1 g2 : Gh} (s : Grow g g1) (t : Grow g1 g2) : Grow g g2 := ⟨t.ok, s.up.trans t.up, fun p h => t.zs p (s.zs p h)⟩
structure ItOk (K : PySem.W.Frag) (g : Gh) (J : It) (ds : List D) : Prop where
  go : ∀ g', Grow g g' → ∀ (i : Nat) (d : D), ds[i]? = some d → J.go i g'.H
  yl : ∀ g', Grow g g' → ∀ (i : Nat) (d : D) (x : V) (H' : Hp), ds[i]? = some d → J.yld i g'.H x H' → ∃ F', Step g' ⟨g'.Z, F', H'⟩ ∧ At K g'.Z F' x d
  st : ∀ g', Grow g g' → ∀ (i : Nat), ds.length ≤ i → J.stop i g'.H
abbrev WI := DEnv → (List D → Prop) → EX → Prop
def LI (X : Cx) (W : WX) (w : WI) : TI := fun σ H R => ∃ (g : Gh) (env : DEnv) (Qd : List D → Prop) (Ed : EX), g.H = H ∧ ES X.K g env σ ∧ w env Qd Ed ∧
  (∀ ds J g', Step g g' → ItOk X.K g' J ds → Qd ds → R J g'.H) ∧ XL X W σ g Ed
abbrev DI (X : Cx) (W : WX) (tg iter : Expr) (w : WI) : Prop := PI X tg iter (LI X W w)
/-- what is walked leans on nothing that stands in the heap -/
def LIr (X : Cx) (W : WX) (w : WI) : TI := fun σ H R => ∃ (g : Gh) (env : DEnv) (Qd : List D → Prop) (Ed : EX), g.H = H ∧ ES X.K g env σ ∧ w env Qd Ed ∧
  (∀ ds J g', Step g g' → (∀ g1, ItOk X.K g1 J ds) → Qd ds → R J g'.H) ∧ XL X W σ g Ed
abbrev DIr (X : Cx) (W : WX) (tg iter : Expr) (w : WI) : Prop := PI X tg iter (LIr X W w)
theorem pi_imp0 {X : Cx} {tg e : Expr} {t t' : TI} (h : PI X tg e t) (i : ∀ σ H R, t' σ H R → t σ H R) : PI X tg e t' := ⟨fun pins s σ H R I q => h.run pins s σ H R I (i σ H R q)⟩
theorem DIr.di {X : Cx} {W : WX} {tg e : Expr} {w : WI} (h : DIr X W tg e w) : DI X W tg e w := pi_imp0 h fun σ H R ⟨g, env, Qd, Ed, e, es, hw, k, kx⟩ => ⟨g, env, Qd, Ed, e, es, hw, fun ds J g' s it q => k ds J g' s (it g') q, kx⟩
theorem pi_imp {X : Cx} {tg e : Expr} {t t' : TI} (h : PI X tg e t) (i : ∀ σ H R, t' σ H R → t σ H R) : PI X tg e t' := ⟨fun pins s σ H R I q => h.run pins s σ H R I (i σ H R q)⟩
/-- over data that stand where they stand -/
theorem ItOk.same {K : PySem.W.Frag} {g : Gh} {J : It} {ds : List D} {vs : List V} (a : Ats K g.Z g.F vs ds)
    (go : ∀ g', Grow g g' → ∀ (i : Nat) (v : V), vs[i]? = some v → J.go i g'.H) (yl : ∀ g', Grow g g' → ∀ (i : Nat) (v x : V) (H' : Hp), vs[i]? = some v → J.yld i g'.H x H' → H' = g'.H ∧ x = v)
    (st : ∀ g', Grow g g' → ∀ (i : Nat), vs.length ≤ i → J.stop i g'.H) : ItOk K g J ds where
  go := fun g' s i d e => by
    obtain ⟨v, h1, _⟩ := a.get e
    exact go g' s i v h1
  yl := fun g' s i d x H' e y => by
    obtain ⟨v, h1, h2⟩ := a.get e
    obtain ⟨rfl, rfl⟩ := yl g' s i v x H' h1 y
    exact ⟨g'.F, s.ok.refl, h2.mono s.up s.zs⟩
  st := fun g' s i h => st g' s i (by rw [a.length]; exact h)
theorem itok_list {K : PySem.W.Frag} {g : Gh} {a : Addr} {vs : List V} {ds : List D} (h : g.F a = some (.lst vs)) (as : Ats K g.Z g.F vs ds) : ItOk K g (Itl K a) ds :=
  have q : ∀ g', Grow g g' → SqL K g'.H a vs := fun g' s => SqL.of (s.ok.sub _ _ (s.up _ _ h))
  .same as (fun g' s i v e => ⟨vs, v, q g' s, e⟩) (fun g' s i v x H' e y => ⟨y.1, Option.some.inj ((y.2 vs (q g' s)).symm.trans e)⟩) fun g' s i h => ⟨vs, q g' s, h⟩
theorem itok_tup {K : PySem.W.Frag} {g : Gh} {a : Addr} {vs : List V} {ds : List D} (h : SqT K g.F a vs) (as : Ats K g.Z g.F vs ds) : ItOk K g (Itt K a) ds :=
  have q : ∀ g', Grow g g' → SqT K g'.H a vs := fun g' s => s.ok.sub.sqT (s.up.sqT h)
  .same as (fun g' s i v e => ⟨vs, v, q g' s, e⟩) (fun g' s i v x H' e y => ⟨y.1, Option.some.inj ((y.2 vs (q g' s)).symm.trans e)⟩) fun g' s i h => ⟨vs, q g' s, h⟩
def rng (lo hi : Int) : List D := (List.range (hi - lo).toNat).map fun k => D.int (lo + (k : Nat))
theorem rng_length (lo hi : Int) : (rng lo hi).length = (hi - lo).toNat := by simp [rng]
theorem itok_range {K : PySem.W.Frag} {g : Gh} (lo hi : Int) : ItOk K g (Itr lo (hi - lo).toNat) (rng lo hi) where
  go := fun g' s i d e => by
    have := (List.getElem?_eq_some_iff.mp e).1
    rwa [rng_length] at this
  yl := fun g' s i d x H' e y => by
    obtain ⟨rfl, rfl⟩ := y
    obtain ⟨h, rfl⟩ := List.getElem?_eq_some_iff.mp e
    refine ⟨g'.F, s.ok.refl, ?_⟩
    simp only [rng, List.getElem_map, List.getElem_range]
    exact .int _
  st := fun g' s i h => by
    rw [rng_length] at h
    exact h
section
variable {X : Cx} {W : WX} {σ : L2.St} {env : DEnv} {g g0 : Gh} {w : WE} {ws : WA} {tg e a b : Expr} {es : List Expr} {pos p : Pos}
def iSeq (w : WE) : WI := fun env Q E => w env (fun o => itemsD o.d Q) E
/-- a list or a tuple -/
def tSeqI (K : PySem.W.Frag) (tl : TE) : TI := fun σ H R => tl σ H fun x H1 => (∃ a, x = .ref a ∧ (∃ xs, SqL K H1 a xs) ∧ R (Itl K a) H1) ∨ ∃ a, x = .ref a ∧ (∃ xs, SqT K H1 a xs) ∧ R (Itt K a) H1
theorem pi_seqI {l : Expr} {tl : TE} (hl : PE X l tl) : PI X tg l (tSeqI X.K tl) := by
  refine ⟨fun pins s σ H R I h => thn (hl.run pins s σ H _ I h) fun v s1 ⟨x, H1, I1, r1, q1⟩ => ?_⟩
  have grow : ∀ {ob : Obj}, Inv X pins σ H1 { s1 with heap := s1.heap.push ob } := fun {ob} => I1.kept (t' := s1.toks) fun b o q => Heap.get?_push_of_some _ q
  have fp : ∀ b ∈ [s1.heap.objs.size], FpOk X pins H1 b := fun b hb => by
    have q : b = s1.heap.objs.size := by simpa using hb
    rw [q]
    exact I1.fpOk (Nat.le_refl _) (I1.hok.fresh (Nat.le_refl _))
  rcases q1 with ⟨a, ea, ⟨xs, hq⟩, q⟩ | ⟨a, ea, ⟨xs, hq⟩, q⟩
  · rw [ea] at r1
    obtain rfl : v = Value.ref a := r1
    obtain ⟨its, rv, pl, _⟩ := I1.list hq
    exact wpAny_pyIter_list pl.isList ⟨_, [s1.heap.objs.size], _, _, H1, rfl, grow, turn_list a _, ⟨_, Heap.get?_push_size _ rfl, rfl, rfl⟩, fp, q⟩
  · rw [ea] at r1
    obtain rfl : v = Value.ref a := r1
    obtain ⟨its, rv, pl, _⟩ := I1.tuple hq
    exact wpAny_pyIter_tuple (show s1.heap.IsTuple a its.toArray from pl) ⟨_, [s1.heap.objs.size], _, _, H1, rfl, grow, turn_tuple a _, ⟨_, Heap.get?_push_size _ rfl, rfl, rfl⟩, fp, q⟩
theorem di_seq (h : DE X W e w) : DI X W tg e (iSeq w) := pi_imp (pi_seqI h) fun σ H R ⟨g, env, Qd, Ed, e, es, hw, k, kx⟩ => by
  subst e
  refine LE.go (R := fun d => itemsD d Qd) es hw (fun v d g1 s1 a1 h1 => ?_) kx
  unfold itemsD at h1
  split at h1
  · obtain ⟨p, vs, rfl, hp, as⟩ := a1.tup_inv
    exact .inr ⟨p, rfl, ⟨vs, s1.ok.sub.sqT hp⟩, k _ _ g1 s1 (itok_tup hp as) h1⟩
  · obtain ⟨p, vs, rfl, hp, as⟩ := a1.lst_inv
    exact .inl ⟨p, rfl, ⟨vs, SqL.of (s1.ok.sub _ _ hp)⟩, k _ _ g1 s1 (itok_list hp as) h1⟩
  · exact h1.elim
def in62 (i : Int) : Prop := -(2 ^ 62) ≤ i ∧ i < 2 ^ 62
def rg1D (Q : List D → Prop) : List D → Prop
  | [.int j] => in62 j ∧ Q (rng 0 j)
  | _ => False
def rg2D (Q : List D → Prop) : List D → Prop
  | [.int i, .int j] => in62 i ∧ in62 j ∧ Q (rng i j)
  | _ => False
/-- downward by ones -/
def rngDown (lo hi : Int) : List D := (List.range (lo - hi).toNat).map fun k => D.int (lo + (k : Nat) * (-1))
def rg3D (Q : List D → Prop) : List D → Prop
  | [.int i, .int j, .int c] => c = -1 ∧ in62 i ∧ in62 j ∧ Q (rngDown i j)
  | _ => False
def iRg (f : (List D → Prop) → List D → Prop) (ws : WA) : WI := fun env Q E => ws env (fun os => f Q (O.ds os)) E
theorem di_range1r (hm : X.mg "range" = none) (ha : DA X W [a] ws) (hg : Gl X "range" := by rfl) (hs : starEach [a] X.env = [(false, eval a X.env)] := by rfl) : DIr X W tg (.Call (.Name "range" p) [a] [] pos) (iRg rg1D ws) := pi_imp (pi_range1 hg hm ha hs) fun σ H R ⟨g, env, Qd, Ed, e, es, hw, k, kx⟩ => by
  subst e
  refine LA.go (R := fun ds => rg1D Qd ds) es hw (fun vs ds g1 s1 as h1 => ?_) kx
  unfold rg1D at h1
  split at h1
  · obtain ⟨v, rfl, a1⟩ := as.one_inv
    rw [a1.int_inv]
    have it : ∀ j : Int, ∀ g1, ItOk X.K g1 (Itr 0 j.toNat) (rng 0 j) := fun j g1 => by
      have := itok_range (K := X.K) (g := g1) 0 j
      rwa [Int.sub_zero] at this
    exact ⟨_, rfl, h1.1.1, h1.1.2, k _ _ g1 s1 (it _) h1.2⟩
  · exact h1.elim
theorem di_range2r (hm : X.mg "range" = none) (ha : DA X W [a, b] ws) (hg : Gl X "range" := by rfl) (hs : starEach [a, b] X.env = [(false, eval a X.env), (false, eval b X.env)] := by rfl) (hs2 : starEach [b] X.env = [(false, eval b X.env)] := by rfl) : DIr X W tg (.Call (.Name "range" p) [a, b] [] pos) (iRg rg2D ws) := pi_imp (pi_range2 hg hm ha hs hs2) fun σ H R ⟨g, env, Qd, Ed, e, es, hw, k, kx⟩ => by
  subst e
  refine LA.go (R := fun ds => rg2D Qd ds) es hw (fun vs ds g1 s1 as h1 => ?_) kx
  unfold rg2D at h1
  split at h1
  · obtain ⟨v, w, rfl, a1, a2⟩ := as.two_inv
    rw [a1.int_inv, a2.int_inv]
    exact ⟨_, _, rfl, ⟨h1.1.1, h1.1.2, h1.2.1.1, h1.2.1.2⟩, k _ _ g1 s1 (fun _ => itok_range _ _) h1.2.2⟩
  · exact h1.elim
theorem itok_down {K : PySem.W.Frag} {g : Gh} (lo hi : Int) : ItOk K g (Itc lo (-1) (lo - hi).toNat) (rngDown lo hi) where
  go := fun g' s i d e => by
    have := (List.getElem?_eq_some_iff.mp e).1
    show i < (lo - hi).toNat
    simp only [rngDown, List.length_map, List.length_range] at this
    exact this
  yl := fun g' s i d x H' e y => by
    obtain ⟨rfl, rfl⟩ := y
    obtain ⟨h, rfl⟩ := List.getElem?_eq_some_iff.mp e
    refine ⟨g'.F, s.ok.refl, ?_⟩
    simp only [rngDown, List.getElem_map, List.getElem_range]
    exact .int _
  st := fun g' s i h => by
    show (lo - hi).toNat ≤ i
    simp only [rngDown, List.length_map, List.length_range] at h
    exact h
theorem Ats.three_inv {K : PySem.W.Frag} {Z : Zs} {F : Hp} {vs : List V} {d e f : D} (h : Ats K Z F vs [d, e, f]) : ∃ v w u, vs = [v, w, u] ∧ At K Z F v d ∧ At K Z F w e ∧ At K Z F u f := by
  cases h with
  | cons h t =>
    obtain ⟨w, u, rfl, h', h''⟩ := t.two_inv
    exact ⟨_, _, _, rfl, h, h', h''⟩
theorem di_range3r {c : Expr} (hm : X.mg "range" = none) (ha : DA X W [a, b, c] ws) (hg : Gl X "range" := by rfl) (hs : starEach [a, b, c] X.env = (false, eval a X.env) :: starEach [b, c] X.env := by rfl) (hpl : (backTo pos (starEach [b, c] X.env)).any (·.1) = false := by rfl) : DIr X W tg (.Call (.Name "range" p) [a, b, c] [] pos) (iRg rg3D ws) := pi_imp (pi_range3 hg hm ha hs hpl) fun σ H R ⟨g, env, Qd, Ed, e, es, hw, k, kx⟩ => by
  subst e
  refine LA.go (R := fun ds => rg3D Qd ds) es hw (fun vs ds g1 s1 as h1 => ?_) kx
  unfold rg3D at h1
  split at h1
  · obtain ⟨v, w, u, rfl, a1, a2, a3⟩ := as.three_inv
    obtain ⟨rfl, h2, h3, h4⟩ := h1
    rw [a1.int_inv, a2.int_inv, a3.int_inv]
    exact ⟨_, _, _, _, rfl, RgC.neg h2.1 h2.2 h3.1 h3.2, k _ _ g1 s1 (fun _ => itok_down _ _) h4⟩
  · exact h1.elim
theorem di_range1 (hm : X.mg "range" = none) (ha : DA X W [a] ws) (hg : Gl X "range" := by rfl) (hs : starEach [a] X.env = [(false, eval a X.env)] := by rfl) : DI X W tg (.Call (.Name "range" p) [a] [] pos) (iRg rg1D ws) := (di_range1r hm ha hg hs).di
theorem di_range2 (hm : X.mg "range" = none) (ha : DA X W [a, b] ws) (hg : Gl X "range" := by rfl) (hs : starEach [a, b] X.env = [(false, eval a X.env), (false, eval b X.env)] := by rfl) (hs2 : starEach [b] X.env = [(false, eval b X.env)] := by rfl) : DI X W tg (.Call (.Name "range" p) [a, b] [] pos) (iRg rg2D ws) := (di_range2r hm ha hg hs hs2).di
theorem di_range3 {c : Expr} (hm : X.mg "range" = none) (ha : DA X W [a, b, c] ws) (hg : Gl X "range" := by rfl) (hs : starEach [a, b, c] X.env = (false, eval a X.env) :: starEach [b, c] X.env := by rfl) (hpl : (backTo pos (starEach [b, c] X.env)).any (·.1) = false := by rfl) : DI X W tg (.Call (.Name "range" p) [a, b, c] [] pos) (iRg rg3D ws) := (di_range3r hm ha hg hs hpl).di
end

def wipeD {α : Type} (env : List (Option α)) : List Nat → List (Option α)
  | [] => env
  | v :: vs => (wipeD env vs).set v none
theorem wipeD_length {α : Type} (env : List (Option α)) : ∀ vs : List Nat, (wipeD env vs).length = env.length
  | [] => rfl
  | v :: vs => by simp [wipeD, wipeD_length env vs]
theorem wipeD_some {α : Type} {env : List (Option α)} {i : Nat} {x : α} : ∀ {vs : List Nat}, (wipeD env vs)[i]? = some (some x) → env[i]? = some (some x) ∧ i ∉ vs
  | [], h => ⟨h, by simp⟩
  | v :: vs, h => by
    unfold wipeD at h
    rcases List.set_get h with ⟨_, q⟩ | ⟨n, q⟩
    · cases q
    · obtain ⟨h1, h2⟩ := wipeD_some q
      exact ⟨h1, by simp only [List.mem_cons, not_or]; exact ⟨fun e => n e.symm, h2⟩⟩
theorem wipe_get {σ : L2.St} {i : Nat} : ∀ {vs : List Nat}, i ∉ vs → (wipe σ vs)[i]? = σ[i]?
  | [], _ => rfl
  | v :: vs, h => by
    simp only [List.mem_cons, not_or] at h
    unfold wipe
    rw [List.getElem?_set_ne (fun e => h.1 e.symm), wipe_get h.2]
theorem wipe_in {σ : L2.St} {i : Nat} : ∀ {vs : List Nat}, i ∈ vs → i < σ.length → (wipe σ vs)[i]? = some none
  | [], h, _ => by simp at h
  | v :: vs, h, l => by
    unfold wipe
    by_cases e : v = i
    · subst e
      rw [List.getElem?_set_self (by rw [wipe_length]; exact l)]
    · rw [List.getElem?_set_ne e]
      rcases List.mem_cons.mp h with q | q
      · exact absurd q.symm e
      · exact wipe_in q l
theorem ES.wipe {K : PySem.W.Frag} {g : Gh} {env : DEnv} {σ : L2.St} (h : ES K g env σ) (vs : List Nat) : ES K g (wipeD env vs) (L2.wipe σ vs) :=
  ⟨h.ok, by rw [wipeD_length, wipe_length, h.len], fun i d e => by
    obtain ⟨h1, h2⟩ := wipeD_some e
    obtain ⟨v, q, a⟩ := h.slot i d h1
    exact ⟨v, by rw [wipe_get h2]; exact q, a⟩⟩
theorem wipe_chg {σ τ : L2.St} {is vs : List Nat} (c : Chg is (wipe σ vs) τ) (h : ∀ i ∈ is, i ∈ vs) : wipe τ vs = wipe σ vs := by
  apply List.ext_getElem?
  intro i
  have hl : τ.length = σ.length := by rw [c.len, wipe_length]
  by_cases m : i ∈ vs
  · by_cases l : i < σ.length
    · rw [wipe_in m (by rw [hl]; exact l), wipe_in m l]
    · rw [List.getElem?_eq_none (by rw [wipe_length, hl]; omega), List.getElem?_eq_none (by rw [wipe_length]; omega)]
  · rw [wipe_get m, c.out i fun q => m (h i q)]
abbrev WF : WX := fun _ _ _ _ => False
abbrev NoX : EX := fun _ => False
def lcD (p : Pat) (wt : WT) (we : WE) (env : DEnv) : List D → List O → (List O → Prop) → Prop
  | [], acc, Q => Q acc
  | d :: ds, acc, Q => ∃ env', p.bind id d env = some env' ∧ wt env' (fun b => if b = true then we env' (fun o => acc.length < sizeLine ∧ lcD p wt we env ds (acc ++ [o]) Q) NoX else lcD p wt we env ds acc Q) NoX
def eLc (wi : WI) (p : Pat) (wt : WT) (we : WE) (vs : List Nat) : WE := fun env Q E => wi env (fun ds => lcD p wt we (wipeD env vs) ds [] (fun os => Q (.lst os))) E
theorem le_lc {X : Cx} {W : WX} {wi : WI} {p : Pat} {wt : WT} {we : WE} {vs : List Nat} (hp : ∀ i ∈ p.slots, i ∈ vs) (σ : L2.St) (H : Hp) (Q : VK) (h : LE X W (eLc wi p wt we vs) σ H Q) : tLc (LI X W wi) (tgP X.K p) (LT X WF wt) (LE X WF we) vs σ H Q := by
  obtain ⟨g, env, Qd, Ed, e, es, hw, k, kx⟩ := h
  subst e
  refine ⟨g, env, _, Ed, rfl, es, hw, fun ds J g1 s1 it hq D nD => ?_, kx⟩
  have kx0 : ∀ (σ : L2.St) (g : Gh), XL X WF σ g NoX := fun _ _ _ _ _ _ _ _ z => z.elim
  refine ⟨fun i m H => m = ds.length - i ∧ i ≤ ds.length ∧ ∃ (g' : Gh) (acc : List O) (us : List V) (cs : List Addr), g'.H = H ∧ Step g1 g' ∧ H D = some (.lst us) ∧ g'.F D = none ∧ ¬ inZ g'.Z D ∧ ROs X.K g'.Z g'.F g'.H us acc cs ∧ cs.Nodup ∧ D ∉ cs ∧
    (∀ c ∈ cs, g'.F c = none ∧ g1.H c = none ∧ ¬ inZ g'.Z c) ∧ lcD p wt we (wipeD env vs) (ds.drop i) acc fun os => Qd (.lst os),
    ⟨ds.length, by simp, Nat.zero_le _, ⟨g1.Z, g1.F, upd g1.H D (.lst [])⟩, [], [], [], rfl, Step.laid s1.ok nD, upd_same, s1.ok.noF nD, s1.ok.noZ nD, .nil, .nil, by simp, fun c hc => by simp at hc, hq⟩, ?_⟩
  rintro i m H ⟨rfl, hi, g', acc, us, cs, rfl, s', hD, fD, zD, ro, nd, Dn, hc, hl⟩
  by_cases hlt : i < ds.length
  · have ed : ds[i]? = some ds[i] := by simp [hlt]
    rw [List.drop_eq_getElem_cons hlt] at hl
    obtain ⟨env', hb, ht⟩ := hl
    refine .inr ⟨it.go g' s'.grow i _ ed, fun H' => ∃ (g'' : Gh) (acc : List O) (us : List V) (cs : List Addr), g''.H = H' ∧ Step g1 g'' ∧ H' D = some (.lst us) ∧ g''.F D = none ∧ ¬ inZ g''.Z D ∧ ROs X.K g''.Z g''.F g''.H us acc cs ∧ cs.Nodup ∧ D ∉ cs ∧
      (∀ c ∈ cs, g''.F c = none ∧ g1.H c = none ∧ ¬ inZ g''.Z c) ∧ lcD p wt we (wipeD env vs) (ds.drop (i + 1)) acc fun os => Qd (.lst os), fun H' hN => ⟨ds.length - (i + 1), by omega, rfl, hlt, hN⟩, fun x H' hy => ?_⟩
    obtain ⟨F2, s2, a2⟩ := it.yl g' s'.grow i _ x H' ed hy
    have es2 : ES X.K ⟨g'.Z, F2, H'⟩ env σ := ((es.step s1).step s').step s2
    refine tgP_es p (g := ⟨g'.Z, F2, H'⟩) (es2.wipe vs) a2 hb fun σ' es3 ch => ⟨wipe_chg ch hp, ?_⟩
    refine LT.go (g := ⟨g'.Z, F2, H'⟩) es3 ht (fun b g3 s3 h3 => ?_) (kx0 _ _)
    -- what stands through steps
    have on : ∀ {h : Gh}, Step g' h → h.H D = some (.lst us) ∧ h.F D = none ∧ ¬ inZ h.Z D ∧ ROs X.K h.Z h.F h.H us acc cs ∧ ∀ c ∈ cs, h.F c = none ∧ g1.H c = none ∧ ¬ inZ h.Z c := fun {h} t => by
      refine ⟨t.keep D _ hD zD, t.apart fD hD, fun z => ?_, ro.mono t.up t.zs fun c m u e => t.keep c u e (hc c m).2.2, fun c m => ?_⟩
      · rcases t.zn D z with q | q
        · exact zD q
        · rw [hD] at q; cases q
      · obtain ⟨u, hu, _⟩ := ro.there c m
        refine ⟨t.apart (hc c m).1 hu, (hc c m).2.1, fun z => ?_⟩
        rcases t.zn c z with q | q
        · exact (hc c m).2.2 q
        · rw [hu] at q; cases q
    have s23 := s2.trans s3
    cases b with
    | false =>
      rw [if_neg (by decide)] at h3 ⊢
      obtain ⟨q1, q2, q3, q4, q5⟩ := on s23
      exact ⟨g3, acc, us, cs, rfl, s'.trans s23, q1, q2, q3, q4, nd, Dn, q5, h3⟩
    | true =>
      rw [if_pos rfl] at h3 ⊢
      refine LE.goO (es3.step s3) h3 (fun y o g4 s4 r4 h4 => ?_) (kx0 _ _)
      have s24 := s23.trans s4
      obtain ⟨q1, q2, q3, q4, q5⟩ := on s24
      obtain ⟨p1, p2, p3, p4, p5⟩ := on s23
      obtain ⟨cs', r', nd', hc'⟩ := r4
      have Dn' : D ∉ cs' := fun m => by
        have := (hc' D m).2.1
        rw [p1] at this; cases this
      refine ⟨us, q1, by rw [ro.length]; exact h4.1, ⟨g4.Z, g4.F, upd g4.H D (.lst (us ++ [y]))⟩, acc ++ [o], us ++ [y], cs ++ cs', rfl, (s'.trans s24).own nD q2 q3, upd_same, q2, q3, ?_, ?_, ?_, ?_, h4.2⟩
      · have ro2 := q4.append (ROs.cons r' (ROs.nil (K := X.K) (Z := g4.Z) (F := g4.F) (H := g4.H)))
        rw [List.append_nil] at ro2
        refine ROs.mono (Sub.refl _) (fun _ z => z) ro2 fun c m u e => ?_
        show upd g4.H D _ c = some u
        rw [upd_ne fun z => ?_]
        · exact e
        · subst z
          rcases List.mem_append.mp m with m | m
          · exact Dn m
          · exact Dn' m
      · refine List.nodup_append.mpr ⟨nd, nd', fun c1 m1 c2 m2 z => ?_⟩
        subst z
        obtain ⟨u, hu, _⟩ := p4.there c1 m1
        have := (hc' c1 m2).2.1
        rw [hu] at this; cases this
      · intro m
        rcases List.mem_append.mp m with m | m
        · exact Dn m
        · exact Dn' m
      · intro c m
        rcases List.mem_append.mp m with m | m
        · exact q5 c m
        · exact ⟨(hc' c m).1, (s'.trans s23).none_ (hc' c m).2.1, (hc' c m).2.2⟩
  · have e : i = ds.length := by omega
    subst e
    rw [List.drop_length] at hl
    refine .inl ⟨it.st g' s'.grow _ (Nat.le_refl _), k _ _ g' (s1.trans s') ⟨D :: cs, .lst hD ro, List.nodup_cons.mpr ⟨Dn, nd⟩, fun c m => ?_⟩ hl⟩
    rcases List.mem_cons.mp m with rfl | m
    · exact ⟨fD, s1.none_ nD, zD⟩
    · exact ⟨(hc c m).1, s1.none_ (hc c m).2.1, (hc c m).2.2⟩
section
variable {X : Cx} {W : WX} {wi : WI} {p : Pat} {wt : WT} {we : WE} {elt tg iter : Expr} {ifs : List Expr} {scope : Scope} {own : List (Str × Nat)} {pos : Pos}
abbrev DTs (X : Cx) (W : WX) (ifs : List Expr) (w : WT) : Prop := PTs X ifs (LT X W w)
def wYes : WT := fun _ Q _ => Q true
theorem dts_nil : DTs X W [] wYes := ⟨fun pins s σ H Q I hw => by
  obtain ⟨g, env, Qd, Ed, e, es, h, k, kx⟩ := hw
  subst e
  exact wpAny_tests_nil ⟨g.H, I, k _ g es.ok.refl h⟩⟩
theorem dts_one {c : Expr} (h : DT X W c wt) : DTs X W [c] wt := pts_one h
theorem de_lc (hc : X.calm = true) (hN : X.N.Nodup) (hi : DI X W tg iter wi) (ok : BlkOk X.N X.env.scope scope own)
    (hg : ∀ (s : Shared) (H : Hp) (C : Addr) (cl : List (Str × Addr)) (fp : List Addr), DG (X.blk s H scope (compEnvC scope cl C X.env) fp) tg p) (ht : ∀ (s : Shared) (H : Hp) (C : Addr) (cl : List (Str × Addr)) (fp : List Addr), DTs (X.blk s H scope (compEnvC scope cl C X.env) fp) WF ifs wt)
    (he : ∀ (s : Shared) (H : Hp) (C : Addr) (cl : List (Str × Addr)) (fp : List Addr), DE (X.blk s H scope (compEnvC scope cl C X.env) fp) WF elt we) (hp : (p.slots.all fun i => (own.map (·.2)).contains i) = true := by rfl) (hs : ∀ x, foldedSetIterable iter X.env x = pure x := by intro _; rfl) :
    DE X W (.ListComp elt [⟨tg, iter, ifs, 0⟩] scope pos) (eLc wi p wt we (own.map (·.2))) :=
  pe_imp (pe_lc hc hN hi ok hg ht he hs) (le_lc fun i m => by simpa using List.all_eq_true.mp hp i m)
end
end DL
/-! DStm -/
namespace DL
open PySem PySem.Spec PyProof.Rows L2

abbrev SEnv := List (Option O)
/-- the slots, all seen as values -/
def view (env : SEnv) : DEnv := env.map (Option.map O.d)
/-- the slots that hold values alone -/
def vview (env : SEnv) : DEnv := env.map fun o => o.bind fun o => match o with
  | .val d => some d
  | _ => none
theorem view_length (env : SEnv) : (view env).length = env.length := by simp [view]
theorem vview_length (env : SEnv) : (vview env).length = env.length := by simp [vview]
theorem view_get {env : SEnv} {i : Nat} {d : D} (h : (view env)[i]? = some (some d)) : ∃ o, env[i]? = some (some o) ∧ d = o.d := by
  unfold view at h
  rw [List.getElem?_map] at h
  cases e : env[i]? with
  | none => rw [e] at h; cases h
  | some x =>
    rw [e] at h
    cases x with
    | none => simp at h
    | some o => simp at h; exact ⟨o, rfl, h.symm⟩
theorem vview_get {env : SEnv} {i : Nat} {d : D} (h : (vview env)[i]? = some (some d)) : env[i]? = some (some (.val d)) := by
  unfold vview at h
  rw [List.getElem?_map] at h
  cases e : env[i]? with
  | none => rw [e] at h; cases h
  | some x =>
    rw [e] at h
    cases x with
    | none => simp at h
    | some o => cases o <;> simp at h; rw [h]
theorem RO.val_inv {K : PySem.W.Frag} {Z : Zs} {F H : Hp} {v : V} {d : D} {cs : List Addr} (h : RO K Z F H v (.val d) cs) : At K Z F v d := by
  cases h with
  | val a => exact a
/-- the slots and some values in hand; who holds which cells -/
structure SS' (K : PySem.W.Frag) (g0 g : Gh) (env : SEnv) (σ : L2.St) (vs : List V) (os : List O) (cs : Option Nat → List Addr) : Prop where
  st : Step g0 g
  len : env.length = σ.length
  slot : ∀ (i : Nat) (o : O), env[i]? = some (some o) → ∃ v, σ[i]? = some (some v) ∧ RO K g.Z g.F g.H v o (cs (some i))
  tmp : ROs K g.Z g.F g.H vs os (cs none)
  fr : ∀ j, ∀ c ∈ cs j, g.F c = none ∧ g0.H c = none ∧ ¬ inZ g.Z c ∧ ∃ u, g.H c = some u ∧ isCellO u = true
  nd : ∀ j, (cs j).Nodup
  dj : ∀ j j' c, c ∈ cs j → c ∈ cs j' → j = j'
def SS (K : PySem.W.Frag) (g0 g : Gh) (env : SEnv) (σ : L2.St) (vs : List V) (os : List O) : Prop := ∃ cs, SS' K g0 g env σ vs os cs
def cells (cs : Option Nat → List Addr) : Addr → Prop := fun c => ∃ j, c ∈ cs j
section
variable {K : PySem.W.Frag} {g0 g g1 : Gh} {env : SEnv} {σ : L2.St} {vs : List V} {os : List O} {cs : Option Nat → List Addr}
theorem SS'.fz (h : SS' K g0 g env σ vs os cs) : ∀ c, cells cs c → g.F c = none := fun c ⟨j, m⟩ => (h.fr j c m).1
theorem SS'.nz (h : SS' K g0 g env σ vs os cs) : ∀ c, cells cs c → ¬ inZ g.Z c := fun c ⟨j, m⟩ => (h.fr j c m).2.2.1
/-- all seen as frozen -/
theorem SS'.es (h : SS' K g0 g env σ vs os cs) : ES K ⟨g.Z, thaw g.F g.H (cells cs), g.H⟩ (view env) σ :=
  ⟨h.st.ok.thaw h.nz, by rw [view_length, h.len], fun i d e => by
    obtain ⟨o, e', rfl⟩ := view_get e
    obtain ⟨v, q, r⟩ := h.slot i o e'
    exact ⟨v, q, r.at_ (thaw_up h.fz) fun c m => thaw_in ⟨_, m⟩⟩⟩
/-- values alone -/
theorem SS'.esv (h : SS' K g0 g env σ vs os cs) : ES K g (vview env) σ :=
  ⟨h.st.ok, by rw [vview_length, h.len], fun i d e => by
    obtain ⟨v, q, r⟩ := h.slot i _ (vview_get e)
    exact ⟨v, q, r.val_inv⟩⟩
/-- the same behind a step -/
theorem SS'.step (h : SS' K g0 g env σ vs os cs) (s : Step g g1) : SS' K g0 g1 env σ vs os cs where
  st := h.st.trans s
  len := h.len
  slot := fun i o e => by
    obtain ⟨v, q, r⟩ := h.slot i o e
    exact ⟨v, q, r.mono s.up s.zs fun c m u e => s.keep c u e (h.fr _ c m).2.2.1⟩
  tmp := h.tmp.mono s.up s.zs fun c m u e => s.keep c u e (h.fr _ c m).2.2.1
  fr := fun j c m => by
    obtain ⟨h1, h2, h3, u, h4, h5⟩ := h.fr j c m
    refine ⟨s.apart h1 h4, h2, fun z => ?_, u, s.keep c u h4 h3, h5⟩
    rcases s.zn c z with q | q
    · exact h3 q
    · rw [h4] at q; cases q
  nd := h.nd
  dj := h.dj
open Classical in
/-- the cells taken out of what is frozen -/
noncomputable def untw (F : Hp) (cs : Addr → Prop) : Hp := fun a => if cs a then none else F a
theorem untw_in {F : Hp} {cs : Addr → Prop} {a : Addr} (h : cs a) : untw F cs a = none := if_pos h
theorem untw_out {F : Hp} {cs : Addr → Prop} {a : Addr} (h : ¬ cs a) : untw F cs a = F a := if_neg h
/-- behind a step from the frozen view the cells are own again -/
theorem SS'.back (h : SS' K g0 g env σ vs os cs) (s : Step ⟨g.Z, thaw g.F g.H (cells cs), g.H⟩ g1) : Step g ⟨g1.Z, untw g1.F (cells cs), g1.H⟩ := by
  have sub : Sub (untw g1.F (cells cs)) g1.F := fun a u e => by
    by_cases m : cells cs a
    · rw [untw_in m] at e; cases e
    · rw [untw_out m] at e; exact e
  refine ⟨⟨sub.trans s.ok.sub, s.ok.src, fun a z => ?_⟩, fun a u e => ?_, fun a n m => ?_, s.keep, s.zs, s.zn⟩
  · show untw g1.F (cells cs) a = none
    by_cases m : cells cs a
    · exact untw_in m
    · rw [untw_out m]; exact s.ok.nz a z
  · show untw g1.F (cells cs) a = some u
    rw [untw_out fun m => by rw [h.fz a m] at e; cases e]
    exact s.up a u (thaw_up h.fz a u e)
  · have m : untw g1.F (cells cs) a ≠ none := m
    by_cases c : cells cs a
    · exact absurd (untw_in c) m
    · rw [untw_out c] at m
      refine s.new a ?_ m
      show thaw g.F g.H (cells cs) a = none
      rw [thaw_out c]
      exact n
theorem SS'.tups (h : SS' K g0 g env σ vs os cs) (s : Step ⟨g.Z, thaw g.F g.H (cells cs), g.H⟩ g1) : ∀ a u, g1.F a = some u → isTupO u = true → untw g1.F (cells cs) a = some u := fun a u e t => by
  have no : ¬ cells cs a := fun ⟨j, m⟩ => by
    obtain ⟨_, _, nz, w, hw, hc⟩ := h.fr j a m
    have h1 := s.keep a w hw nz
    have h2 := s.ok.sub a u e
    rw [h1] at h2
    cases h2
    rw [isTup_cell hc] at t
    cases t
  rw [untw_out no]
  exact e
/-- a value in hand more -/
theorem SS'.push (h : SS' K g0 g env σ vs os cs) {v : V} {o : O} {ds : List Addr} (r : RO K g.Z g.F g.H v o ds) (nd : ds.Nodup) (fr : ∀ c ∈ ds, g.F c = none ∧ g0.H c = none ∧ ¬ inZ g.Z c) (ap : ∀ j, ∀ c ∈ ds, c ∉ cs j) :
    SS' K g0 g env σ (v :: vs) (o :: os) (fun j => match j with | none => ds ++ cs none | some i => cs (some i)) where
  st := h.st
  len := h.len
  slot := h.slot
  tmp := .cons r h.tmp
  fr := fun j c m => by
    cases j with
    | some i => exact h.fr _ c m
    | none =>
      rcases List.mem_append.mp m with m | m
      · obtain ⟨h1, h2, h3⟩ := fr c m
        exact ⟨h1, h2, h3, r.there c m⟩
      · exact h.fr _ c m
  nd := fun j => by
    cases j with
    | some i => exact h.nd _
    | none => exact List.nodup_append.mpr ⟨nd, h.nd _, fun a m b m' e => ap none a m (by rw [e]; exact m')⟩
  dj := fun j j' c m m' => by
    cases j with
    | none =>
      cases j' with
      | none => rfl
      | some i' =>
        rcases List.mem_append.mp m with m | m
        · exact absurd m' (ap _ c m)
        · exact h.dj _ _ c m m'
    | some i =>
      cases j' with
      | none =>
        rcases List.mem_append.mp m' with m' | m'
        · exact absurd m (ap _ c m')
        · exact h.dj _ _ c m m'
      | some i' => exact h.dj _ _ c m m'
/-- a result comes to hand -/
theorem SS'.res (h : SS' K g0 g env σ vs os cs) {v : V} {o : O} (s : Step g g1) (r : RR K g g1 v o) : SS K g0 g1 env σ (v :: vs) (o :: os) := by
  obtain ⟨ds, r, nd, hc⟩ := r
  exact ⟨_, (h.step s).push r nd (fun c m => ⟨(hc c m).1, h.st.none_ (hc c m).2.1, (hc c m).2.2⟩) fun j c m m' => by
    obtain ⟨_, _, _, u, hu, _⟩ := h.fr j c m'
    rw [(hc c m).2.1] at hu; cases hu⟩
theorem SS'.resC (h : SS' K g0 g env σ vs os cs) {v : V} {o : O} (s : Step ⟨g.Z, thaw g.F g.H (cells cs), g.H⟩ g1) (r : RR K ⟨g.Z, thaw g.F g.H (cells cs), g.H⟩ g1 v o) (cl : o.clean = true) :
    SS K g0 ⟨g1.Z, untw g1.F (cells cs), g1.H⟩ env σ (v :: vs) (o :: os) := by
  refine h.res (h.back s) ?_
  obtain ⟨ds, r, nd, hc⟩ := r
  refine ⟨ds, RO.strip (h.tups s) r cl, nd, fun c m => ⟨?_, (hc c m).2.1, (hc c m).2.2⟩⟩
  show untw g1.F (cells cs) c = none
  by_cases q : cells cs c
  · exact untw_in q
  · rw [untw_out q]; exact (hc c m).1
end

abbrev SEX := Ex → SEnv → Prop
def Ex.clean (x : Ex) : Bool := noLsts (x.fs.map (·.2))
structure DEnds where
  nx : SEnv → Prop
  rt : O → Prop
  bk : SEnv → Prop := fun _ => False
  ct : SEnv → Prop := fun _ => False
abbrev WS := SEnv → DEnds → SEX → Prop
/-- what the ends of data are for the layer -/
structure Lk (mg : Str → Option Value) (K : PySem.W.Frag) (W : WX) (g0 : Gh) (De : DEnds) (Ee : SEX) (D : Ends) : Prop where
  nx : ∀ g env σ, SS K g0 g env σ [] [] → De.nx env → D.nx σ g.H
  bk : ∀ g env σ, SS K g0 g env σ [] [] → De.bk env → D.bk σ g.H
  ct : ∀ g env σ, SS K g0 g env σ [] [] → De.ct env → D.ct σ g.H
  rt : ∀ g v o, Step g0 g → RR K g0 g v o → De.rt o → D.rt v g.H
  ex : ∀ g env σ x cls dd, SS K g0 g env σ [] [] → XR mg K g cls dd x → Ee x env → W cls dd σ g.H
def LS (X : Cx) (W : WX) (w : WS) : TS := fun D σ H => ∃ (g0 g : Gh) (env : SEnv) (De : DEnds) (Ee : SEX), g.H = H ∧ SS X.K g0 g env σ [] [] ∧ w env De Ee ∧ Lk X.mg X.K W g0 De Ee D
abbrev DS (X : Cx) (W : WX) (st : Stmt) (w : WS) : Prop := PS X st (LS X W w)
abbrev DSs (X : Cx) (W : WX) (st : List Stmt) (w : WS) : Prop := PSs X st (LS X W w)
theorem ps_imp {X : Cx} {st : Stmt} {t t' : TS} (h : PS X st t) (i : ∀ D σ H, t' D σ H → t D σ H) : PS X st t' := ⟨fun pins s σ H D I q => h.run pins s σ H D I (i D σ H q)⟩
theorem pss_imp {X : Cx} {st : List Stmt} {t t' : TS} (h : PSs X st t) (i : ∀ D σ H, t' D σ H → t D σ H) : PSs X st t' := ⟨fun pins s σ H D I q => h.run pins s σ H D I (i D σ H q)⟩
/-- an expression at a statement's place: its result holds nothing of the own lists -/
def evC (w : WE) (env : SEnv) (Q : O → Prop) (E : SEX) : Prop := w (view env) (fun o => o.clean = true ∧ Q o) (fun x => x.clean = true ∧ E x env)
/-- .. that reads no own list -/
def evS (w : WE) (env : SEnv) (Q : O → Prop) (E : SEX) : Prop := w (vview env) Q (fun x => E x env)
def evT (t : WT) (env : SEnv) (Q : Bool → Prop) (E : SEX) : Prop := t (view env) Q (fun x => x.clean = true ∧ E x env)
section
variable {X : Cx} {W : WX} {g0 g : Gh} {env : SEnv} {σ : L2.St} {vs : List V} {os : List O} {w : WE} {Qd : O → Prop} {Ee : SEX} {Q : VK}
theorem XR.back {mg : Str → Option Value} {K : PySem.W.Frag} {g1 : Gh} {cs : Option Nat → List Addr} (h : SS' K g0 g env σ vs os cs) (s : Step ⟨g.Z, thaw g.F g.H (cells cs), g.H⟩ g1) {cls : Value} {dd : Option Addr} {x : Ex} (r : XR mg K g1 cls dd x) (cl : x.clean = true) :
    XR mg K ⟨g1.Z, untw g1.F (cells cs), g1.H⟩ cls dd x := by
  obtain ⟨C, h1, h2, h3⟩ := r
  refine ⟨C, h1, h2, ?_⟩
  rcases h3 with h3 | ⟨d, us, e1, e2, a⟩
  · exact .inl h3
  · refine .inr ⟨d, us, e1, ?_, Ats.strip (h.tups s) a cl⟩
    have no : ¬ cells cs d := fun ⟨j, m⟩ => by
      obtain ⟨_, _, nz, u, hu, hc⟩ := h.fr j d m
      have q1 := s.keep d u hu nz
      have q2 := s.ok.sub _ _ e2
      rw [q1] at q2
      cases q2
      cases hc
    show untw g1.F (cells cs) d = _
    rw [untw_out no]
    exact e2
/-- nothing in hand is needed for the exceptions' link -/
abbrev EL (X : Cx) (W : WX) (g0 : Gh) (Ee : SEX) : Prop := ∀ g env σ x cls dd, SS X.K g0 g env σ [] [] → XR X.mg X.K g cls dd x → Ee x env → W cls dd σ g.H
theorem SS.drop (h : SS X.K g0 g env σ vs os) : SS X.K g0 g env σ [] [] := by
  obtain ⟨cs, h⟩ := h
  refine ⟨fun j => match j with | none => [] | some i => cs (some i), h.st, h.len, h.slot, .nil, fun j c m => ?_, fun j => ?_, fun j j' c m m' => ?_⟩
  · cases j with
    | none => simp at m
    | some i => exact h.fr _ c m
  · cases j with
    | none => simp
    | some i => exact h.nd _
  · cases j with
    | none => simp at m
    | some i =>
      cases j' with
      | none => simp at m'
      | some i' => exact h.dj _ _ c m m'
theorem SS.goC (h : SS X.K g0 g env σ vs os) (hw : evC w env Qd Ee) (k : ∀ v o g1, SS X.K g0 g1 env σ (v :: vs) (o :: os) → Qd o → Q v g1.H) (kx : EL X W g0 Ee) : LE X W w σ g.H Q := by
  obtain ⟨cs, h⟩ := h
  refine LE.goO (g := ⟨g.Z, thaw g.F g.H (cells cs), g.H⟩) h.es hw (fun v o g1 s r q => ?_) fun x cls dd g1 s r q => ?_
  · exact k v o ⟨g1.Z, untw g1.F (cells cs), g1.H⟩ (h.resC s r q.1) q.2
  · exact kx ⟨g1.Z, untw g1.F (cells cs), g1.H⟩ env σ x cls dd (SS.drop (X := X) ⟨cs, h.step (h.back s)⟩) (r.back h s q.1) q.2
theorem SS.goS (h : SS X.K g0 g env σ vs os) (hw : evS w env Qd Ee) (k : ∀ v o g1, SS X.K g0 g1 env σ (v :: vs) (o :: os) → Qd o → Q v g1.H) (kx : EL X W g0 Ee) : LE X W w σ g.H Q := by
  obtain ⟨cs, h⟩ := h
  refine LE.goO h.esv hw (fun v o g1 s r q => k v o g1 (h.res s r) q) fun x cls dd g1 s r q => kx g1 env σ x cls dd (SS.drop (X := X) ⟨cs, h.step s⟩) r q
theorem SS.goT {t : WT} {Qb : Bool → Prop} {Q : Bool → Hp → Prop} (h : SS X.K g0 g env σ vs os) (hw : evT t env Qb Ee) (k : ∀ b g1, SS X.K g0 g1 env σ vs os → Qb b → Q b g1.H) (kx : EL X W g0 Ee) : LT X W t σ g.H Q := by
  obtain ⟨cs, h⟩ := h
  refine LT.go (g := ⟨g.Z, thaw g.F g.H (cells cs), g.H⟩) h.es hw (fun b g1 s q => ?_) fun x cls dd g1 s r q => ?_
  · exact k b ⟨g1.Z, untw g1.F (cells cs), g1.H⟩ ⟨cs, h.step (h.back s)⟩ q
  · exact kx ⟨g1.Z, untw g1.F (cells cs), g1.H⟩ env σ x cls dd (SS.drop (X := X) ⟨cs, h.step (h.back s)⟩) (r.back h s q.1) q.2

theorem SS.set {K : PySem.W.Frag} {v : V} {o : O} {i : Nat} (h : SS K g0 g env σ (v :: vs) (o :: os)) (hi : i < env.length) : SS K g0 g (env.set i (some o)) (σ.set i (some v)) vs os := by
  obtain ⟨cs, h⟩ := h
  have ht := h.tmp
  generalize hcn : cs none = cn at ht
  cases ht with
  | cons r t =>
    rename_i c1 c2
    have nd0 := h.nd none
    rw [hcn] at nd0
    obtain ⟨n1, n2, n3⟩ := List.nodup_append.mp nd0
    have inn : ∀ c, c ∈ c1 → c ∈ cs none := fun c m => by rw [hcn]; simp [m]
    have inn2 : ∀ c, c ∈ c2 → c ∈ cs none := fun c m => by rw [hcn]; simp [m]
    refine ⟨fun j => match j with | none => c2 | some l => if l = i then c1 else cs (some l), h.st, by simp [h.len], fun l p e => ?_, t, fun j c m => ?_, fun j => ?_, fun j j' c m m' => ?_⟩
    · rcases List.set_get e with ⟨el, q⟩ | ⟨n, q⟩
      · subst el
        obtain rfl : o = p := Option.some.inj q
        refine ⟨v, List.getElem?_set_self (by rw [← h.len]; exact hi), ?_⟩
        simp only [if_pos]
        exact r
      · obtain ⟨u, q1, q2⟩ := h.slot l p q
        refine ⟨u, by rw [List.getElem?_set_ne n]; exact q1, ?_⟩
        simp only [if_neg (Ne.symm n)]
        exact q2
    · cases j with
      | none => exact h.fr _ c (inn2 c m)
      | some l =>
        by_cases q : l = i
        · simp only [if_pos q] at m
          exact h.fr _ c (inn c m)
        · simp only [if_neg q] at m
          exact h.fr _ c m
    · cases j with
      | none => exact n2
      | some l =>
        by_cases q : l = i
        · simp only [if_pos q]; exact n1
        · simp only [if_neg q]; exact h.nd _
    · cases j with
      | none =>
        cases j' with
        | none => rfl
        | some l =>
          by_cases q : l = i
          · simp only [if_pos q] at m'
            exact absurd rfl (n3 c m' c m)
          · simp only [if_neg q] at m'
            exact absurd (h.dj _ _ c (inn2 c m) m') (by simp)
      | some l =>
        by_cases q : l = i
        · simp only [if_pos q] at m
          cases j' with
          | none => exact absurd rfl (n3 c m c m')
          | some l' =>
            by_cases q' : l' = i
            · rw [q, q']
            · simp only [if_neg q'] at m'
              exact absurd (h.dj _ _ c (inn c m) m') (by simp)
        · simp only [if_neg q] at m
          cases j' with
          | none => exact absurd (h.dj _ _ c m (inn2 c m')) (by simp)
          | some l' =>
            by_cases q' : l' = i
            · simp only [if_pos q'] at m'
              exact absurd (h.dj _ _ c m (inn c m')) (by simp)
            · simp only [if_neg q'] at m'
              exact h.dj _ _ c m m'
/-- the first in hand leaves with all else frozen or forgotten: a def's result -/
theorem SS.rt {K : PySem.W.Frag} {v : V} {o : O} (h : SS K g0 g env σ (v :: vs) (o :: os)) : Step g0 g ∧ RR K g0 g v o := by
  obtain ⟨cs, h⟩ := h
  have ht := h.tmp
  generalize hcn : cs none = cn at ht
  cases ht with
  | cons r t =>
    rename_i c1 c2
    have nd0 := h.nd none
    rw [hcn] at nd0
    exact ⟨h.st, c1, r, (List.nodup_append.mp nd0).1, fun c m => let ⟨a, b, c', _⟩ := h.fr none c (by rw [hcn]; simp [m]); ⟨a, b, c'⟩⟩
/-- a slot's value comes to hand, the slot is forgotten -/
theorem SS.take {K : PySem.W.Frag} {o : O} {i : Nat} (h : SS K g0 g env σ [] []) (e : env[i]? = some (some o)) : ∃ v, σ[i]? = some (some v) ∧ SS K g0 g (env.set i none) σ [v] [o] := by
  obtain ⟨cs, h⟩ := h
  obtain ⟨v, hv, r⟩ := h.slot i o e
  refine ⟨v, hv, fun j => match j with | none => cs (some i) | some l => if l = i then [] else cs (some l), h.st, by simp [h.len], fun l p q => ?_, ?_, fun j c m => ?_, fun j => ?_, fun j j' c m m' => ?_⟩
  · rcases List.set_get q with ⟨_, q⟩ | ⟨n, q⟩
    · cases q
    · obtain ⟨u, q1, q2⟩ := h.slot l p q
      refine ⟨u, q1, ?_⟩
      simp only [if_neg (Ne.symm n)]
      exact q2
  · have := ROs.cons r (ROs.nil (K := K) (Z := g.Z) (F := g.F) (H := g.H))
    rwa [List.append_nil] at this
  · cases j with
    | none => exact h.fr _ c m
    | some l =>
      by_cases q : l = i
      · simp [q] at m
      · simp only [if_neg q] at m
        exact h.fr _ c m
  · cases j with
    | none => exact h.nd _
    | some l =>
      by_cases q : l = i
      · simp [q]
      · simp only [if_neg q]; exact h.nd _
  · cases j with
    | none =>
      cases j' with
      | none => rfl
      | some l =>
        by_cases q : l = i
        · simp [q] at m'
        · simp only [if_neg q] at m'
          have := h.dj _ _ c m m'
          simp at this
          exact absurd this.symm q
    | some l =>
      by_cases q : l = i
      · simp [q] at m
      · simp only [if_neg q] at m
        cases j' with
        | none =>
          have := h.dj _ _ c m m'
          simp at this
          exact absurd this q
        | some l' =>
          by_cases q' : l' = i
          · simp [q'] at m'
          · simp only [if_neg q'] at m'
            exact h.dj _ _ c m m'
/-- some slots frozen -/
def frz (l : List Nat) (env : SEnv) : SEnv := env.mapIdx fun i o => if i ∈ l then o.map fun o => .val o.d else o
theorem frz_length (l : List Nat) (env : SEnv) : (frz l env).length = env.length := by simp [frz]
theorem SS.frz {K : PySem.W.Frag} (l : List Nat) (h : SS K g0 g env σ [] []) : ∃ F', SS K g0 ⟨g.Z, F', g.H⟩ (frz l env) σ [] [] := by
  obtain ⟨cs, h⟩ := h
  let fc : Addr → Prop := fun c => ∃ i ∈ l, c ∈ cs (some i)
  have fcell : ∀ c, fc c → g.F c = none := fun c ⟨i, _, m⟩ => (h.fr _ c m).1
  have up := thaw_up (H := g.H) fcell
  have st : Step g ⟨g.Z, thaw g.F g.H fc, g.H⟩ → True := fun _ => trivial
  refine ⟨thaw g.F g.H fc, fun j => match j with | none => [] | some i => if i ∈ l then [] else cs (some i), ⟨h.st.ok.thaw fun c ⟨i, _, m⟩ => (h.fr _ c m).2.2.1, h.st.up.trans up, fun a n m => ?_, h.st.keep, h.st.zs, h.st.zn⟩, by rw [frz_length, h.len], fun i o e => ?_, .nil, fun j c m => ?_, fun j => ?_, fun j j' c m m' => ?_⟩
  · have m : thaw g.F g.H fc a ≠ none := m
    by_cases q : fc a
    · obtain ⟨i, _, mi⟩ := q
      exact (h.fr _ a mi).2.1
    · rw [thaw_out q] at m
      exact h.st.new a n m
  · unfold DL.frz at e
    rw [List.getElem?_mapIdx] at e
    cases q : env[i]? with
    | none => rw [q] at e; cases e
    | some x =>
      rw [q] at e
      simp only [Option.map_some, Option.some.injEq] at e
      by_cases il : i ∈ l
      · simp only [if_pos il] at e
        cases x with
        | none => cases e
        | some p =>
          simp only [Option.map_some, Option.some.injEq] at e
          subst e
          obtain ⟨v, hv, r⟩ := h.slot i p q
          refine ⟨v, hv, ?_⟩
          simp only [if_pos il]
          exact .val (r.at_ up fun c m => thaw_in ⟨i, il, m⟩)
      · simp only [if_neg il] at e
        subst e
        obtain ⟨v, hv, r⟩ := h.slot i o q
        refine ⟨v, hv, ?_⟩
        simp only [if_neg il]
        exact r.mono up (fun _ z => z) fun _ _ _ z => z
  · cases j with
    | none => simp at m
    | some i =>
      by_cases il : i ∈ l
      · simp [il] at m
      · simp only [if_neg il] at m
        obtain ⟨h1, h2, h3, h4⟩ := h.fr _ c m
        refine ⟨?_, h2, h3, h4⟩
        have no : ¬ fc c := fun ⟨i', il', m'⟩ => by
          have := h.dj _ _ c m m'
          simp at this
          subst this
          exact il il'
        show thaw g.F g.H fc c = none
        rw [thaw_out no]
        exact h1
  · cases j with
    | none => simp
    | some i =>
      by_cases il : i ∈ l
      · simp [il]
      · simp only [if_neg il]; exact h.nd _
  · cases j with
    | none => simp at m
    | some i =>
      by_cases il : i ∈ l
      · simp [il] at m
      · simp only [if_neg il] at m
        cases j' with
        | none => simp at m'
        | some i' =>
          by_cases il' : i' ∈ l
          · simp [il'] at m'
          · simp only [if_neg il'] at m'
            exact h.dj _ _ c m m'
end
theorem SS.sub {K : PySem.W.Frag} {g0 g1 g : Gh} {env : SEnv} {σ : L2.St} {vs : List V} {os : List O} (s : Step g0 g1) (h : SS K g1 g env σ vs os) : SS K g0 g env σ vs os := by
  obtain ⟨cs, h⟩ := h
  exact ⟨cs, s.trans h.st, h.len, h.slot, h.tmp, fun j c m => let ⟨a, b, d⟩ := h.fr j c m; ⟨a, s.none_ b, d⟩, h.nd, h.dj⟩
theorem Lk.sub {mg : Str → Option Value} {K : PySem.W.Frag} {W : WX} {g0 g1 : Gh} {De : DEnds} {Ee : SEX} {D : Ends} (s : Step g0 g1) (k : Lk mg K W g0 De Ee D) : Lk mg K W g1 De Ee D where
  nx := fun g env σ h => k.nx g env σ (h.sub s)
  bk := fun g env σ h => k.bk g env σ (h.sub s)
  ct := fun g env σ h => k.ct g env σ (h.sub s)
  rt := fun g v o t r => k.rt g v o (s.trans t) (r.back s)
  ex := fun g env σ x cls dd h => k.ex g env σ x cls dd (h.sub s)
/-- a later entry: all but the own cells as they stand -/
theorem SS.cut {K : PySem.W.Frag} {g0 g : Gh} {env : SEnv} {σ : L2.St} {vs : List V} {os : List O} (h : SS K g0 g env σ vs os) : ∃ g1, Step g0 g1 ∧ g1.F = g.F ∧ g1.Z = g.Z ∧ SS K g1 g env σ vs os := by
  obtain ⟨cs, h⟩ := h
  have hF : ∀ a u, g.F a = some u → untw g.H (cells cs) a = some u := fun a u e => by
    rw [untw_out fun m => by rw [h.fz a m] at e; cases e]
    exact h.st.ok.sub a u e
  have ok1 : Gh.Ok ⟨g.Z, g.F, untw g.H (cells cs)⟩ := ⟨hF, h.st.ok.src.keep fun b u z e => by
    show untw g.H (cells cs) b = some u
    rw [untw_out fun m => h.nz b m z]
    exact e, h.st.ok.nz⟩
  refine ⟨⟨g.Z, g.F, untw g.H (cells cs)⟩, ⟨ok1, h.st.up, h.st.new, fun a u e z => ?_, h.st.zs, h.st.zn⟩, rfl, rfl, cs, ⟨h.st.ok, Sub.refl _, fun a n m => absurd n m, fun a u e z => ?_, fun _ q => q, fun _ q => .inl q⟩, h.len, h.slot, h.tmp, fun j c m => ?_, h.nd, h.dj⟩
  · show untw g.H (cells cs) a = some u
    have no : ¬ cells cs a := fun ⟨j, m⟩ => by rw [(h.fr j a m).2.1] at e; cases e
    rw [untw_out no]
    exact h.st.keep a u e z
  · have e : untw g.H (cells cs) a = some u := e
    by_cases m : cells cs a
    · rw [untw_in m] at e; cases e
    · rw [untw_out m] at e; exact e
  · obtain ⟨a, _, d⟩ := h.fr j c m
    exact ⟨a, untw_in ⟨j, m⟩, d⟩
end DL
/-! DStm2 -/
namespace DL
open PySem PySem.Spec PyProof.Rows L2

section
variable {X : Cx} {W : WX} {g0 g : Gh} {env : SEnv} {σ : L2.St} {w wa wb : WE} {s s1 s2 : WS} {t : WT} {st : Stmt} {rest body orelse : List Stmt} {e a b c tg iter : Expr} {pos : Pos} {De : DEnds} {Ee : SEX} {Dn : Ends}
theorem SS.nil_ (h : SS X.K g0 g env σ [] []) : SS X.K g0 g env σ [] [] := h

def sNil : WS := fun env D _ => D.nx env
def sSeq (s1 s2 : WS) : WS := fun env D E => s1 env { D with nx := fun env' => s2 env' D E } E
theorem dss_nil : DSs X W [] sNil := pss_imp pss_nil fun Dn σ H ⟨g0, g, env, De, Ee, e, h, hw, k⟩ => by
  subst e
  exact k.nx g env σ h hw
theorem dss_cons (h1 : DS X W st s1) (h2 : DSs X W rest s2) : DSs X W (st :: rest) (sSeq s1 s2) := pss_imp (pss_cons h1 h2) fun Dn σ H ⟨g0, g, env, De, Ee, e, h, hw, k⟩ => by
  subst e
  exact ⟨g0, g, env, { De with nx := fun env' => s2 env' De Ee }, Ee, rfl, h, hw, ⟨fun g' env' σ' h' q => ⟨g0, g', env', De, Ee, rfl, h', q, k⟩, k.bk, k.ct, k.rt, k.ex⟩⟩
theorem dss_one (h1 : DS X W st s1) : DSs X W [st] s1 := pss_one h1
/-- ahead of a statement some slots are frozen -/
def sFrz (l : List Nat) (s : WS) : WS := fun env D E => s (frz l env) D E
theorem ds_frz (l : List Nat) (h : DS X W st s) : DS X W st (sFrz l s) := ps_imp h fun Dn σ H ⟨g0, g, env, De, Ee, e, h, hw, k⟩ => by
  subst e
  obtain ⟨F', h'⟩ := h.frz l
  exact ⟨g0, ⟨g.Z, F', g.H⟩, _, De, Ee, rfl, h', hw, k⟩
theorem ds_pass : DS X W (.Pass pos) sNil := ps_imp ps_pass fun Dn σ H ⟨g0, g, env, De, Ee, e, h, hw, k⟩ => by
  subst e
  exact k.nx g env σ h hw
def sBreak : WS := fun env D _ => D.bk env
def sCont : WS := fun env D _ => D.ct env
theorem ds_break : DS X W (.Break pos) sBreak := ps_imp ps_break fun Dn σ H ⟨g0, g, env, De, Ee, e, h, hw, k⟩ => by
  subst e
  exact k.bk g env σ h hw
theorem ds_cont : DS X W (.Continue pos) sCont := ps_imp ps_continue fun Dn σ H ⟨g0, g, env, De, Ee, e, h, hw, k⟩ => by
  subst e
  exact k.ct g env σ h hw

/-- e's value holds no list of another -/
def sSet (i : Nat) (w : WE) : WS := fun env D E => evC w env (fun o => i < env.length ∧ D.nx (env.set i (some o))) E
/-- e reads no own list -/
def sSetS (i : Nat) (w : WE) : WS := fun env D E => evS w env (fun o => i < env.length ∧ D.nx (env.set i (some o))) E
section
variable {i : Nat} {x : Str} {pos' : Pos}
theorem le_set {i : Nat} (h : SS X.K g0 g env σ [] []) (k : Lk X.mg X.K W g0 De Ee Dn) : ∀ v o g1, SS X.K g0 g1 env σ [v] [o] → i < env.length ∧ De.nx (env.set i (some o)) → Dn.nx (σ.set i (some v)) g1.H :=
  fun v o g1 h1 q => k.nx g1 _ _ (h1.set q.1) q.2
theorem ds_set (hN : X.N.Nodup) (he : DE X W e w) (hi : X.N[i]? = some x := by rfl) (hx : Loc X.env.scope x := by first | exact Or.inl rfl | exact Or.inr rfl) (hs : swapsWith e (some (.Name x pos')) pos.line X.env = pure false := by rfl)
    (hf : X.fn x = true ∨ X.env.scope.names.lookup x = some .local := by first | exact .inl rfl | exact .inr rfl | assumption) : DS X W (.Assign [.Name x pos'] e pos) (sSet i w) := ps_imp (ps_set hN hi hx he hs hf) fun Dn σ H ⟨g0, g, env, De, Ee, e, h, hw, k⟩ => by
  subst e
  exact h.goC hw (le_set h k) k.ex
theorem ds_setS (hN : X.N.Nodup) (he : DE X W e w) (hi : X.N[i]? = some x := by rfl) (hx : Loc X.env.scope x := by first | exact Or.inl rfl | exact Or.inr rfl) (hs : swapsWith e (some (.Name x pos')) pos.line X.env = pure false := by rfl)
    (hf : X.fn x = true ∨ X.env.scope.names.lookup x = some .local := by first | exact .inl rfl | exact .inr rfl | assumption) : DS X W (.Assign [.Name x pos'] e pos) (sSetS i w) := ps_imp (ps_set hN hi hx he hs hf) fun Dn σ H ⟨g0, g, env, De, Ee, e, h, hw, k⟩ => by
  subst e
  exact h.goS hw (le_set h k) k.ex
/-- name = [.. for ..] on one line -/
theorem ds_setLc {wi : WI} {p : Pat} {wt : WT} {we : WE} {elt : Expr} {ifs : List Expr} {scope : Scope} {own : List (Str × Nat)} {spos : Pos} (hc : X.calm = true) (hN : X.N.Nodup) (hi : DI X W tg iter wi) (ok : BlkOk X.N X.env.scope scope own)
    (hg : ∀ (s : Shared) (H : Hp) (C : Addr) (cl : List (Str × Addr)) (fp : List Addr), DG (X.blk s H scope (compEnvC scope cl C X.env) fp) tg p) (ht : ∀ (s : Shared) (H : Hp) (C : Addr) (cl : List (Str × Addr)) (fp : List Addr), DTs (X.blk s H scope (compEnvC scope cl C X.env) fp) WF ifs wt)
    (he : ∀ (s : Shared) (H : Hp) (C : Addr) (cl : List (Str × Addr)) (fp : List Addr), DE (X.blk s H scope (compEnvC scope cl C X.env) fp) WF elt we)
    (hsw : swapsWith (.ListComp elt [⟨tg, iter, ifs, 0⟩] scope pos) (some (.Name x pos')) spos.line X.env = pure true)
    (hy : X.N[i]? = some x := by rfl) (hyl : X.env.scope.names.lookup x = some .local := by rfl)
    (hp : (p.slots.all fun i => (own.map (·.2)).contains i) = true := by rfl) (hs : ∀ x, foldedSetIterable iter X.env x = pure x := by intro _; rfl) :
    DS X W (.Assign [.Name x pos'] (.ListComp elt [⟨tg, iter, ifs, 0⟩] scope pos) spos) (sSet i (eLc wi p wt we (own.map (·.2)))) := ps_imp (ps_setLc hc hN hy hyl hsw hi ok hg ht he hs) fun Dn σ H ⟨g0, g, env, De, Ee, e, h, hw, k⟩ => by
  subst e
  exact le_lc (fun i m => by simpa using List.all_eq_true.mp hp i m) σ g.H _ (h.goC hw (le_set h k) k.ex)
end

/-- the result; what own lists it holds are frozen -/
def sRet (w : WE) : WS := fun env D E => w (view env) (fun o => D.rt o) (fun x => x.clean = true ∧ E x env)
def sRetV (i : Nat) : WS := fun env D _ => match env[i]? with
  | some (some o) => D.rt o
  | _ => False
def sRetN : WS := fun _ D _ => D.rt (.val .non)
theorem SS.goR {K : PySem.W.Frag} {cs : Option Nat → List Addr} (h : SS' K g0 g env σ [] [] cs) : Step g0 ⟨g.Z, thaw g.F g.H (cells cs), g.H⟩ :=
  ⟨h.st.ok.thaw h.nz, h.st.up.trans (thaw_up h.fz), fun a n m => by
    have m : thaw g.F g.H (cells cs) a ≠ none := m
    by_cases q : cells cs a
    · obtain ⟨j, mj⟩ := q
      exact (h.fr j a mj).2.1
    · rw [thaw_out q] at m
      exact h.st.new a n m, h.st.keep, h.st.zs, h.st.zn⟩
theorem ds_ret (he : DE X W e w) : DS X W (.Return (some e) pos) (sRet w) := ps_imp (ps_ret he) fun Dn σ H ⟨g0, g, env, De, Ee, e, h, hw, k⟩ => by
  subst e
  obtain ⟨cs, h⟩ := h
  have s0 := SS.goR h
  refine LE.goO (g := ⟨g.Z, thaw g.F g.H (cells cs), g.H⟩) h.es hw (fun v o g1 s r q => k.rt g1 v o (s0.trans s) (r.back s0) q) fun x cls dd g1 s r q => ?_
  exact k.ex ⟨g1.Z, untw g1.F (cells cs), g1.H⟩ env σ x cls dd (SS.drop (X := X) ⟨cs, h.step (h.back s)⟩) (r.back h s q.1) q.2
theorem ds_retV (i : Nat) {x : Str} {pos' : Pos} (hN : X.N[i]? = some x := by rfl) (hv : Vis X.env.scope x := by first | exact Or.inl rfl | exact Or.inr (Or.inl rfl) | exact Or.inr (Or.inr rfl)) (hd : (x == ("__debug__" : Str)) = false := by decide)
    (hcd : (x == ("__classdict__" : Str)) = false := by decide) : DS X W (.Return (some (.Name x pos')) pos) (sRetV i) := ps_imp (ps_ret (pe_var hN hv hd hcd)) fun Dn σ H ⟨g0, g, env, De, Ee, e, h, hw, k⟩ => by
  subst e
  unfold sRetV at hw
  split at hw
  · rename_i o ho
    obtain ⟨v, hv, h'⟩ := h.take ho
    exact ⟨v, hv, k.rt g v o h'.rt.1 h'.rt.2 hw⟩
  · exact hw.elim
theorem ds_retN : DS X W (.Return none pos) sRetN := ps_imp ps_retN fun Dn σ H ⟨g0, g, env, De, Ee, e, h, hw, k⟩ => by
  subst e
  obtain ⟨cs, h⟩ := h
  exact k.rt g _ _ h.st (.val .non) hw

def sIf (t : WT) (s1 s2 : WS) : WS := fun env D E => evT t env (fun b => if b = true then s1 env D E else s2 env D E) E
theorem ds_if (ht : DT X W c t) (h1 : DSs X W body s1) (h2 : DSs X W orelse s2) : DS X W (.If c body orelse pos) (sIf t s1 s2) := ps_imp (ps_if ht h1 h2) fun Dn σ H ⟨g0, g, env, De, Ee, e, h, hw, k⟩ => by
  subst e
  refine h.goT hw (fun b g1 h1 q => ?_) k.ex
  cases b with
  | true =>
    rw [if_pos rfl] at q ⊢
    exact ⟨g0, g1, env, De, Ee, rfl, h1, q, k⟩
  | false =>
    rw [if_neg (by decide)] at q ⊢
    exact ⟨g0, g1, env, De, Ee, rfl, h1, q, k⟩
/-- I: what holds between two turns, by a number that falls -/
def sWhile (t : WT) (s : WS) : WS := fun env D E => ∃ I : Nat → SEnv → Prop, (∃ m, I m env) ∧ ∀ m env, I m env →
  evT t env (fun b => if b = true then s env { D with nx := fun env' => ∃ m', m' < m ∧ I m' env', ct := fun env' => ∃ m', m' < m ∧ I m' env', bk := D.nx } E else D.nx env) E
theorem ds_while (po : PassesOwn (model X.prog X.w) X.A X.env X.xe) (ht : DT X W c t) (hb : DSs X W body s) : DS X W (.While c body [] pos) (sWhile t s) := ps_imp (ps_while po ht hb) fun Dn σ H ⟨g0, g, env, De, Ee, e, h, hw, k⟩ => by
  subst e
  obtain ⟨I, ⟨m0, h0⟩, turn⟩ := hw
  refine ⟨fun m σ H => ∃ g env, g.H = H ∧ SS X.K g0 g env σ [] [] ∧ I m env, ⟨m0, g, env, rfl, h, h0⟩, ?_⟩
  rintro m σ H ⟨g, env, rfl, h, hi⟩
  refine h.goT (turn m env hi) (fun b g1 h1 q => ?_) k.ex
  cases b with
  | true =>
    rw [if_pos rfl] at q ⊢
    refine ⟨fun σ' H' => ∃ m', m' < m ∧ ∃ g env, g.H = H' ∧ SS X.K g0 g env σ' [] [] ∧ I m' env, fun σ' H' z => z, g0, g1, env, _, Ee, rfl, h1, q, ?_⟩
    exact ⟨fun g env σ h ⟨m', l, i⟩ => ⟨m', l, g, env, rfl, h, i⟩, k.nx, fun g env σ h ⟨m', l, i⟩ => ⟨m', l, g, env, rfl, h, i⟩, k.rt, k.ex⟩
  | false =>
    rw [if_neg (by decide)] at q ⊢
    exact k.nx g1 env σ h1 q

mutual
theorem tgP_ss {K : PySem.W.Frag} : ∀ (p : Pat) {env env' : SEnv} {σ : L2.St} {v : V} {d : D} {Q : L2.St → Hp → Prop}, SS K g0 g env σ [] [] → At K g.Z g.F v d → p.bind O.val d env = some env' →
    (∀ σ', SS K g0 g env' σ' [] [] → Q σ' g.H) → tgP K p v σ g.H Q
  | .nm i, env, env', σ, v, d, Q, h, a, e, k => by
    simp only [tgP]
    rw [Pat.bind_nm] at e
    split at e
    · rename_i hi
      cases e
      obtain ⟨cs, h⟩ := h
      have h1 := h.res h.st.ok.refl (RR.val (g := g) a)
      exact k _ (h1.set hi)
    · cases e
  | .tp ps, env, env', σ, v, d, Q, h, a, e, k => by
    have ok : g.Ok := by obtain ⟨cs, h⟩ := h; exact h.st.ok
    simp only [tgP]
    cases d with
    | tup ds =>
      rw [Pat.bind_tup] at e
      obtain ⟨q, vs, rfl, hq, as⟩ := a.tup_inv
      obtain ⟨hl, hh⟩ := tgPs_ss ps h as e k
      exact .inl ⟨q, vs, rfl, ok.sub.sqT hq, hl, hh⟩
    | lst ds =>
      rw [Pat.bind_lst] at e
      obtain ⟨q, vs, rfl, hq, as⟩ := a.lst_inv
      obtain ⟨hl, hh⟩ := tgPs_ss ps h as e k
      exact .inr ⟨q, vs, rfl, SqL.of (ok.sub _ _ hq), hl, hh⟩
    | _ => simp [Pat.bind, unD] at e
theorem tgPs_ss {K : PySem.W.Frag} : ∀ (ps : List Pat) {env env' : SEnv} {σ : L2.St} {vs : List V} {ds : List D} {Q : L2.St → Hp → Prop}, SS K g0 g env σ [] [] → Ats K g.Z g.F vs ds → Pat.binds O.val ps ds env = some env' →
    (∀ σ', SS K g0 g env' σ' [] [] → Q σ' g.H) → vs.length = ps.length ∧ tgPs K ps vs σ g.H Q
  | [], env, env', σ, vs, ds, Q, h, a, e, k => by
    simp only [tgPs]
    cases ds with
    | nil =>
      cases a
      rw [Pat.binds_nil] at e
      cases e
      exact ⟨rfl, rfl, k _ h⟩
    | cons d ds => simp [Pat.binds] at e
  | p :: ps, env, env', σ, vs, ds, Q, h, a, e, k => by
    simp only [tgPs]
    cases ds with
    | nil => simp [Pat.binds] at e
    | cons d ds =>
      cases a with
      | cons a t =>
        rename_i v vs
        have len := t.length
        rw [Pat.binds_cons] at e
        split at e
        · rename_i env1 e1
          have hlen : ∀ (ps : List Pat) (ds : List D) (env env' : SEnv), Pat.binds O.val ps ds env = some env' → ds.length = ps.length := by
            intro ps
            induction ps with
            | nil => intro ds env env' q; cases ds <;> simp [Pat.binds] at q ⊢
            | cons p ps ih =>
              intro ds env env' q
              cases ds with
              | nil => simp [Pat.binds] at q
              | cons d ds =>
                rw [Pat.binds_cons] at q
                split at q
                · have := ih _ _ _ q; simp [this]
                · cases q
          refine ⟨by simp [len, hlen _ _ _ _ e], v, vs, rfl, tgP_ss p h a e1 fun σ1 h1 => ?_⟩
          exact (tgPs_ss ps h1 t e k).2
        · cases e
end
/-- a loop over what is known -/
def loopD (p : Pat) (s : WS) (De : DEnds) (Ee : SEX) : List D → SEnv → Prop
  | [], env => De.nx env
  | d :: ds, env => ∃ env', p.bind O.val d env = some env' ∧ s env' { De with nx := fun env'' => loopD p s De Ee ds env'', ct := fun env'' => loopD p s De Ee ds env'', bk := De.nx } Ee
theorem loop_ok {p : Pat} {ds : List D} {J : It} {wb : WS} (it : ItOk X.K g J ds) (h : SS X.K g0 g env σ [] []) (hl : loopD p wb De Ee ds env) (k : Lk X.mg X.K W g0 De Ee Dn) :
    ∃ Wn : Nat → Nat → L2.St → Hp → Prop, (∃ m, Wn 0 m σ g.H) ∧ ∀ i m σ H, Wn i m σ H → (J.stop i H ∧ Dn.nx σ H) ∨ (J.go i H ∧ ∃ N : L2.St → Hp → Prop, (∀ σ' H', N σ' H' → ∃ m', m' < m ∧ Wn (i + 1) m' σ' H') ∧ ∀ x H', J.yld i H x H' → tgP X.K p x σ H' fun σ2 H2 => LS X W wb { Dn with nx := N, ct := N, bk := Dn.nx } σ2 H2) := by
  obtain ⟨g1, s1, eF, eZ, h1⟩ := h.cut
  have k1 := k.sub s1
  have gr : ∀ g', Step g1 g' → Grow g g' := fun g' s => ⟨s.ok, by rw [← eF]; exact s.up, by rw [← eZ]; exact s.zs⟩
  refine ⟨fun i m σ H => m = ds.length - i ∧ i ≤ ds.length ∧ ∃ g' env, g'.H = H ∧ SS X.K g1 g' env σ [] [] ∧ loopD p wb De Ee (ds.drop i) env, ⟨ds.length, by simp, Nat.zero_le _, g, env, rfl, h1, hl⟩, ?_⟩
  rintro i m σ H ⟨rfl, hi, g', env, rfl, h', hl⟩
  have st' : Step g1 g' := by obtain ⟨cs, h'⟩ := h'; exact h'.st
  by_cases hlt : i < ds.length
  · have ed : ds[i]? = some ds[i] := by simp [hlt]
    rw [List.drop_eq_getElem_cons hlt] at hl
    obtain ⟨env', hb, hs⟩ := hl
    refine .inr ⟨it.go g' (gr g' st') i _ ed, fun σ' H' => ∃ g' env, g'.H = H' ∧ SS X.K g1 g' env σ' [] [] ∧ loopD p wb De Ee (ds.drop (i + 1)) env, fun σ' H' z => ⟨ds.length - (i + 1), by omega, rfl, hlt, z⟩, fun x H' hy => ?_⟩
    obtain ⟨F2, s2, a2⟩ := it.yl g' (gr g' st') i _ x H' ed hy
    have h2 : SS X.K g1 ⟨g'.Z, F2, H'⟩ env σ [] [] := by
      obtain ⟨cs, h'⟩ := h'
      exact ⟨cs, h'.step s2⟩
    refine tgP_ss p (g := ⟨g'.Z, F2, H'⟩) h2 a2 hb fun σ' h3 => ⟨g1, ⟨g'.Z, F2, H'⟩, env', _, Ee, rfl, h3, hs, ?_⟩
    exact ⟨fun g env σ h q => ⟨g, env, rfl, h, q⟩, fun g env σ h q => k1.nx g env σ h q, fun g env σ h q => ⟨g, env, rfl, h, q⟩, k1.rt, k1.ex⟩
  · have e : i = ds.length := by omega
    subst e
    rw [List.drop_length] at hl
    exact .inl ⟨it.st g' (gr g' st') _ (Nat.le_refl _), k1.nx g' env σ h' hl⟩
/-- what is walked holds nothing of the own lists -/
def sFor (wi : WI) (p : Pat) (s : WS) : WS := fun env D E => wi (vview env) (fun ds => loopD p s D E ds env) (fun x => E x env)
/-- .. is a range -/
def sForR (wi : WI) (p : Pat) (s : WS) : WS := fun env D E => wi (view env) (fun ds => loopD p s D E ds env) (fun x => x.clean = true ∧ E x env)
theorem ds_for {wi : WI} {p : Pat} {wb : WS} (po : PassesOwn (model X.prog X.w) X.A X.env X.xe) (hc : X.calm = true) (hi : DI X W tg iter wi) (hg : DG X tg p) (hb : DSs X W body wb) (hs : ∀ x, foldedSetIterable iter X.env x = pure x := by intro _; rfl) : DS X W (.For tg iter body [] pos) (sFor wi p wb) :=
  ps_imp (ps_for po hc hi hg hb hs) fun Dn σ H ⟨g0, g, env, De, Ee, e, h, hw, k⟩ => by
  subst e
  obtain ⟨cs, h⟩ := h
  exact ⟨g, vview env, _, _, rfl, h.esv, hw, fun ds J g1 s it q => loop_ok it ⟨cs, h.step s⟩ q k, fun x cls dd g1 s r q => k.ex g1 env σ x cls dd ⟨cs, h.step s⟩ r q⟩
theorem ds_forR {wi : WI} {p : Pat} {wb : WS} (po : PassesOwn (model X.prog X.w) X.A X.env X.xe) (hc : X.calm = true) (hi : DIr X W tg iter wi) (hg : DG X tg p) (hb : DSs X W body wb) (hs : ∀ x, foldedSetIterable iter X.env x = pure x := by intro _; rfl) : DS X W (.For tg iter body [] pos) (sForR wi p wb) :=
  ps_imp (ps_for po hc hi hg hb hs) fun Dn σ H ⟨g0, g, env, De, Ee, e, h, hw, k⟩ => by
  subst e
  obtain ⟨cs, h⟩ := h
  refine ⟨⟨g.Z, thaw g.F g.H (cells cs), g.H⟩, view env, _, _, rfl, h.es, hw, fun ds J g1 s it q => ?_, fun x cls dd g1 s r q => ?_⟩
  · exact loop_ok (g := ⟨g1.Z, untw g1.F (cells cs), g1.H⟩) (it _) ⟨cs, h.step (h.back s)⟩ q k
  · exact k.ex ⟨g1.Z, untw g1.F (cells cs), g1.H⟩ env σ x cls dd ⟨cs, h.step (h.back s)⟩ (r.back h s q.1) q.2
end
end DL
/-! DFun -/
namespace DL
open PySem PySem.Spec PyProof.Rows L2

/-- a def's promise where nothing is being shown (repr leans on that) -/
structure FnG (P : Program) (w : World) (K : PySem.W.Frag) (mg : Str → Option Value) (base : Heap) (CX : CXT) (k : Nat) (f : Addr) (fd : FuncData) (ps : List Str) (sp : Sp) : Prop where
  len : ∀ vs H Q E, sp vs H Q E → vs.length = ps.length
  run : ∀ (A : Around) (outer : List Env) (s : Shared) (H : Hp) (args : Args) (us : List Value) (vs : List V) (Q : VK) (E : XK), Room k A → A.guards = some [] → Env0 P w K mg base A outer s H → BindsTo s fd args (ps.zip us) → Vals vs us → sp vs H Q E →
    codeAny (model P w) A (.call (.ref f) args) (CR CX outer P w H s Q E) s
theorem FnG.mono {P : Program} {w : World} {K : PySem.W.Frag} {mg : Str → Option Value} {base : Heap} {CX : CXT} {j k : Nat} {f : Addr} {fd : FuncData} {ps : List Str} {sp : Sp} (F : FnG P w K mg base CX j f fd ps sp) (h : j ≤ k) : FnG P w K mg base CX k f fd ps sp :=
  ⟨F.len, fun A outer s H args us vs Q E hr hg => F.run A outer s H args us vs Q E (hr.mono h) hg⟩
section
variable {P : Program} {w : World} {K : PySem.W.Frag} {mg : Str → Option Value} {base : Heap} {CX : CXT} {k : Nat} {f : Addr} {x qual : Str} {params : Arguments} {body : List Stmt} {scope : Scope} {dvs : List V} {kws : List (Str × V)} {fd : FuncData} {N ps : List Str} {sp : Sp}
theorem fng_of (F : FunD K x qual params body scope dvs kws f fd) (S : FnScope N ps scope) (hlen : ∀ vs H Q E, sp vs H Q E → vs.length = ps.length)
    (hb : ∀ (cdv : Value) (A : Around) (outer : List Env) (s : Shared) (H : Hp) (vs : List V) (Q : VK) (E : XK), Room k (A.deeper (envOfC qual scope s.heap.objs.size f cdv)) → A.guards = some [] → sp vs H Q E →
      ∃ t, PSs (cxOf CX P w K mg base N qual scope f cdv A outer s H E) body t ∧ t { nx := fun _ H' => Q .non H', rt := Q } (start N vs) H) : FnG P w K mg base CX (k + 1) f fd ps sp := by
  obtain ⟨oc, od, dV, kV, doc, pm, an, cdv, ct, osl, rfl, lk, hcd, _, _⟩ := F.ex
  refine ⟨hlen, fun A outer s H args us vs Q E hr hgd he hbind hv hs => ?_⟩
  have hn := hlen _ _ _ _ hs
  have kin : K.In s.heap := he.mod.kin.keeps fun b o q => (he.bs b o q).1
  have nol : s.heap.NoLimit := he.mod.nolimit.keeps fun b o q => (he.bs b o q).1
  have kinds : ∀ z ∈ ps.zip us, scope.names.lookup z.1 = some .local ∨ (scope.names.lookup z.1 = some .cell ∧ ((cellsFrom (s.heap.objs.size + 1) scope.names []).lookup z.1).isSome = true) := by
    rintro ⟨n, v⟩ hz
    rcases S.par n (List.of_mem_zip hz).1 with q | q
    · exact .inl q
    · exact .inr ⟨q, PySem.W.cellsFrom_some _ _ _ (.inl q)⟩
  refine codeAny_call_function hr.depth (kin _ _ lk) rfl S.co S.gen rfl (PySem.W.codeRec_of kin hcd) (hbind _ _ _ _ (wpAny_newFunctionEnv_cells S.kind kinds ?_))
  rintro env henv s1 ic
  subst henv
  refine ⟨nol.keeps ic.toInCall.keep, codeAny_func ?_⟩
  obtain ⟨t, ht, hq⟩ := hb cdv A outer s H vs Q E (hr.deeper _) hgd hs
  have I0 := inv_start (CX := CX) (E := E) S hr.hd he hn hv ic
  refine wpAny_mono (ht.run [] s1 (start N vs) H _ I0 hq) (fun fl s' z => ?_) fun e s' z => z
  cases fl with
  | ret u =>
    obtain ⟨v, σ', H', J, rv, q⟩ := z
    exact ⟨v, H', J.os, J.bare, J.base, J.hok, rv, q⟩
  | next =>
    obtain ⟨σ', H', J, q⟩ := z
    exact ⟨.non, H', J.os, J.bare, J.base, J.hok, rfl, q⟩
  | brk =>
    obtain ⟨_, _, _, q⟩ := z
    exact q.elim
  | cont =>
    obtain ⟨_, _, _, q⟩ := z
    exact q.elim
end

/-- a promise by data -/
abbrev FSp := List D → (O → Prop) → EX → Prop
def lift (mg : Str → Option Value) (K : PySem.W.Frag) (n : Nat) (sp : FSp) : Sp := fun vs H Q E => vs.length = n ∧ ∃ (g : Gh) (ds : List D) (Qd : O → Prop) (Ed : EX), g.H = H ∧ g.Ok ∧ Ats K g.Z g.F vs ds ∧ sp ds Qd Ed ∧
  (∀ v o g', Step g g' → RR K g g' v o → Qd o → Q v g'.H) ∧ (∀ x cls dd g', Step g g' → XR mg K g' cls dd x → Ed x → E cls dd g'.H)
structure Fn (P : Program) (w : World) (K : PySem.W.Frag) (mg : Str → Option Value) (base : Heap) (k : Nat) (x : Str) (ps : List Str) (sp : FSp) : Prop where
  len : ∀ ds Q E, sp ds Q E → ds.length = ps.length
  ex : ∃ f fd, mg x = some (.ref f) ∧ PySem.W.keepIn K (.ref f) = true ∧ Binds K fd ps [] ∧ FnG P w K mg base (L2.CX P w) k f fd ps (lift mg K ps.length sp)
/-- where a body runs -/
structure Good (X : Cx) (k : Nat) : Prop where
  calm : X.calm = true
  room : Room k X.A
  grd : X.A.guards = some []
theorem Good.mono {X : Cx} {j k : Nat} (g : Good X k) (h : j ≤ k) : Good X j := ⟨g.calm, g.room.mono h, g.grd⟩
theorem Good.blk {X : Cx} {k : Nat} (g : Good X k) {s : Shared} {H : Hp} {scope : Scope} {cenv : Env} {fp : List Addr} : Good (X.blk s H scope cenv fp) k := ⟨g.calm, g.room, g.grd⟩
theorem Good.tr {X : Cx} {k : Nat} (g : Good X k) {pn : List (Addr × Obj)} {xe : Value → Shared → Prop} : Good (X.tr pn xe) k := ⟨g.calm, g.room, g.grd⟩
/-- f(e, ..) -/
def eCall (sp : FSp) (ws : WA) : WE := fun env Q E => ws env (fun os => sp (O.ds os) Q E) E
section
variable {X : Cx} {W : WX} {k : Nat} {x : Str} {ps : List Str} {sp : FSp} {ws : WA} {e : Expr} {es : List Expr} {p pos : Pos}
theorem run_fng {f : Addr} {fd : FuncData} {sp : Sp} {pins : List (Addr × Obj)} {σ : L2.St} {H : Hp} {s : Shared} {Q : VK} {us : List Value} {vs : List V} {E : XK} (F : FnG X.prog X.w X.K X.mg X.base (L2.CX X.prog X.w) k f fd ps sp) (G : Good X k) (hb : Binds X.K fd ps [])
    (tk : Takes X W) (hE : ∀ c d H, E c d H → W c d σ H) (I : Inv X pins σ H s) (r : Vals vs us) (h : sp vs H Q E) : wpAny (model X.prog X.w) X.A (call (.ref f) us) (EP X pins σ Q) X.xe s := by
  have hl : us.length = ps.length := by rw [← r.length, F.len _ _ _ _ h]
  have hbb := hb s us I.kIn (by rw [List.append_nil]; exact hl)
  rw [List.append_nil] at hbb
  refine wpAny_call (codeAny_mono (F.run X.A X.stack s H ⟨us, []⟩ us vs Q E G.room G.grd I.env0 hbb r h) fun res s' hq => ?_)
  rcases res with er | (u | _ | _ | _)
  · exact tk er s' (XE.of_call I (fun c d H' q => hE c d H' q) hq)
  · exact hq.elim
  · exact hq.elim
  · exact hq.elim
  · exact I.after hq
theorem de_call (F : Fn X.prog X.w X.K X.mg X.base k x ps sp) (G : Good X k) (tk : Takes X W) (ha : DA X W (e :: es) ws) (hg : Gl X x := by rfl) (hdb : (x == ("__debug__" : Str)) = false := by decide)
    (he : starEach (e :: es) X.env = (false, eval e X.env) :: starEach es X.env := by rfl) (hpl : (backTo pos (starEach es X.env)).any (·.1) = false := by rfl) : DE X W (.Call (.Name x p) (e :: es) [] pos) (eCall sp ws) := by
  obtain ⟨f, fd, hm, hk, hb, FG⟩ := F.ex
  refine ⟨fun pins s σ H Q I h => wpAny_Call_Name_kw (ld_glob I hg hm ?_ hdb)⟩
  obtain ⟨g, env, Qd, Ed, eH, es', hw, kq, kx⟩ := h
  subst eH
  have h2 : LA X W ws σ g.H fun vs H1 => lift X.mg X.K ps.length sp vs H1 Q fun c d H => W c d σ H := by
    refine LA.go (R := fun ds => sp ds Qd Ed) es' hw (fun vs ds g1 s1 as h1 => ?_) kx
    exact ⟨by rw [as.length, F.len _ _ _ h1], g1, ds, Qd, Ed, rfl, s1.ok, as, h1, fun v o g' s' r q => QL.on (Q := Q) kq s1 v o g' s' r q, fun y c d g' s' r q => XL.on kx s1 y c d g' s' r q⟩
  refine PySem.W.callWith_K (h₀ := X.base) I.ok.mod.kin hk (thn (ha.run pos pins s σ g.H _ I h2) fun us s1 hz => ?_) he hpl
  obtain ⟨vs, H1, I1, r, q⟩ := hz
  exact ⟨I1.kIn, run_fng FG G hb tk (fun _ _ _ z => z) I1 r q⟩
/-- f() -/
theorem de_call0 (F : Fn X.prog X.w X.K X.mg X.base k x ps sp) (G : Good X k) (tk : Takes X W) (hg : Gl X x := by rfl) (hdb : (x == ("__debug__" : Str)) = false := by decide) : DE X W (.Call (.Name x p) [] [] pos) (eCall sp aNil) := by
  obtain ⟨f, fd, hm, hk, hb, FG⟩ := F.ex
  refine ⟨fun pins s σ H Q I h => wpAny_Call_Name_kw (ld_glob I hg hm ?_ hdb)⟩
  obtain ⟨g, env, Qd, Ed, eH, es', hw, kq, kx⟩ := h
  subst eH
  have hw : sp [] Qd Ed := by
    have := hw
    simp only [eCall, aNil, O.ds_nil] at this
    exact this
  refine PySem.W.callWith_K0 I.kIn hk (run_fng (us := []) (vs := []) (E := fun c d H => W c d σ H) FG G hb tk (fun _ _ _ z => z) I .nil ?_)
  exact ⟨by have := F.len _ _ _ hw; simpa using this, g, [], Qd, Ed, rfl, es'.ok, .nil, hw, kq, kx⟩
end

def startD (N : List Str) (ds : List D) : SEnv := ds.map (fun d => some (.val d)) ++ List.replicate (N.length - ds.length) none
/-- what leaves the def -/
abbrev WB (E : XK) : WX := fun c d _ H => E c d H
theorem SS.start {K : PySem.W.Frag} {g : Gh} {N : List Str} {vs : List V} {ds : List D} (ok : g.Ok) (a : Ats K g.Z g.F vs ds) : SS K g g (startD N ds) (start N vs) [] [] := by
  have hl := a.length
  refine ⟨fun _ => [], ok.refl, by simp [startD, L2.start, hl], fun i o e => ?_, .nil, fun _ _ m => by simp at m, fun _ => .nil, fun _ _ _ m => by simp at m⟩
  unfold startD at e
  by_cases hi : i < ds.length
  · rw [List.getElem?_append_left (by simpa using hi), List.getElem?_map] at e
    cases q : ds[i]? with
    | none => rw [q] at e; cases e
    | some d =>
      rw [q] at e
      simp only [Option.map_some, Option.some.injEq] at e
      subst e
      obtain ⟨v, h1, h2⟩ := a.get q
      refine ⟨v, ?_, .val h2⟩
      unfold L2.start
      rw [List.getElem?_append_left (by simp; omega), List.getElem?_map, h1]
      rfl
  · rw [List.getElem?_append_right (by simpa using hi), List.getElem?_replicate] at e
    split at e <;> cases e
section
variable {P : Program} {w : World} {K : PySem.W.Frag} {mg : Str → Option Value} {base : Heap} {k : Nat} {f : Addr} {x qual : Str} {params : Arguments} {body : List Stmt} {scope : Scope} {fd : FuncData} {N ps : List Str} {sp : FSp} {wb : WS}
theorem fng_mk (F : FunD K x qual params body scope [] [] f fd) (S : FnScope N ps scope)
    (hbody : ∀ (cdv : Value) (A : Around) (outer : List Env) (s : Shared) (H : Hp) (E : XK), Good (cxOf (L2.CX P w) P w K mg base N qual scope f cdv A outer s H E) k → DSs (cxOf (L2.CX P w) P w K mg base N qual scope f cdv A outer s H E) (WB E) body wb)
    (hsp : ∀ ds Q E, sp ds Q E → wb (startD N ds) { nx := fun _ => Q (.val .non), rt := Q } (fun x _ => E x)) : FnG P w K mg base (L2.CX P w) (k + 1) f fd ps (lift mg K ps.length sp) := by
  refine fng_of F S (fun vs H Q E h => h.1) fun cdv A outer s H vs Q E hr hgd h => ?_
  obtain ⟨hl, g, ds, Qd, Ed, rfl, ok, as, hs, kq, kx⟩ := h
  refine ⟨_, hbody cdv A outer s g.H E ⟨rfl, hr, hgd⟩, g, g, _, _, _, rfl, SS.start ok as, hsp ds Qd Ed hs, ?_⟩
  refine ⟨fun g' env σ h q => ?_, fun _ _ _ _ q => q.elim, fun _ _ _ _ q => q.elim, fun g' v o s r q => kq v o g' s r q, fun g' env σ y cls dd h r q => ?_⟩
  · obtain ⟨cs, h⟩ := h
    exact kq _ _ g' h.st (.val .non) q
  · obtain ⟨cs, h⟩ := h
    exact kx y cls dd g' h.st r q
theorem fn_mk (F : FunD K x qual params body scope [] [] f fd) (hm : mg x = some (.ref f)) (hb : Binds K fd ps []) (S : FnScope N ps scope) (hlen : ∀ ds Q E, sp ds Q E → ds.length = ps.length)
    (hbody : ∀ (cdv : Value) (A : Around) (outer : List Env) (s : Shared) (H : Hp) (E : XK), Good (cxOf (L2.CX P w) P w K mg base N qual scope f cdv A outer s H E) k → DSs (cxOf (L2.CX P w) P w K mg base N qual scope f cdv A outer s H E) (WB E) body wb)
    (hsp : ∀ ds Q E, sp ds Q E → wb (startD N ds) { nx := fun _ => Q (.val .non), rt := Q } (fun x _ => E x)) : Fn P w K mg base (k + 1) x ps sp :=
  ⟨hlen, f, fd, hm, F.kp, hb, fng_mk F S hbody hsp⟩
theorem Fn.mono {j : Nat} (F : Fn P w K mg base j x ps sp) (h : j ≤ k) : Fn P w K mg base k x ps sp := by
  obtain ⟨f, fd, a, b, c, d⟩ := F.ex
  exact ⟨F.len, f, fd, a, b, c, d.mono h⟩
/-- a weaker promise -/
theorem Fn.imp {sp' : FSp} (F : Fn P w K mg base k x ps sp) (h : ∀ ds Q E, sp' ds Q E → sp ds Q E) : Fn P w K mg base k x ps sp' := by
  obtain ⟨f, fd, a, b, c, d⟩ := F.ex
  refine ⟨fun ds Q E q => F.len _ _ _ (h _ _ _ q), f, fd, a, b, c, fun vs H Q E q => q.1, fun A outer s H args us vs Q E hr hg he hbb hv q => d.run A outer s H args us vs Q E hr hg he hbb hv ?_⟩
  obtain ⟨hl, g, ds, Qd, Ed, e1, ok, as, hs, kq, kx⟩ := q
  exact ⟨hl, g, ds, Qd, Ed, e1, ok, as, h _ _ _ hs, kq, kx⟩
theorem takes_cx {N : List Str} {cdv : Value} {A : Around} {outer : List Env} {s : Shared} {H : Hp} {E : XK} : Takes (cxOf (L2.CX P w) P w K mg base N qual scope f cdv A outer s H E) (WB E) := takes_of rfl rfl rfl rfl
theorem passes_cx {N : List Str} {cdv : Value} {A : Around} {outer : List Env} {s : Shared} {H : Hp} {E : XK} : PassesOwn (model P w) (cxOf (L2.CX P w) P w K mg base N qual scope f cdv A outer s H E).A (cxOf (L2.CX P w) P w K mg base N qual scope f cdv A outer s H E).env (cxOf (L2.CX P w) P w K mg base N qual scope f cdv A outer s H E).xe := passes_of rfl
theorem takesF {X : Cx} : Takes X WF := fun _ _ z => by
  obtain ⟨_, _, _, _, _, _, _, _, _, _, _, _, _, _, _, _, q⟩ := z
  exact q.elim
end
end DL
/-! DStm3 -/
namespace DL
open PySem PySem.Spec PyProof.Rows L2

theorem ROs.split {K : PySem.W.Frag} {Z : Zs} {F H : Hp} : ∀ {ps qs : List O} {vs : List V} {cs : List Addr}, ROs K Z F H vs (ps ++ qs) cs → ∃ us ws c1 c2, vs = us ++ ws ∧ cs = c1 ++ c2 ∧ ROs K Z F H us ps c1 ∧ ROs K Z F H ws qs c2
  | [], qs, vs, cs, h => ⟨[], vs, [], cs, rfl, rfl, .nil, h⟩
  | p :: ps, qs, vs, cs, h => by
    cases h with
    | cons r t =>
      obtain ⟨us, ws, c1, c2, rfl, rfl, h1, h2⟩ := ROs.split t
      exact ⟨_ :: us, ws, _ ++ c1, c2, rfl, by rw [List.append_assoc], .cons r h1, h2⟩
theorem ROs.one_inv {K : PySem.W.Frag} {Z : Zs} {F H : Hp} {vs : List V} {o : O} {cs : List Addr} (h : ROs K Z F H vs [o] cs) : ∃ v, vs = [v] ∧ RO K Z F H v o cs := by
  cases h with
  | cons r t =>
    cases t
    exact ⟨_, rfl, by rwa [List.append_nil]⟩
/-- the j-th is another -/
theorem ROs.set {K : PySem.W.Frag} {Z : Zs} {F H : Hp} {v : V} {o : O} {d : List Addr} (r : RO K Z F H v o d) : ∀ {os : List O} {vs : List V} {cs : List Addr} (j : Nat), ROs K Z F H vs os cs → j < os.length →
    ∃ c', ROs K Z F H (vs.set j v) (os.set j o) c' ∧ ∀ c, c'.count c ≤ cs.count c + d.count c
  | [], _, _, _, _, h => by simp at h
  | p :: ps, _, _, 0, .cons (cs := c1) (ds := c2) r' t, _ => ⟨d ++ c2, .cons r t, fun c => by rw [List.count_append, List.count_append]; omega⟩
  | p :: ps, _, _, j + 1, .cons (cs := c1) (ds := c2) r' t, h => by
    obtain ⟨c', h1, h2⟩ := ROs.set r (j := j) t (by simpa using h)
    exact ⟨c1 ++ c', .cons r' h1, fun c => by rw [List.count_append, List.count_append]; have := h2 c; omega⟩
section
variable {X : Cx} {W : WX} {K : PySem.W.Frag} {g0 g : Gh} {env : SEnv} {σ : L2.St} {vs vs' : List V} {os os' : List O} {cs : Option Nat → List Addr}
/-- what is to know of an own list -/
theorem SS'.own (h : SS' K g0 g env σ vs os cs) {i : Nat} {ps : List O} (e : env[i]? = some (some (.lst ps))) : ∃ l us c0, σ[i]? = some (some (.ref l)) ∧ g.H l = some (.lst us) ∧ cs (some i) = l :: c0 ∧ ROs K g.Z g.F g.H us ps c0 := by
  obtain ⟨v, hv, r⟩ := h.slot i _ e
  generalize hc : cs (some i) = cc at r
  cases r with
  | lst hl hs => exact ⟨_, _, _, hv, hl, rfl, hs⟩
/-- the list at l is written: what it holds comes from what it held and what was in hand -/
theorem SS'.put (h : SS' K g0 g env σ vs os cs) {i l : Nat} {us us' : List V} {ps ps' : List O} {c0 c1 ct : List Addr} (e : env[i]? = some (some (.lst ps))) (hl : σ[i]? = some (some (.ref l))) (hH : g.H l = some (.lst us)) (hc : cs (some i) = l :: c0)
    (r1 : ROs K g.Z g.F g.H us' ps' c1) (r2 : ROs K g.Z g.F g.H vs' os' ct) (cnt : ∀ c, c1.count c + ct.count c ≤ c0.count c + (cs none).count c) :
    SS K g0 ⟨g.Z, g.F, upd g.H l (.lst us')⟩ (env.set i (some (.lst ps'))) σ vs' os' := by
  have lin : l ∈ cs (some i) := by rw [hc]; simp
  obtain ⟨lF, l0, lZ, _⟩ := h.fr _ l lin
  have nd := h.nd (some i)
  rw [hc] at nd
  obtain ⟨lc0, nd0⟩ := List.nodup_cons.mp nd
  have old : ∀ c, c ∈ c0 → c ∈ cs (some i) := fun c m => by rw [hc]; simp [m]
  have from1 : ∀ c, c ∈ c1 ∨ c ∈ ct → c ∈ c0 ∨ c ∈ cs none := fun c m => by
    have := cnt c
    have p1 : c ∈ c1 → 0 < c1.count c := List.count_pos_iff.mpr
    have p2 : c ∈ ct → 0 < ct.count c := List.count_pos_iff.mpr
    by_cases q : c ∈ c0
    · exact .inl q
    · refine .inr (List.count_pos_iff.mp ?_)
      have := List.count_eq_zero.mpr q
      rcases m with m | m
      · have := p1 m; omega
      · have := p2 m; omega
  have ap : ∀ c, c ∈ c0 → c ∈ cs none → False := fun c m m' => by have := h.dj _ _ c (old c m) m'; cases this
  have le1 : ∀ c, c0.count c + (cs none).count c ≤ 1 := fun c => by
    have a1 := List.nodup_iff_count.mp nd0 c
    have a2 := List.nodup_iff_count.mp (h.nd none) c
    by_cases q : c ∈ c0
    · have := List.count_eq_zero.mpr fun m => ap c q m
      omega
    · have := List.count_eq_zero.mpr q
      omega
  have lno : ∀ c, c ∈ c1 ∨ c ∈ ct → c ≠ l := fun c m q => by
    subst q
    rcases from1 c m with q | q
    · exact lc0 q
    · have := h.dj _ _ c lin q; cases this
  have fr1 : ∀ c, c ∈ c1 ∨ c ∈ ct → g.F c = none ∧ g0.H c = none ∧ ¬ inZ g.Z c ∧ ∃ u, g.H c = some u ∧ isCellO u = true := fun c m => by
    rcases from1 c m with q | q
    · exact h.fr _ c (old c q)
    · exact h.fr _ c q
  have oth : ∀ {i' c}, i' ≠ i → c ∈ cs (some i') → c ≠ l ∧ ¬ (c ∈ c1 ∨ c ∈ ct) := fun {i' c} n m => by
    refine ⟨fun q => ?_, fun q => ?_⟩
    · subst q
      have := h.dj _ _ c m lin
      simp at this
      exact n this
    · rcases from1 c q with q | q
      · have := h.dj _ _ c m (old c q)
        simp at this
        exact n this
      · have := h.dj _ _ c m q; cases this
  have kp : ∀ c u, c ≠ l → g.H c = some u → upd g.H l (.lst us') c = some u := fun c u n q => by rw [upd_ne n]; exact q
  refine ⟨fun j => match j with | none => ct | some i' => if i' = i then l :: c1 else cs (some i'), h.st.own l0 lF lZ, by simp [h.len], fun i' o q => ?_, ROs.mono (Sub.refl _) (fun _ z => z) r2 fun c m u q => kp c u (lno c (.inr m)) q, fun j c m => ?_, fun j => ?_, fun j j' c m m' => ?_⟩
  · rcases List.set_get q with ⟨ei, q1⟩ | ⟨n, q1⟩
    · subst ei
      obtain rfl : O.lst ps' = o := Option.some.inj q1
      refine ⟨_, hl, ?_⟩
      simp only [if_pos]
      exact .lst upd_same (ROs.mono (Sub.refl _) (fun _ z => z) r1 fun c m u q => kp c u (lno c (.inl m)) q)
    · obtain ⟨v, h1, h2⟩ := h.slot i' o q1
      refine ⟨v, h1, ?_⟩
      simp only [if_neg (Ne.symm n)]
      exact h2.mono (Sub.refl _) (fun _ z => z) fun c m u q => kp c u (oth (Ne.symm n) m).1 q
  · have put : (g.F c = none ∧ g0.H c = none ∧ ¬ inZ g.Z c ∧ ∃ u, g.H c = some u ∧ isCellO u = true) → g.F c = none ∧ g0.H c = none ∧ ¬ inZ g.Z c ∧ ∃ u, upd g.H l (.lst us') c = some u ∧ isCellO u = true := fun ⟨a, b, d, u, hu, hk⟩ => by
      refine ⟨a, b, d, ?_⟩
      by_cases q : c = l
      · subst q; exact ⟨_, upd_same, rfl⟩
      · exact ⟨u, kp c u q hu, hk⟩
    cases j with
    | none => exact put (fr1 c (.inr m))
    | some i' =>
      by_cases q : i' = i
      · simp only [if_pos q] at m
        rcases List.mem_cons.mp m with rfl | m
        · exact put (h.fr _ _ lin)
        · exact put (fr1 c (.inl m))
      · simp only [if_neg q] at m
        exact put (h.fr _ c m)
  · cases j with
    | none =>
      show ct.Nodup
      exact List.nodup_iff_count.mpr fun c => by have := cnt c; have := le1 c; omega
    | some i' =>
      by_cases q : i' = i
      · simp only [if_pos q]
        exact List.nodup_cons.mpr ⟨fun m => lno l (.inl m) rfl, List.nodup_iff_count.mpr fun c => by have := cnt c; have := le1 c; omega⟩
      · simp only [if_neg q]; exact h.nd _
  · have no : ∀ c, c ∈ c1 → c ∈ ct → False := fun c a b => by
      have := cnt c
      have := le1 c
      have := List.count_pos_iff.mpr a
      have := List.count_pos_iff.mpr b
      omega
    cases j with
    | none =>
      cases j' with
      | none => rfl
      | some i' =>
        by_cases q : i' = i
        · simp only [if_pos q] at m'
          rcases List.mem_cons.mp m' with rfl | m'
          · exact absurd rfl (lno c (.inr m))
          · exact (no c m' m).elim
        · simp only [if_neg q] at m'
          exact absurd (.inr m) (oth q m').2
    | some i1 =>
      by_cases q : i1 = i
      · simp only [if_pos q] at m
        cases j' with
        | none =>
          rcases List.mem_cons.mp m with rfl | m
          · exact absurd rfl (lno c (.inr m'))
          · exact (no c m m').elim
        | some i2 =>
          by_cases q' : i2 = i
          · rw [q, q']
          · simp only [if_neg q'] at m'
            rcases List.mem_cons.mp m with rfl | m
            · exact absurd rfl (oth q' m').1
            · exact absurd (.inl m) (oth q' m').2
      · simp only [if_neg q] at m
        cases j' with
        | none => exact absurd (.inr m') (oth q m).2
        | some i2 =>
          by_cases q' : i2 = i
          · simp only [if_pos q'] at m'
            rcases List.mem_cons.mp m' with rfl | m'
            · exact absurd rfl (oth q m).1
            · exact absurd (.inl m') (oth q m).2
          · simp only [if_neg q'] at m'
            exact h.dj _ _ c m m'
end

section
variable {X : Cx} {W : WX} {g0 g : Gh} {env : SEnv} {σ : L2.St} {w we wi : WE} {ws : WA} {e ei a b : Expr} {es : List Expr} {pos p ap cp tp : Pos} {i : Nat} {x : Str}
/-- a value that is thrown away -/
def sExpr (w : WE) : WS := fun env D E => evC w env (fun _ => D.nx env) E
theorem ds_expr (he : DE X W e w) (hs : swapsWith e none pos.line X.env = pure false := by rfl) : DS X W (.Expr e pos) (sExpr w) := ps_imp (ps_expr he hs) fun Dn σ H ⟨g0, g, env, De, Ee, eH, h, hw, k⟩ => by
  subst eH
  exact h.goC hw (fun v o g1 h1 q => k.nx g1 env σ (SS.drop (X := X) h1) q) k.ex
theorem ds_doc {y : Str} {j : Nat} {p' : Pos} : DS X W (.Expr (.Constant (.str y) j p') pos) sNil := ps_imp ps_doc fun Dn σ H ⟨g0, g, env, De, Ee, eH, h, hw, k⟩ => by
  subst eH
  exact k.nx g env σ h hw
/-- x.append(e) -/
def ownD (o : Option (Option O)) (Q : List O → Prop) : Prop := match o with
  | some (some (.lst os)) => Q os
  | _ => False
theorem ownD_inv {o : Option (Option O)} {Q : List O → Prop} (h : ownD o Q) : ∃ os, o = some (some (.lst os)) ∧ Q os := by
  unfold ownD at h
  split at h
  · exact ⟨_, rfl, h⟩
  · exact h.elim
def sApp (i : Nat) (w : WE) : WS := fun env D E => ownD env[i]? fun os => evC w env (fun o => os.length < sizeLine ∧ D.nx (env.set i (some (.lst (os ++ [o]))))) E
/-- .. e reads no own list -/
def sAppS (i : Nat) (w : WE) : WS := fun env D E => ownD env[i]? fun os => evS w env (fun o => os.length < sizeLine ∧ D.nx (env.set i (some (.lst (os ++ [o]))))) E
theorem app_fin {De : DEnds} {Ee : SEX} {Dn : Ends} {l : Addr} {ps : List O} (e : env[i]? = some (some (.lst ps))) (hl : σ[i]? = some (some (.ref l))) (k : Lk X.mg X.K W g0 De Ee Dn) : ∀ v o g1, SS X.K g0 g1 env σ [v] [o] → ps.length < sizeLine ∧ De.nx (env.set i (some (.lst (ps ++ [o])))) →
    rAppend (.ref l) [v] g1.H fun _ H1 => Dn.nx σ H1 := fun v o g1 h1 q => by
  obtain ⟨cs, h1⟩ := h1
  obtain ⟨l', us, c0, e1, e2, e3, e4⟩ := h1.own e
  rw [hl] at e1
  obtain rfl : l = l' := by simpa using e1
  obtain ⟨w, ew, rw'⟩ := h1.tmp.one_inv
  obtain rfl : v = w := by simpa using ew
  refine ⟨l, us, v, rfl, rfl, e2, by rw [e4.length]; exact q.1, k.nx _ _ _ (h1.put (us' := us ++ [v]) (vs' := []) (os' := []) (ct := []) e hl e2 e3 (e4.append (.cons rw' .nil)) .nil fun c => ?_) q.2⟩
  simp only [List.append_nil, List.count_append, List.count_nil, Nat.add_zero]
  exact Nat.le_refl _
theorem ds_app (hs : DE X W e w) (hN : X.N[i]? = some x := by rfl) (hv : Vis X.env.scope x := by first | exact Or.inl rfl | exact Or.inr (Or.inl rfl) | exact Or.inr (Or.inr rfl)) (hd : (x == ("__debug__" : Str)) = false := by decide) (hcd : (x == ("__classdict__" : Str)) = false := by decide)
    (hb : attributeBase (.Name x p) "append" X.env (eval (.Name x p) X.env) = eval (.Name x p) X.env := by rfl)
    (hfew : ((backTo cp (starEach [e] X.env)).all (fun x => !x.1) && (backToKw cp (keywordEach [] X.env)).all (fun x => x.1.isSome) && decide ([e].length + ([] : List Keyword).length + (if ([] : List Keyword).isEmpty then 0 else 1) < 30)) = true := by rfl)
    (hline : (ap.endLine == cp.line) = true := by rfl) (hst : starEach [e] X.env = (false, eval e X.env) :: starEach [] X.env := by rfl) (hpl : (backTo cp (starEach [] X.env)).any (·.1) = false := by rfl) (hsw : swapsWith (.Call (.Attribute (.Name x p) "append" ap) [e] [] cp) none pos.line X.env = pure false := by rfl) :
    DS X W (.Expr (.Call (.Attribute (.Name x p) "append" ap) [e] [] cp) pos) (sApp i w) := ps_imp (ps_expr (pe_bm PySem.F.plainAttrs_list PySem.F.slot_list_append PySem.F.type_list_append mt_append (pe_var hN hv hd hcd) (pa_cons hs pa_nil hst) hb hfew hline hst hpl) hsw) fun Dn σ H ⟨g0, g, env, De, Ee, eH, h, hw, k⟩ => by
  subst eH
  obtain ⟨ps, e1, hw⟩ := ownD_inv hw
  obtain ⟨cs, h⟩ := h
  obtain ⟨l, us, c0, q1, q2, q3, q4⟩ := h.own e1
  exact ⟨.ref l, q1, .inl ⟨rfl, us, SqL.of q2⟩, SS.goC (X := X) ⟨cs, h⟩ hw (app_fin e1 q1 k) k.ex⟩
theorem ds_appS (hs : DE X W e w) (hN : X.N[i]? = some x := by rfl) (hv : Vis X.env.scope x := by first | exact Or.inl rfl | exact Or.inr (Or.inl rfl) | exact Or.inr (Or.inr rfl)) (hd : (x == ("__debug__" : Str)) = false := by decide) (hcd : (x == ("__classdict__" : Str)) = false := by decide)
    (hb : attributeBase (.Name x p) "append" X.env (eval (.Name x p) X.env) = eval (.Name x p) X.env := by rfl)
    (hfew : ((backTo cp (starEach [e] X.env)).all (fun x => !x.1) && (backToKw cp (keywordEach [] X.env)).all (fun x => x.1.isSome) && decide ([e].length + ([] : List Keyword).length + (if ([] : List Keyword).isEmpty then 0 else 1) < 30)) = true := by rfl)
    (hline : (ap.endLine == cp.line) = true := by rfl) (hst : starEach [e] X.env = (false, eval e X.env) :: starEach [] X.env := by rfl) (hpl : (backTo cp (starEach [] X.env)).any (·.1) = false := by rfl) (hsw : swapsWith (.Call (.Attribute (.Name x p) "append" ap) [e] [] cp) none pos.line X.env = pure false := by rfl) :
    DS X W (.Expr (.Call (.Attribute (.Name x p) "append" ap) [e] [] cp) pos) (sAppS i w) := ps_imp (ps_expr (pe_bm PySem.F.plainAttrs_list PySem.F.slot_list_append PySem.F.type_list_append mt_append (pe_var hN hv hd hcd) (pa_cons hs pa_nil hst) hb hfew hline hst hpl) hsw) fun Dn σ H ⟨g0, g, env, De, Ee, eH, h, hw, k⟩ => by
  subst eH
  obtain ⟨ps, e1, hw⟩ := ownD_inv hw
  obtain ⟨cs, h⟩ := h
  obtain ⟨l, us, c0, q1, q2, q3, q4⟩ := h.own e1
  exact ⟨.ref l, q1, .inl ⟨rfl, us, SqL.of q2⟩, SS.goS (X := X) ⟨cs, h⟩ hw (app_fin e1 q1 k) k.ex⟩
/-- x.extend(e), e a list -/
def lstO : O → Option (List O)
  | .lst os => some os
  | .val (.lst ds) => some (ds.map .val)
  | _ => none
theorem lstO_inv {o : O} {ps : List O} (h : lstO o = some ps) {K : PySem.W.Frag} {g : Gh} (ok : g.Ok) {v : V} {c : List Addr} (r : RO K g.Z g.F g.H v o c) : ∃ b zs c', v = .ref b ∧ g.H b = some (.lst zs) ∧ ROs K g.Z g.F g.H zs ps c' ∧ ∀ x, c'.count x ≤ c.count x := by
  unfold lstO at h
  split at h
  · cases h
    cases r with
    | lst a b => exact ⟨_, _, _, rfl, a, b, fun x => List.count_le_count_cons⟩
  · cases h
    obtain ⟨b, zs, rfl, h1, h2⟩ := r.val_inv.lst_inv
    exact ⟨b, zs, [], rfl, ok.sub _ _ h1, .vals h2, fun x => by simp⟩
  · cases h
def extD (os : List O) (o : O) (Q : List O → Prop) : Prop := ∃ ps, lstO o = some ps ∧ os.length + ps.length ≤ sizeLine ∧ Q (os ++ ps)
def sExt (i : Nat) (w : WE) : WS := fun env D E => ownD env[i]? fun os => evC w env (fun o => extD os o fun os' => D.nx (env.set i (some (.lst os')))) E
def sExtS (i : Nat) (w : WE) : WS := fun env D E => ownD env[i]? fun os => evS w env (fun o => extD os o fun os' => D.nx (env.set i (some (.lst os')))) E
theorem ext_fin {De : DEnds} {Ee : SEX} {Dn : Ends} {l : Addr} {ps : List O} (e : env[i]? = some (some (.lst ps))) (hl : σ[i]? = some (some (.ref l))) (k : Lk X.mg X.K W g0 De Ee Dn) : ∀ v o g1, SS X.K g0 g1 env σ [v] [o] → extD ps o (fun os' => De.nx (env.set i (some (.lst os')))) →
    rExtend (.ref l) [v] g1.H fun _ H1 => Dn.nx σ H1 := fun v o g1 h1 q => by
  obtain ⟨cs, h1⟩ := h1
  obtain ⟨l', us, c0, e1, e2, e3, e4⟩ := h1.own e
  rw [hl] at e1
  obtain rfl : l = l' := by simpa using e1
  obtain ⟨w, ew, rw'⟩ := h1.tmp.one_inv
  obtain rfl : v = w := by simpa using ew
  obtain ⟨qs, q1, q2, q3⟩ := q
  obtain ⟨b, zs, c', rfl, hb, rz, cn⟩ := lstO_inv q1 h1.st.ok rw'
  refine ⟨l, b, us, zs, rfl, rfl, e2, hb, by rw [e4.length, rz.length]; exact q2, k.nx _ _ _ (h1.put (us' := us ++ zs) (vs' := []) (os' := []) (ct := []) e hl e2 e3 (e4.append rz) .nil fun c => ?_) q3⟩
  simp only [List.count_append, List.count_nil, Nat.add_zero]
  have := cn c
  omega
theorem ds_ext (hs : DE X W e w) (hN : X.N[i]? = some x := by rfl) (hv : Vis X.env.scope x := by first | exact Or.inl rfl | exact Or.inr (Or.inl rfl) | exact Or.inr (Or.inr rfl)) (hd : (x == ("__debug__" : Str)) = false := by decide) (hcd : (x == ("__classdict__" : Str)) = false := by decide)
    (hb : attributeBase (.Name x p) "extend" X.env (eval (.Name x p) X.env) = eval (.Name x p) X.env := by rfl)
    (hfew : ((backTo cp (starEach [e] X.env)).all (fun x => !x.1) && (backToKw cp (keywordEach [] X.env)).all (fun x => x.1.isSome) && decide ([e].length + ([] : List Keyword).length + (if ([] : List Keyword).isEmpty then 0 else 1) < 30)) = true := by rfl)
    (hline : (ap.endLine == cp.line) = true := by rfl) (hst : starEach [e] X.env = (false, eval e X.env) :: starEach [] X.env := by rfl) (hpl : (backTo cp (starEach [] X.env)).any (·.1) = false := by rfl) (hsw : swapsWith (.Call (.Attribute (.Name x p) "extend" ap) [e] [] cp) none pos.line X.env = pure false := by rfl) :
    DS X W (.Expr (.Call (.Attribute (.Name x p) "extend" ap) [e] [] cp) pos) (sExt i w) := ps_imp (ps_expr (pe_bm PySem.F.plainAttrs_list PySem.F.slot_list_extend PySem.F.type_list_extend mt_extend (pe_var hN hv hd hcd) (pa_cons hs pa_nil hst) hb hfew hline hst hpl) hsw) fun Dn σ H ⟨g0, g, env, De, Ee, eH, h, hw, k⟩ => by
  subst eH
  obtain ⟨ps, e1, hw⟩ := ownD_inv hw
  obtain ⟨cs, h⟩ := h
  obtain ⟨l, us, c0, q1, q2, q3, q4⟩ := h.own e1
  exact ⟨.ref l, q1, .inl ⟨rfl, us, SqL.of q2⟩, SS.goC (X := X) ⟨cs, h⟩ hw (ext_fin e1 q1 k) k.ex⟩
theorem ds_extS (hs : DE X W e w) (hN : X.N[i]? = some x := by rfl) (hv : Vis X.env.scope x := by first | exact Or.inl rfl | exact Or.inr (Or.inl rfl) | exact Or.inr (Or.inr rfl)) (hd : (x == ("__debug__" : Str)) = false := by decide) (hcd : (x == ("__classdict__" : Str)) = false := by decide)
    (hb : attributeBase (.Name x p) "extend" X.env (eval (.Name x p) X.env) = eval (.Name x p) X.env := by rfl)
    (hfew : ((backTo cp (starEach [e] X.env)).all (fun x => !x.1) && (backToKw cp (keywordEach [] X.env)).all (fun x => x.1.isSome) && decide ([e].length + ([] : List Keyword).length + (if ([] : List Keyword).isEmpty then 0 else 1) < 30)) = true := by rfl)
    (hline : (ap.endLine == cp.line) = true := by rfl) (hst : starEach [e] X.env = (false, eval e X.env) :: starEach [] X.env := by rfl) (hpl : (backTo cp (starEach [] X.env)).any (·.1) = false := by rfl) (hsw : swapsWith (.Call (.Attribute (.Name x p) "extend" ap) [e] [] cp) none pos.line X.env = pure false := by rfl) :
    DS X W (.Expr (.Call (.Attribute (.Name x p) "extend" ap) [e] [] cp) pos) (sExtS i w) := ps_imp (ps_expr (pe_bm PySem.F.plainAttrs_list PySem.F.slot_list_extend PySem.F.type_list_extend mt_extend (pe_var hN hv hd hcd) (pa_cons hs pa_nil hst) hb hfew hline hst hpl) hsw) fun Dn σ H ⟨g0, g, env, De, Ee, eH, h, hw, k⟩ => by
  subst eH
  obtain ⟨ps, e1, hw⟩ := ownD_inv hw
  obtain ⟨cs, h⟩ := h
  obtain ⟨l, us, c0, q1, q2, q3, q4⟩ := h.own e1
  exact ⟨.ref l, q1, .inl ⟨rfl, us, SqL.of q2⟩, SS.goS (X := X) ⟨cs, h⟩ hw (ext_fin e1 q1 k) k.ex⟩
/-- x.pop() -/
def sPop (i : Nat) : WS := fun env D _ => ownD env[i]? fun os => os ≠ [] ∧ D.nx (env.set i (some (.lst os.dropLast)))
/-- y = x.pop() -/
def sSetPop (j i : Nat) : WS := fun env D _ => ownD env[i]? fun os => ∃ ps o, os = ps ++ [o] ∧ j < env.length ∧ D.nx ((env.set i (some (.lst ps))).set j (some o))
theorem pop_own (h : SS X.K g0 g env σ [] []) {ps : List O} {o : O} (e : env[i]? = some (some (.lst (ps ++ [o])))) : ∃ l us y, σ[i]? = some (some (.ref l)) ∧ g.H l = some (.lst us) ∧ us[us.length - 1]? = some y ∧ SS X.K g0 ⟨g.Z, g.F, upd g.H l (.lst us.dropLast)⟩ (env.set i (some (.lst ps))) σ [y] [o] := by
  obtain ⟨cs, h⟩ := h
  obtain ⟨l, us, c0, q1, q2, q3, q4⟩ := h.own e
  obtain ⟨us1, us2, c1, c2, rfl, rfl, r1, r2⟩ := q4.split
  obtain ⟨y, rfl, r3⟩ := r2.one_inv
  refine ⟨l, _, y, q1, q2, by simp, ?_⟩
  rw [List.dropLast_concat]
  refine h.put (ct := c2) e q1 q2 q3 r1 r2 fun c => ?_
  simp only [List.count_append]
  omega
theorem ds_pop (hN : X.N[i]? = some x := by rfl) (hv : Vis X.env.scope x := by first | exact Or.inl rfl | exact Or.inr (Or.inl rfl) | exact Or.inr (Or.inr rfl)) (hd : (x == ("__debug__" : Str)) = false := by decide) (hcd : (x == ("__classdict__" : Str)) = false := by decide)
    (hb : attributeBase (.Name x p) "pop" X.env (eval (.Name x p) X.env) = eval (.Name x p) X.env := by rfl) (hline : (ap.endLine == cp.line) = true := by rfl) (hsw : swapsWith (.Call (.Attribute (.Name x p) "pop" ap) [] [] cp) none pos.line X.env = pure false := by rfl) :
    DS X W (.Expr (.Call (.Attribute (.Name x p) "pop" ap) [] [] cp) pos) (sPop i) := ps_imp (ps_expr (pe_bm0 PySem.F.plainAttrs_list PySem.F.slot_list_pop PySem.F.type_list_pop mt_pop (pe_var hN hv hd hcd) hb hline) hsw) fun Dn σ H ⟨g0, g, env, De, Ee, eH, h, hw, k⟩ => by
  subst eH
  obtain ⟨os, e1, hne, hw⟩ := ownD_inv hw
  rw [← List.dropLast_concat_getLast hne] at e1
  obtain ⟨l, us, y, q1, q2, q3, q4⟩ := pop_own h e1
  exact ⟨.ref l, q1, .inl ⟨rfl, us, SqL.of q2⟩, l, us, y, rfl, rfl, q2, q3, k.nx _ _ _ (SS.drop (X := X) q4) hw⟩
theorem ds_setPop {j : Nat} {y : Str} {py : Pos} (hNd : X.N.Nodup) (hN : X.N[i]? = some x := by rfl) (hv : Vis X.env.scope x := by first | exact Or.inl rfl | exact Or.inr (Or.inl rfl) | exact Or.inr (Or.inr rfl)) (hd : (x == ("__debug__" : Str)) = false := by decide) (hcd : (x == ("__classdict__" : Str)) = false := by decide)
    (hb : attributeBase (.Name x p) "pop" X.env (eval (.Name x p) X.env) = eval (.Name x p) X.env := by rfl) (hline : (ap.endLine == cp.line) = true := by rfl) (hsw : swapsWith (.Call (.Attribute (.Name x p) "pop" ap) [] [] cp) (some (.Name y py)) pos.line X.env = pure false := by rfl)
    (hi : X.N[j]? = some y := by rfl) (hx : Loc X.env.scope y := by first | exact Or.inl rfl | exact Or.inr rfl) (hf : X.fn y = true ∨ X.env.scope.names.lookup y = some .local := by first | exact .inl rfl | exact .inr rfl | assumption) :
    DS X W (.Assign [.Name y py] (.Call (.Attribute (.Name x p) "pop" ap) [] [] cp) pos) (sSetPop j i) := ps_imp (ps_set hNd hi hx (pe_bm0 PySem.F.plainAttrs_list PySem.F.slot_list_pop PySem.F.type_list_pop mt_pop (pe_var hN hv hd hcd) hb hline) hsw hf) fun Dn σ H ⟨g0, g, env, De, Ee, eH, h, hw, k⟩ => by
  subst eH
  obtain ⟨os, e1, ps, o, rfl, hj, hw⟩ := ownD_inv hw
  obtain ⟨l, us, yv, q1, q2, q3, q4⟩ := pop_own h e1
  exact ⟨.ref l, q1, .inl ⟨rfl, us, SqL.of q2⟩, l, us, yv, rfl, rfl, q2, q3, k.nx _ _ _ (q4.set (by simpa using hj)) hw⟩
/-- x[k] = e -/
def sIx (i : Nat) (wi we : WE) : WS := fun env D E => ownD env[i]? fun os => evC we env (fun o => evC wi env (fun k => ∃ n j, k.d = .int n ∧ ixN os.length n = some j ∧ D.nx (env.set i (some (.lst (os.set j o))))) E) E
theorem ixN_lt {n : Nat} {i : Int} {j : Nat} (h : ixN n i = some j) : j < n := (ixN_seq h).2.1
theorem At.int_of {K : PySem.W.Frag} {Z : Zs} {F : Hp} {v : V} {d : D} {n : Int} (h : At K Z F v d) (e : d = .int n) : v = .int n := by subst e; exact h.int_inv
theorem RO.int_of {K : PySem.W.Frag} {Z : Zs} {F H : Hp} {v : V} {o : O} {n : Int} {c : List Addr} (h : RO K Z F H v o c) (e : o.d = .int n) : v = .int n := by
  cases h with
  | val a => exact a.int_of (by simpa using e)
  | lst _ _ => simp at e
  | dctK _ _ => simp at e
  | dctT _ _ => simp at e
/-- x[k] = v behind both -/
theorem ix_fin {De : DEnds} {Ee : SEX} {Dn : Ends} {l : Addr} {ps : List O} (e : env[i]? = some (some (.lst ps))) (hl : σ[i]? = some (some (.ref l))) (k : Lk X.mg X.K W g0 De Ee Dn) {vk v : V} {ok o : O} {g1 : Gh} {n : Int} {j : Nat} (h1 : SS X.K g0 g1 env σ [vk, v] [ok, o])
    (en : ok.d = .int n) (ej : ixN ps.length n = some j) (q : De.nx (env.set i (some (.lst (ps.set j o))))) : rSetL (.ref l) vk v g1.H fun H => Dn.nx σ H := by
  obtain ⟨cs, h1⟩ := h1
  obtain ⟨l', us, c0, e1, e2, e3, e4⟩ := h1.own e
  rw [hl] at e1
  obtain rfl : l = l' := by simpa using e1
  have ht := h1.tmp
  generalize hcn : cs none = cn at ht
  cases ht with
  | cons r t =>
    rename_i c1 c2
    obtain ⟨v', ev, r'⟩ := t.one_inv
    obtain rfl : v = v' := by simpa using ev
    have hj := ixN_lt ej
    obtain ⟨c', r3, cn3⟩ := ROs.set r' j e4 hj
    refine ⟨l, us, n, j, rfl, r.int_of en, e2, by rw [e4.length]; exact ej, k.nx _ _ _ (h1.put (vs' := []) (os' := []) (ct := []) e hl e2 e3 r3 .nil fun c => ?_) q⟩
    have := cn3 c
    rw [hcn]
    simp only [List.count_append, List.count_nil, Nat.add_zero]
    omega
theorem ds_ix (he : DE X W e we) (hi : DE X W ei wi) (hN : X.N[i]? = some x := by rfl) (hv : Vis X.env.scope x := by first | exact Or.inl rfl | exact Or.inr (Or.inl rfl) | exact Or.inr (Or.inr rfl)) (hd : (x == ("__debug__" : Str)) = false := by decide) (hcd : (x == ("__classdict__" : Str)) = false := by decide)
    (ha : ∀ v, assign (.Subscript (.Name x p) ei tp) X.env v = (do
      let ov ← holding [v] (eval (.Name x p) X.env)
      let iv ← holding [v, ov] (eval ei X.env)
      standAt tp
      holding [v, ov, iv] (setItem ov iv v)
      release [v, ov, iv] []) := by intro _; rfl)
    (hs : swapsWithSole [.Subscript (.Name x p) ei tp] e pos.line X.env = pure false := by rfl) (hw : swappedStores [.Subscript (.Name x p) ei tp] e X.env = pure none := by rfl) (h1 : (assignEach [.Subscript (.Name x p) ei tp] X.env).map (·.2) = [assign (.Subscript (.Name x p) ei tp) X.env] := by rfl) :
    DS X W (.Assign [.Subscript (.Name x p) ei tp] e pos) (sIx i wi we) := ps_imp (ps_asg he (pg_sub (pe_var hN hv hd hcd) hi set_list ha) hs hw h1) fun Dn σ H ⟨g0, g, env, De, Ee, eH, h, hw, k⟩ => by
  subst eH
  obtain ⟨ps, e1, hw⟩ := ownD_inv hw
  have hl : ∃ l, σ[i]? = some (some (.ref l)) := by
    obtain ⟨cs, h⟩ := h
    obtain ⟨l, us, c0, q1, _⟩ := h.own e1
    exact ⟨l, q1⟩
  obtain ⟨l, hl⟩ := hl
  refine h.goC hw (fun v o g1 h1 q => ⟨.ref l, hl, ?_⟩) k.ex
  exact h1.goC q (fun vk ok g2 h2 ⟨n, j, en, ej, q⟩ => ix_fin e1 hl k h2 en ej q) k.ex
/-- x op= e, x a name that holds a value -/
def valD (o : Option (Option O)) (Q : D → Prop) : Prop := match o with
  | some (some (.val d)) => Q d
  | _ => False
theorem valD_inv {o : Option (Option O)} {Q : D → Prop} (h : valD o Q) : ∃ d, o = some (some (.val d)) ∧ Q d := by
  unfold valD at h
  split at h
  · exact ⟨_, rfl, h⟩
  · exact h.elim
theorem env_lt {o : O} (e : env[i]? = some (some o)) : i < env.length := (List.getElem?_eq_some_iff.mp e).1
def sAug (i : Nat) (f : D → D → PQ) (w : WE) : WS := fun env D E => valD env[i]? fun d => noLst d = true ∧ evC w env (fun o => f d o.d fun z => z.clean = true ∧ D.nx (env.set i (some z))) E
theorem ds_aug {op : Operator} {r : R2} {f : D → D → PQ} {p' : Pos} (hNd : X.N.Nodup) (ho : OpR X (inplaceOp op) r) (hf : OpD X.K r f) (he : DE X W e w) (hN : X.N[i]? = some x := by rfl) (hx : Loc X.env.scope x := by first | exact Or.inl rfl | exact Or.inr rfl)
    (hfn : X.fn x = true ∨ X.env.scope.names.lookup x = some .local := by first | exact .inl rfl | exact .inr rfl | assumption) : DS X W (.AugAssign (.Name x p') op e pos) (sAug i f w) :=
  ps_imp (ps_aug (ti := fun x y H Q => r x y H Q) hNd hN hx he (fun pins s σ H x y v u Q I rx ry h => ho pins s σ H x y v u Q I rx ry h) hfn) fun Dn σ H ⟨g0, g, env, De, Ee, eH, h, hw, k⟩ => by
  subst eH
  obtain ⟨d, e1, nl, hw⟩ := valD_inv hw
  have hv : ∃ v, σ[i]? = some (some v) ∧ At X.K g.Z g.F v d := by
    obtain ⟨cs, h⟩ := h
    obtain ⟨v, q1, q2⟩ := h.slot i _ e1
    exact ⟨v, q1, q2.val_inv⟩
  obtain ⟨v, hv, av⟩ := hv
  refine ⟨v, hv, h.goC hw (fun y o g1 h1 q => ?_) k.ex⟩
  obtain ⟨cs, h1⟩ := h1
  -- the operator sees all frozen
  obtain ⟨v', q1, q2⟩ := h1.slot i _ e1
  rw [hv] at q1
  obtain rfl : v = v' := by simpa using q1
  obtain ⟨w', ew, rw'⟩ := h1.tmp.one_inv
  obtain rfl : y = w' := by simpa using ew
  have up := thaw_up (H := g1.H) h1.fz
  refine hf ⟨g1.Z, thaw g1.F g1.H (cells cs), g1.H⟩ v y d o.d _ _ (h1.st.ok.thaw h1.nz) (q2.val_inv.mono up fun _ z => z) (rw'.at_ up fun c m => thaw_in ⟨_, m⟩) q fun z oz g2 s2 r2 qz => ?_
  obtain ⟨hc, hn⟩ := qz
  have h3 := h1.resC s2 r2 hc
  exact k.nx ⟨g2.Z, untw g2.F (cells cs), g2.H⟩ _ _ (SS.drop (X := X) (h3.set (env_lt e1))) hn

def evA (w : WA) (env : SEnv) (Q : List O → Prop) (E : SEX) : Prop := w (view env) (fun os => O.cleans os = true ∧ Q os) (fun x => x.clean = true ∧ E x env)
theorem SS'.resA {g1 : Gh} {cs : Option Nat → List Addr} (h : SS' X.K g0 g env σ [] [] cs) {vs : List V} {os : List O} (s : Step ⟨g.Z, thaw g.F g.H (cells cs), g.H⟩ g1) (r : RRs X.K ⟨g.Z, thaw g.F g.H (cells cs), g.H⟩ g1 vs os) (cl : O.cleans os = true) :
    SS X.K g0 ⟨g1.Z, untw g1.F (cells cs), g1.H⟩ env σ vs os := by
  obtain ⟨ds, r, nd, hc⟩ := r
  have h2 := h.step (h.back s)
  have cn : cs none = [] := by
    have := h.tmp
    generalize cs none = c at this
    cases this
    rfl
  have ap : ∀ j, ∀ c ∈ ds, c ∉ cs j := fun j c m m' => by
    obtain ⟨_, _, _, u, hu, _⟩ := h.fr j c m'
    have e2 : g.H c = none := (hc c m).2.1
    rw [e2] at hu; cases hu
  refine ⟨fun j => match j with | none => ds | some i => cs (some i), h2.st, h2.len, h2.slot, ROs.strip (h.tups s) r cl, fun j c m => ?_, fun j => ?_, fun j j' c m m' => ?_⟩
  · cases j with
    | some i => exact h2.fr _ c m
    | none =>
      refine ⟨?_, h.st.none_ (hc c m).2.1, (hc c m).2.2, r.there c m⟩
      show untw g1.F (cells cs) c = none
      rw [untw_out fun ⟨j, mj⟩ => ap j c m mj]
      exact (hc c m).1
  · cases j with
    | some i => exact h.nd _
    | none => exact nd
  · cases j with
    | none =>
      cases j' with
      | none => rfl
      | some i' => exact absurd m' (ap _ c m)
    | some i =>
      cases j' with
      | none => exact absurd m (ap _ c m')
      | some i' => exact h.dj _ _ c m m'
theorem SS.goA {Ee : SEX} {Qd : List O → Prop} {Q : List V → Hp → Prop} (h : SS X.K g0 g env σ [] []) (hw : evA ws env Qd Ee) (k : ∀ vs os g1, SS X.K g0 g1 env σ vs os → Qd os → Q vs g1.H) (kx : EL X W g0 Ee) : LA X W ws σ g.H Q := by
  obtain ⟨cs, h⟩ := h
  refine LA.goO (g := ⟨g.Z, thaw g.F g.H (cells cs), g.H⟩) h.es hw (fun vs os g1 s r q => ?_) fun x cls dd g1 s r q => ?_
  · exact k vs os ⟨g1.Z, untw g1.F (cells cs), g1.H⟩ (h.resA s r q.1) q.2
  · exact kx ⟨g1.Z, untw g1.F (cells cs), g1.H⟩ env σ x cls dd ⟨cs, h.step (h.back s)⟩ (r.back h s q.1) q.2
def sPar (is : List Nat) (ws : WA) : WS := fun env D E => evA ws env (fun os => os.length = is.length ∧ (∀ i ∈ is, i < env.length) ∧ D.nx ((is.zip os).foldl (fun env p => env.set p.1 (some p.2)) env)) E
theorem ds_par {j : Nat} {y : Str} {px py pt : Pos} {kt k2 : Nat} {pt2 : Pos} (hc : X.calm = true) (hN : X.N.Nodup) (ha : DA X W [a, b] ws) (hi : X.N[i]? = some x := by rfl) (hj : X.N[j]? = some y := by rfl) (hij : i ≠ j := by decide)
    (hx : X.env.scope.names.lookup x = some .local := by rfl) (hy : X.env.scope.names.lookup y = some .local := by rfl)
    (hw : swappedStores [.Tuple [.Name x px, .Name y py] kt pt] (.Tuple [a, b] k2 pt2) X.env = pure (some [x, y]) := by rfl)
    (hs : swapsWithSole [.Tuple [.Name x px, .Name y py] kt pt] (.Tuple [a, b] k2 pt2) pos.line X.env = pure false := by rfl) :
    DS X W (.Assign [.Tuple [.Name x px, .Name y py] kt pt] (.Tuple [a, b] k2 pt2) pos) (sPar [i, j] ws) := ps_imp (ps_par hc hN hi hj hij hx hy ha hw hs) fun Dn σ H ⟨g0, g, env, De, Ee, eH, h, hw, k⟩ => by
  subst eH
  refine h.goA hw (fun vs os g1 h1 q => ?_) k.ex
  obtain ⟨q1, q2, q3⟩ := q
  match os, q1, h1, q3 with
  | [o1, o2], _, h1, q3 =>
    have hl : vs.length = 2 := by
      obtain ⟨cs, h1⟩ := h1
      exact h1.tmp.length
    match vs, hl, h1 with
    | [v1, v2], _, h1 => exact ⟨v1, v2, rfl, k.nx g1 _ _ ((h1.set (q2 i (by simp))).set (by simpa using q2 j (by simp))) q3⟩
theorem ds_par3 {j l : Nat} {y z : Str} {c : Expr} {px py pz pt : Pos} {kt k2 : Nat} {pt2 : Pos} (hc : X.calm = true) (hN : X.N.Nodup) (ha : DA X W [a, b, c] ws) (hi : X.N[i]? = some x := by rfl) (hj : X.N[j]? = some y := by rfl) (hl : X.N[l]? = some z := by rfl) (hij : i ≠ j := by decide) (hil : i ≠ l := by decide) (hjl : j ≠ l := by decide)
    (hx : X.env.scope.names.lookup x = some .local := by rfl) (hy : X.env.scope.names.lookup y = some .local := by rfl) (hz : X.env.scope.names.lookup z = some .local := by rfl)
    (hw : swappedStores [.Tuple [.Name x px, .Name y py, .Name z pz] kt pt] (.Tuple [a, b, c] k2 pt2) X.env = pure (some [x, y, z]) := by rfl)
    (hs : swapsWithSole [.Tuple [.Name x px, .Name y py, .Name z pz] kt pt] (.Tuple [a, b, c] k2 pt2) pos.line X.env = pure false := by rfl) :
    DS X W (.Assign [.Tuple [.Name x px, .Name y py, .Name z pz] kt pt] (.Tuple [a, b, c] k2 pt2) pos) (sPar [i, j, l] ws) := ps_imp (ps_par3 hc hN hi hj hl hij hil hjl hx hy hz ha hw hs) fun Dn σ H ⟨g0, g, env, De, Ee, eH, h, hw, k⟩ => by
  subst eH
  refine h.goA hw (fun vs os g1 h1 q => ?_) k.ex
  obtain ⟨q1, q2, q3⟩ := q
  match os, q1, h1, q3 with
  | [o1, o2, o3], _, h1, q3 =>
    have hl : vs.length = 3 := by
      obtain ⟨cs, h1⟩ := h1
      exact h1.tmp.length
    match vs, hl, h1 with
    | [v1, v2, v3], _, h1 => exact ⟨v1, v2, v3, rfl, k.nx g1 _ _ (((h1.set (q2 i (by simp))).set (by simpa using q2 j (by simp))).set (by simpa using q2 l (by simp))) q3⟩
/-- a, b = x, y by way of the pair itself (captured names) -/
theorem tgs_par {K : PySem.W.Frag} {Q : L2.St → Hp → Prop} : ∀ (is : List Nat) {vs : List V} {os : List O} {env : SEnv} {σ : L2.St}, SS K g0 g env σ vs os → os.length = is.length → (∀ i ∈ is, i < env.length) →
    (∀ σ', SS K g0 g ((is.zip os).foldl (fun env p => env.set p.1 (some p.2)) env) σ' [] [] → Q σ' g.H) → vs.length = is.length ∧ tgPs K (is.map Pat.nm) vs σ g.H Q
  | [], vs, os, env, σ, h, hl, hi, k => by
    have hv : vs.length = os.length := by
      obtain ⟨cs, h⟩ := h
      exact h.tmp.length
    cases os with
    | cons o os => simp at hl
    | nil =>
      cases vs with
      | cons v vs => simp at hv
      | nil =>
        simp only [List.map_nil, tgPs]
        exact ⟨rfl, rfl, k _ h⟩
  | i :: is, vs, os, env, σ, h, hl, hi, k => by
    have hv : vs.length = os.length := by
      obtain ⟨cs, h⟩ := h
      exact h.tmp.length
    cases os with
    | nil => simp at hl
    | cons o os =>
      cases vs with
      | nil => simp at hv
      | cons v vs =>
        obtain ⟨h1, h2⟩ := tgs_par is (h.set (hi i (by simp))) (by simpa using hl) (fun j m => by simpa using hi j (by simp [m])) k
        simp only [List.map_cons, tgPs, tgP]
        exact ⟨by simp [h1], v, vs, rfl, h2⟩
theorem ds_parT {tgs : List Expr} {k1 k2 : Nat} {p1 p2 : Pos} {is : List Nat} (hc : X.calm = true) (ha : DA X W es ws) (hg : DGs X tgs (is.map .nm)) (hn : (assignEach tgs X.env).length = is.length := by rfl) (hst : (assignEach tgs X.env).findIdx? (·.1) = none := by rfl) (hz : is.length ≤ 100 := by decide)
    (hs : swapsWithSole [.Tuple tgs k1 p1] (.Tuple es k2 p2) pos.line X.env = pure false := by rfl) (hw : swappedStores [.Tuple tgs k1 p1] (.Tuple es k2 p2) X.env = pure none := by rfl) (h1 : (assignEach [.Tuple tgs k1 p1] X.env).map (·.2) = [assign (.Tuple tgs k1 p1) X.env] := by rfl) :
    DS X W (.Assign [.Tuple tgs k1 p1] (.Tuple es k2 p2) pos) (sPar is ws) := ps_imp (ps_asg (pe_tup ha) (pg_tup hc hg hn hst) hs hw h1) fun Dn σ H ⟨g0, g, env, De, Ee, eH, h, hw, k⟩ => by
  subst eH
  show LA X W ws σ g.H fun vs H1 => vs.length ≤ sizeLine ∧ ∀ p, H1 p = none → gTup X.K is.length (tgPs X.K (is.map .nm)) (.ref p) σ (upd H1 p (.tup vs)) Dn.nx
  refine h.goA hw (fun vs os g1 h1 q => ?_) k.ex
  obtain ⟨q1, q2, q3⟩ := q
  have hv : vs.length = os.length := by
    obtain ⟨cs, h1⟩ := h1
    exact h1.tmp.length
  refine ⟨by rw [hv, q1]; exact Nat.le_trans hz (by rw [sizeLine_eq]; decide), fun p n => ?_⟩
  have h2 : SS X.K g0 ⟨g1.Z, g1.F, upd g1.H p (.tup vs)⟩ env σ vs os := by
    obtain ⟨cs, h1⟩ := h1
    exact ⟨cs, h1.step (Step.laid h1.st.ok n)⟩
  obtain ⟨h3, h4⟩ := tgs_par (Q := fun σ' H' => Dn.nx σ' H') is h2 q1 q2 fun σ' h' => k.nx _ _ _ h' q3
  exact ⟨p, vs, rfl, SqT.of upd_same, h3, h4⟩
/-- a, b = e -/
def sAsgP (p : Pat) (w : WE) : WS := fun env D E => evC w env (fun o => noLst o.d = true ∧ ∃ env', p.bind O.val o.d env = some env' ∧ D.nx env') E
def sAsgPS (p : Pat) (w : WE) : WS := fun env D E => evS w env (fun o => ∃ env', p.bind O.val o.d env = some env' ∧ D.nx env') E
theorem RO.nolst {K : PySem.W.Frag} {Z : Zs} {F H : Hp} {v : V} {o : O} {c : List Addr} (h : RO K Z F H v o c) (n : noLst o.d = true) : At K Z F v o.d := by
  cases h with
  | val a => simpa using a
  | lst _ _ => simp at n
  | dctK _ _ => simp at n
  | dctT _ _ => simp at n
theorem ds_asgP {pt : Pat} {tg : Expr} (he : DE X W e w) (hg : DG X tg pt) (hs : swapsWithSole [tg] e pos.line X.env = pure false := by rfl) (hw : swappedStores [tg] e X.env = pure none := by rfl) (h1 : (assignEach [tg] X.env).map (·.2) = [assign tg X.env] := by rfl) : DS X W (.Assign [tg] e pos) (sAsgP pt w) :=
  ps_imp (ps_asg he hg hs hw h1) fun Dn σ H ⟨g0, g, env, De, Ee, eH, h, hw, k⟩ => by
  subst eH
  refine h.goC hw (fun v o g1 h1 q => ?_) k.ex
  obtain ⟨nl, env', hb, hn⟩ := q
  have a : At X.K g1.Z g1.F v o.d := by
    obtain ⟨cs, h1⟩ := h1
    obtain ⟨w', ew, r⟩ := h1.tmp.one_inv
    obtain rfl : v = w' := by simpa using ew
    exact r.nolst nl
  exact tgP_ss pt (SS.drop (X := X) h1) a hb fun σ' h' => k.nx _ _ _ h' hn
theorem ds_asgPS {pt : Pat} {tg : Expr} (he : DE X W e w) (hg : DG X tg pt) (hs : swapsWithSole [tg] e pos.line X.env = pure false := by rfl) (hw : swappedStores [tg] e X.env = pure none := by rfl) (h1 : (assignEach [tg] X.env).map (·.2) = [assign tg X.env] := by rfl) : DS X W (.Assign [tg] e pos) (sAsgPS pt w) :=
  ps_imp (ps_asg he hg hs hw h1) fun Dn σ H ⟨g0, g, env, De, Ee, eH, h, hw, k⟩ => by
  subst eH
  obtain ⟨cs, h⟩ := h
  refine LE.go (R := fun d => ∃ env', pt.bind O.val d env = some env' ∧ De.nx env') h.esv hw (fun v d g1 s1 a q => ?_) fun x cls dd g1 s r q => k.ex g1 env σ x cls dd ⟨cs, h.step s⟩ r q
  obtain ⟨env', hb, hn⟩ := q
  exact tgP_ss pt (g := g1) ⟨cs, h.step s1⟩ a hb fun σ' h' => k.nx _ _ _ h' hn
end
end DL
/-! DPrim -/
namespace DL
open PySem PySem.Spec PyProof.Rows L2
section
variable {prog : Program} {w : World} {A : Around} {E : Value → Shared → Prop} {s : Shared}
theorem revPlaces (n : Nat) : Builtin.Slice.slicePlaces ((n : Int) - 1) (-1) (-1) = n := by
  unfold Builtin.Slice.slicePlaces
  rw [if_neg (by decide)]
  by_cases h : n = 0
  · subst h; decide
  · rw [if_pos (by omega)]
    have e : ((n : Int) - 1 - -1 - 1) / (- -1) + 1 = (n : Int) := by
      rw [show (- -1 : Int) = 1 by decide, Int.ediv_one]
      omega
    rw [e]
    exact Int.toNat_natCast n
theorem sliceRev {sl : Addr} {vl vu vk : Value} {n : Nat} {Q : Int × Int × Nat → Shared → Prop} (hs : s.heap.IsSliceOf sl vl vu vk) (pl : IsPart vl none) (pu : IsPart vu none) (pk : IsPart vk (some (-1)))
    (h : Q ((n : Int) - 1, -1, n) s) : wpAny (model prog w) A (Builtin.Slice.sliceApplied (.ref sl) (pure (n : Int))) Q E s := by
  obtain ⟨os, hos, hcs, hds⟩ := id hs
  unfold Builtin.Slice.sliceApplied Builtin.Slice.sliceFields
  refine wpAny_bind (wpAny_bind (wpAny_field hos hds (x := vl) rfl (wpAny_bind (wpAny_field hos hds (x := vu) rfl (wpAny_bind (wpAny_field hos hds (x := vk) rfl (wpAny_pure ?_)))))))
  refine wpAny_bind (HT.slicePart_ pk ?_)
  show wpAny _ _ (if ((-1 : Int) == 0) = true then _ else _) _ _ s
  rw [if_neg (by decide)]
  refine wpAny_bind (HT.slicePart_ pl (wpAny_bind (HT.slicePart_ pu (wpAny_bind (wpAny_pure ?_)))))
  show wpAny _ _ (pure ((n : Int) - 1, (-1 : Int), Builtin.Slice.slicePlaces ((n : Int) - 1) (-1) (-1))) _ _ s
  rw [revPlaces]
  exact wpAny_pure h
theorem pickRev (xs : Array Value) : ((List.range xs.size).filterMap fun (m : Nat) => xs[((xs.size : Int) - 1 + (m : Int) * -1).toNat]?).toArray = xs.toList.reverse.toArray := by
  congr 1
  have key : ∀ n, n ≤ xs.size → (List.range n).filterMap (fun (m : Nat) => xs[((xs.size : Int) - 1 + (m : Int) * -1).toNat]?) = (xs.toList.drop (xs.size - n)).reverse := by
    intro n
    induction n with
    | zero => intro _; simp
    | succ n ih =>
      intro h
      rw [List.range_succ, List.filterMap_append, ih (by omega)]
      have e : (((xs.size : Int) - 1 + (n : Int) * -1).toNat) = xs.size - (n + 1) := by omega
      have hlt : xs.size - (n + 1) < xs.toList.length := by simp; omega
      have hd : xs.toList.drop (xs.size - (n + 1)) = xs.toList[xs.size - (n + 1)] :: xs.toList.drop (xs.size - n) := by
        rw [List.drop_eq_getElem_cons hlt]
        congr 2
        omega
      rw [hd, List.reverse_cons]
      congr 1
      simp only [List.filterMap_cons, List.filterMap_nil, e]
      have hlt' : xs.size - (n + 1) < xs.size := by omega
      rw [Array.getElem?_eq_getElem hlt']
      simp
  have := key xs.size (Nat.le_refl _)
  rw [Nat.sub_self, List.drop_zero] at this
  exact this
theorem getRev {t sl : Addr} {items : Array Value} {vl vu vk : Value} {Q : Value → Shared → Prop} (ht : IsTup s.heap t items) (hs : s.heap.IsSliceOf sl vl vu vk) (pl : IsPart vl none) (pu : IsPart vu none) (pk : IsPart vk (some (-1)))
    (h : Q (.ref s.heap.objs.size) { s with heap := s.heap.push { cls := .type "tuple", data := .seq items.toList.reverse.toArray } }) (hz : items.size ≤ sizeLine) : wpAny (model prog w) A (getItem (.ref t) (.ref sl)) Q E s := by
  obtain ⟨os, hos, hcs, hds⟩ := id hs
  have hT : s.TypeIs (.ref sl) "slice" := ⟨os, hos, hcs⟩
  have hk : sizeOk (.seq items.toList.reverse.toArray) := by
    show items.toList.reverse.toArray.size ≤ sizeLine
    simpa using hz
  unfold getItem
  try with_reducible refine wpAny_holding ?_
  first | refine wpAny_bind (wpAny_pure ?_) | skip
  refine wpAny_bind (wpAny_sequenceKey ht.typeIs (by decide) (wpAny_bind (wpAny_callSpecial?_slot (name := Str.ofString "__getitem__") ht.typeIs PyProof.Rows.slot_tuple_getitem (wpAny_call_entry PyProof.Rows.slot_tuple_getitem ht.typeIs entry_tuple_getitem ?_ (args_tuple_getitem _ _)))))
  show wpAny _ _ (Builtin.Tuple.tupleItemsOf (.ref t) >>= _) _ _ s
  refine wpAny_bind (tupleItemsOf_ ht (wpAny_bind (wpAny_typeOf hT ?_)))
  rw [if_pos (by decide)]
  refine wpAny_bind (sliceRev hs pl pu pk ?_)
  show wpAny _ _ (if ((items.size : Int) - 1 == 0 && (-1 : Int) == 1 && items.size == items.size) = true then _ else _) _ _ s
  rw [if_neg (by rw [show ((-1 : Int) == 1) = false by decide, Bool.and_false, Bool.false_and]; decide), pickRev]
  first
    | exact wpAny_bind (m := Builtin.Tuple.tupleExact _) (wpAny_newObj_type (wpAny_pure ⟨_, rfl, wpAny_pure h⟩) hk)
    | exact wpAny_bind (m := Builtin.Tuple.tupleExact _) (wpAny_newObj_type (wpAny_bind (wpAny_pure (wpAny_pure ⟨_, rfl, wpAny_pure h⟩))) hk)
    | exact wpAny_bind (wpAny_bind (m := Builtin.Tuple.tupleExact _) (wpAny_newObj_type (wpAny_pure (wpAny_pure ⟨_, rfl, wpAny_pure h⟩)) hk))
    | exact wpAny_bind (wpAny_bind (m := Builtin.Tuple.tupleExact _) (wpAny_newObj_type (wpAny_pure ⟨_, rfl, wpAny_pure h⟩) hk))
end
section
variable {X : Cx} {W : WX} {w : WE} {e a : Expr} {pos p2 p3 : Pos}
/-- e[::-1] of a tuple or a list -/
def tRevA (K : PySem.W.Frag) (te : TE) : TE := fun σ H Q => te σ H fun x H1 => (∃ a xs, x = .ref a ∧ SqL K H1 a xs ∧ ∀ p, H1 p = none → Q (.ref p) (upd H1 p (.lst xs.reverse))) ∨ ∃ a xs, x = .ref a ∧ SqT K H1 a xs ∧ ∀ p, H1 p = none → Q (.ref p) (upd H1 p (.tup xs.reverse))
theorem pe_revA {e : Expr} {te : TE} {k : Nat} {p1 : Pos} (he : PE X e te) : PE X (.Subscript e (.Slice none none (some (.UnaryOp .USub (.Constant (.int 1) k p1) p2)) p3) pos) (tRevA X.K te) := by
  refine ⟨fun pins s σ H Q I h => Subscript_ (thn (he.run pins s σ H _ I h) fun v s1 ⟨x, H1, I1, r1, q1⟩ => ?_)⟩
  have part : PO X (some (.UnaryOp .USub (.Constant (.int 1) k p1) p2)) (tPart (tUn (rU fun i => .int (-i)) (tC (.int 1)))) := po_some (pe_un un_neg pe_int)
  refine wpAny_Slice (thn (po_none.run pins s1 σ H1 (fun o H2 => o = none ∧ H2 = H1) I1 ⟨rfl, rfl⟩) fun vl s2 ⟨l, H2, I2, pl, el, e2⟩ => ?_)
  subst el e2
  refine thn (po_none.run pins s2 σ H2 (fun o H3 => o = none ∧ H3 = H2) I2 ⟨rfl, rfl⟩) fun vu s3 ⟨u, H3, I3, pu, eu, e3⟩ => ?_
  subst eu e3
  refine thn (part.run pins s3 σ H3 (fun o H4 => o = some (-1) ∧ H4 = H3) I3 ⟨1, rfl, -1, rfl, rfl, rfl⟩) fun vk s4 ⟨o, H4, I4, pk, eo, e4⟩ => ?_
  subst eo e4
  have I5 : Inv X pins σ H4 { s4 with heap := s4.heap.push { cls := .type "slice", data := .fields #[vl, vu, vk] } } := I4.kept (t' := s4.toks) fun b ob q => Heap.get?_push_of_some _ q
  rcases q1 with ⟨a, xs, ex, hx, q⟩ | ⟨a, xs, ex, hx, q⟩
  · rw [ex] at r1
    obtain rfl : v = Value.ref a := r1
    obtain ⟨its, r, ht, hz⟩ := I5.list hx
    have hl := r.length
    show wpAny (model X.prog X.w) X.A (subscriptTail e (.Slice none none (some (.UnaryOp .USub (.Constant (.int 1) k p1) p2)) p3) (.ref a) (.ref s4.heap.objs.size)) _ X.xe { s4 with heap := s4.heap.push { cls := .type "slice", data := .fields #[vl, vu, vk] } }
    refine tail_any (ops := [.ref a, .ref s4.heap.objs.size]) ht.isList.typeIs (PySem.slot_list_getitem.lookup) (wpAny_getItem_list_slice ht.isList (Heap.IsSliceOf.new _ vl vu vk) pl pu pk (by decide) ?_ (by rw [List.size_toArray]; omega)) (by with_unfolding_all rfl)
    rw [PySem.W.krv_pick]
    refine ⟨.ref _, _, I5.laid (t' := s4.toks) (o := .lst xs.reverse) (fun b ob q => Heap.get?_push_of_some _ q) (Nat.le_refl _) ?_, rfl, q _ (I5.hok.fresh (Nat.le_refl _))⟩
    exact ⟨by simpa using hz, its.reverse, 0, r.reverse, Heap.get?_push_size _ rfl⟩
  · rw [ex] at r1
    obtain rfl : v = Value.ref a := r1
    obtain ⟨its, r, ht, hz⟩ := I5.tuple hx
    have hl := r.length
    show wpAny (model X.prog X.w) X.A (subscriptTail e (.Slice none none (some (.UnaryOp .USub (.Constant (.int 1) k p1) p2)) p3) (.ref a) (.ref s4.heap.objs.size)) _ X.xe { s4 with heap := s4.heap.push { cls := .type "slice", data := .fields #[vl, vu, vk] } }
    refine tail_any (ops := [.ref a, .ref s4.heap.objs.size]) ht.typeIs (PyProof.Rows.slot_tuple_getitem.lookup) (getRev ht (Heap.IsSliceOf.new _ vl vu vk) pl pu pk ?_ (by rw [List.size_toArray]; omega)) (by with_unfolding_all rfl)
    refine ⟨.ref _, _, I5.laid (t' := s4.toks) (o := .tup xs.reverse) (fun b ob q => Heap.get?_push_of_some _ q) (Nat.le_refl _) ?_, rfl, q _ (I5.hok.fresh (Nat.le_refl _))⟩
    exact ⟨by simpa using hz, its.reverse, r.reverse, IsTup.new _ _⟩
def revD : D → PQ
  | .lst ds => fun Q => Q (.lst (ds.reverse.map .val))
  | .tup ds => fun Q => Q (.val (.tup ds.reverse))
  | _ => fun _ => False
theorem de_rev {k : Nat} {p1 : Pos} (he : DE X W e w) : DE X W (.Subscript e (.Slice none none (some (.UnaryOp .USub (.Constant (.int 1) k p1) p2)) p3) pos) (eUn revD w) := pe_imp (pe_revA he) fun σ H Q ⟨g, env, Qd, Ed, eH, es, h, k, kx⟩ => by
  subst eH
  refine LE.go (R := fun d => revD d Qd) es h (fun v d g1 s1 a1 h1 => ?_) kx
  unfold revD at h1
  split at h1
  · obtain ⟨p, vs, rfl, hp, as⟩ := a1.lst_inv
    exact .inl ⟨p, vs, rfl, SqL.of (s1.ok.sub _ _ hp), fun q n => (QL.on k s1) _ _ _ (Step.laid s1.ok n) (RR.newL s1.ok n as.rev) h1⟩
  · obtain ⟨p, vs, rfl, hp, as⟩ := a1.tup_inv
    exact .inr ⟨p, vs, rfl, s1.ok.sub.sqT hp, fun q n => (QL.on k s1) _ _ _ (Step.laidF s1.ok n) (RR.newT s1.ok n as.rev) h1⟩
  · exact h1.elim
/-- reversed(e) walked -/
theorem itok_rev {K : PySem.W.Frag} {g : Gh} {a : Addr} {vs : List V} {ds : List D} (h : g.F a = some (.lst vs)) (as : Ats K g.Z g.F vs ds) : ItOk K g (Itv K a vs.length) ds.reverse := by
  have q : ∀ g', Grow g g' → SqL K g'.H a vs := fun g' s => SqL.of (s.ok.sub _ _ (s.up _ _ h))
  have ix : ∀ (i : Nat) (v : V), vs.reverse[i]? = some v → i < vs.length ∧ vs[vs.length - 1 - i]? = some v := fun i v e => by
    have hl := (List.getElem?_eq_some_iff.mp e).1
    simp only [List.length_reverse] at hl
    rw [List.getElem?_reverse hl] at e
    exact ⟨hl, e⟩
  refine .same as.rev (fun g' s i v e => ⟨(ix i v e).1, vs, v, q g' s, (ix i v e).2⟩) (fun g' s i v x H' e y => ⟨y.1, Option.some.inj ((y.2 vs (q g' s)).symm.trans (ix i v e).2)⟩) fun g' s i h => ?_
  rw [List.length_reverse] at h
  exact h
theorem itok_revT {K : PySem.W.Frag} {g : Gh} {a : Addr} {vs : List V} {ds : List D} (h : SqT K g.F a vs) (as : Ats K g.Z g.F vs ds) : ItOk K g (RT.ItvT K a vs.length) ds.reverse := by
  have q : ∀ g', Grow g g' → SqT K g'.H a vs := fun g' s => s.ok.sub.sqT (s.up.sqT h)
  have ix : ∀ (i : Nat) (v : V), vs.reverse[i]? = some v → i < vs.length ∧ vs[vs.length - 1 - i]? = some v := fun i v e => by
    have hl := (List.getElem?_eq_some_iff.mp e).1
    simp only [List.length_reverse] at hl
    rw [List.getElem?_reverse hl] at e
    exact ⟨hl, e⟩
  refine .same as.rev (fun g' s i v e => ⟨(ix i v e).1, vs, v, q g' s, (ix i v e).2⟩) (fun g' s i v x H' e y => ⟨y.1, Option.some.inj ((y.2 vs (q g' s)).symm.trans (ix i v e).2)⟩) fun g' s i h => ?_
  rw [List.length_reverse] at h
  exact h
def iRevD (w : WE) : WI := fun env Q E => w env (fun o => itemsD o.d fun ds => Q ds.reverse) E
theorem di_rev {tg : Expr} {p : Pos} (hm : X.mg "reversed" = none) (he : DE X W e w) (hg : Gl X "reversed" := by rfl) (hs : starEach [e] X.env = (false, eval e X.env) :: starEach [] X.env := by rfl) : DI X W tg (.Call (.Name "reversed" p) [e] [] pos) (iRevD w) := pi_imp (RT.pi_revA hg hm he hs) fun σ H R ⟨g, env, Qd, Ed, eH, es, hw, k, kx⟩ => by
  subst eH
  refine LE.go (R := fun d => itemsD d fun ds => Qd ds.reverse) es hw (fun v d g1 s1 a1 h1 => ?_) kx
  unfold itemsD at h1
  split at h1
  · obtain ⟨p, vs, rfl, hp, as⟩ := a1.tup_inv
    exact ⟨p, vs, rfl, .inr ⟨s1.ok.sub.sqT hp, k _ _ g1 s1 (itok_revT hp as) h1⟩⟩
  · obtain ⟨p, vs, rfl, hp, as⟩ := a1.lst_inv
    exact ⟨p, vs, rfl, .inl ⟨SqL.of (s1.ok.sub _ _ hp), k _ _ g1 s1 (itok_rev hp as) h1⟩⟩
  · exact h1.elim
end

section
variable {X : Cx} {K : PySem.W.Frag}
theorem tuple_mul1 (l : Addr) (items : Array Value) (n : Nat) (dd : Option Addr) (sl : Array (Option Value)) (u : Tok) :
    Meets (Builtin.«tuple.__mul__» ⟨[.ref l, .int 1 u], []⟩) (fun _ R s => s.heap.get? l = some { cls := .type "tuple", dict := dd, data := .seq items n, slots := sl } ∧ R (.ok (.ret (Value.ref l))) s) :=
  .of_wp fun prog w A R s h => by
    obtain ⟨hp, g, d, tk, os⟩ := s
    obtain ⟨hl, h⟩ := h
    have f1 := AutoSeq1.idx_int
    wp_walk using wpAny_loadPart' hl
    repeat (first
      | (refine wpAny_ite_false (decide_eq_false (by simp)) ?_; wp_walk using wpAny_loadPart' hl)
      | (refine wpAny_ite_true (decide_eq_true (by simp)) ?_; wp_walk using wpAny_loadPart' hl))
    exact ⟨_, rfl, h⟩
theorem tuple_mul0 (l : Addr) (items : Array Value) (n : Nat) (dd : Option Addr) (sl : Array (Option Value)) (x : Int) (u : Tok) (h0 : x ≤ 0) (h1 : -(2 ^ 63) ≤ x) (hne : items.isEmpty = false) :
    Meets (Builtin.«tuple.__mul__» ⟨[.ref l, .int x u], []⟩) (fun _ R s => s.heap.get? l = some { cls := .type "tuple", dict := dd, data := .seq items n, slots := sl } ∧
      R (.ok (.ret (Value.ref s.heap.objs.size))) { s with heap := s.heap.push { cls := Value.type "tuple", data := Data.seq #[] } }) :=
  .of_wp fun prog w A R s h => by
    obtain ⟨hp, g, d, tk, os⟩ := s
    obtain ⟨hl, h⟩ := h
    have f1 := AutoSeq1.idx_int
    have c0 : (decide (x < -(2 ^ 63)) || decide (x ≥ 2 ^ 63)) = false := by rw [decide_eq_false (by omega), decide_eq_false (by omega)]; rfl
    have c1 : (items.isEmpty || x == 1) = false := by rw [hne, Bool.false_or]; exact beq_eq_false_iff_ne.mpr (by omega)
    have c2 : (decide (x ≤ 0) || items.isEmpty) = true := by rw [decide_eq_true h0]; rfl
    wp_walk using wpAny_loadPart' hl
    repeat (first
      | (refine wpAny_ite_false (decide_eq_false (by rw [c0]; exact Bool.false_ne_true)) ?_; wp_walk using wpAny_loadPart' hl)
      | (refine wpAny_ite_false (decide_eq_false (by rw [c1]; exact Bool.false_ne_true)) ?_; wp_walk using wpAny_loadPart' hl)
      | (refine wpAny_ite_true (decide_eq_true c2) ?_; wp_walk using wpAny_loadPart' hl)
      | (refine wpAny_ite_false (decide_eq_false (by simp [sizeLine_eq])) ?_; wp_walk using wpAny_loadPart' hl))
    exact ⟨_, rfl, h⟩
end
end DL
/-! DPrim2 -/
namespace DL
open PySem PySem.Spec PyProof.Rows L2
section
variable {X : Cx} {K : PySem.W.Frag}
theorem tuple_mulE (l : Addr) (items : Array Value) (n : Nat) (dd : Option Addr) (sl : Array (Option Value)) (x : Int) (u : Tok) (h0 : -(2 ^ 63) ≤ x) (h1 : x < 2 ^ 63) (he : items.isEmpty = true) :
    Meets (Builtin.«tuple.__mul__» ⟨[.ref l, .int x u], []⟩) (fun _ R s => s.heap.get? l = some { cls := .type "tuple", dict := dd, data := .seq items n, slots := sl } ∧ R (.ok (.ret (Value.ref l))) s) :=
  .of_wp fun prog w A R s h => by
    obtain ⟨hp, g, d, tk, os⟩ := s
    obtain ⟨hl, h⟩ := h
    have f1 := AutoSeq1.idx_int
    have c0 : (decide (x < -(2 ^ 63)) || decide (x ≥ 2 ^ 63)) = false := by rw [decide_eq_false (by omega), decide_eq_false (by omega)]; rfl
    have c1 : (items.isEmpty || x == 1) = true := by rw [he]; rfl
    wp_walk using wpAny_loadPart' hl
    repeat (first
      | (refine wpAny_ite_false (decide_eq_false (by rw [c0]; exact Bool.false_ne_true)) ?_; wp_walk using wpAny_loadPart' hl)
      | (refine wpAny_ite_true (decide_eq_true c1) ?_; wp_walk using wpAny_loadPart' hl))
    exact ⟨_, rfl, h⟩
/-- t * k: nothing, t itself -/
def rRepS (K : PySem.W.Frag) : R2 := fun x y H Q => ∃ l k xs, x = .ref l ∧ y = .int k ∧ SqT K H l xs ∧ (-(2 ^ 63) ≤ k ∧ k < 2 ^ 63) ∧
  ((xs = [] ∨ k = 1) ∧ Q (.ref l) H ∨ xs ≠ [] ∧ k ≤ 0 ∧ ∀ p, H p = none → Q (.ref p) (upd H p (.tup [])))
theorem op_repS : OpR X (binaryOp .Mult) (rRepS X.K) := by
  intro pins s σ H x y v u Q I rx ry h
  obtain ⟨l, k, xs, rfl, rfl, hT, ⟨h1, h2⟩, q⟩ := h
  obtain rfl : v = Value.ref l := rx
  obtain ⟨t, rfl⟩ := ry
  obtain ⟨its, r, ⟨⟨cls, dd, data, sl⟩, ho, hc, n, hd⟩, hs⟩ := I.tuple hT
  simp only at hc hd
  subst hc hd
  have go : ∀ {R : Value → Shared → Prop}, wpAny (model X.prog X.w) X.A (call (.builtin "tuple.__mul__") [.ref l, .int k t]) R X.xe s → wpAny (model X.prog X.w) X.A (binaryOp .Mult (.ref l) (.int k t)) R X.xe s := fun hq =>
    wpAny_binaryOp_repeat_ref (T := "tuple") (U := "int") (by decide) ⟨_, ho, rfl⟩ (fun s' => typeIs_int s' k t) noFill_tuple_mul F.fills_int_mul F.slot_int_rmul repeat_tuple F.slot_int_index.lookup
      (call_meets F.slot_int_rmul (typeIs_int s k t) F.entry_int_rmul (F.args_int_rmul_2 _ _) (int_rmul_tuple k t l its.toArray n dd sl) ⟨ho, rfl, ⟨_, ho, rfl⟩, hq⟩)
  rcases q with ⟨c | c, q⟩ | ⟨c, hk, q⟩
  · subst c
    cases r
    exact go (call_meets F.slot_tuple_mul ⟨_, ho, rfl⟩ F.entry_tuple_mul (F.args_tuple_mul_2 _ _) (tuple_mulE l _ n dd sl k t h1 h2 rfl) ⟨ho, .ref l, H, I, rfl, q⟩)
  · subst c
    exact go (call_meets F.slot_tuple_mul ⟨_, ho, rfl⟩ F.entry_tuple_mul (F.args_tuple_mul_2 _ _) (tuple_mul1 l _ n dd sl t) ⟨ho, .ref l, H, I, rfl, q⟩)
  · have hi : its.toArray.isEmpty = false := by
      cases r with
      | nil => exact absurd rfl c
      | cons _ _ => rfl
    exact go (call_meets F.slot_tuple_mul ⟨_, ho, rfl⟩ F.entry_tuple_mul (F.args_tuple_mul_2 _ _) (tuple_mul0 l _ n dd sl k t hk h1 hi)
      ⟨ho, .ref s.heap.objs.size, _, I.laid (t' := s.toks) (o := .tup []) (fun b ob q => Heap.get?_push_of_some _ q) (Nat.le_refl _) ⟨Nat.zero_le _, [], .nil, IsTup.new _ _⟩, rfl, q _ (I.hok.fresh (Nat.le_refl _))⟩)
/-- a * b: ints, a list or a tuple so many times -/
def mulA : D → D → PQ
  | .int i, .int j => fun Q => MulOk i j ∧ Q (.val (.int (i * j)))
  | .lst xs, .int k => fun Q => (-(2 ^ 63) ≤ k ∧ k < 2 ^ 63 ∧ xs.length * k.toNat ≤ sizeLine) ∧ Q (.lst (((List.replicate k.toNat xs).flatten).map .val))
  | .tup xs, .int k => fun Q => (-(2 ^ 63) ≤ k ∧ k ≤ 1000 ∧ xs.length ≤ 1000) ∧ Q (.val (.tup (List.replicate k.toNat xs).flatten))
  | _, _ => fun _ => False
theorem op_mulA {X : Cx} : OpR X (binaryOp .Mult) (fun x y H Q => rMulD X.K x y H Q ∨ rRepS X.K x y H Q) := op_mulD.or op_repS
theorem od_mulA : OpD K (fun x y H Q => rMulD K x y H Q ∨ rRepS K x y H Q) mulA := by
  intro g x y a b Qd Q ok ha hb hw k
  unfold mulA at hw
  split at hw
  · exact .inl (od_mul g x y _ _ Qd Q ok ha hb hw k)
  · exact .inl (od_mul g x y _ _ Qd Q ok ha hb hw k)
  · rename_i xs n
    obtain ⟨⟨h1, h2, h3⟩, hq⟩ := hw
    by_cases h : xs ≠ [] ∧ 2 ≤ n
    · exact .inl (od_mul g x y _ _ Qd Q ok ha hb ⟨⟨h.1, h.2, h2, h3⟩, hq⟩ k)
    · have ha' := ha
      obtain ⟨p, vs, rfl, hp, as⟩ := ha.tup_inv
      refine .inr ⟨p, n, vs, rfl, hb.int_inv, ok.sub.sqT hp, ⟨h1, by omega⟩, ?_⟩
      by_cases e : xs = []
      · subst e
        cases as
        have : ∀ m, (List.replicate m ([] : List D)).flatten = [] := fun m => by simp
        rw [this] at hq
        exact .inl ⟨.inl rfl, k _ _ g ok.refl (.val ha') hq⟩
      · have hn : n ≤ 1 := Int.not_lt.mp fun q => h ⟨e, by omega⟩
        have ev : vs ≠ [] := fun q => e (by subst q; cases as; rfl)
        by_cases e1 : n = 1
        · subst e1
          have : (List.replicate (1 : Int).toNat xs).flatten = xs := by simp
          rw [this] at hq
          exact .inl ⟨.inr rfl, k _ _ g ok.refl (.val ha') hq⟩
        · have hz : n ≤ 0 := by omega
          have : (List.replicate n.toNat xs).flatten = [] := by rw [Int.toNat_of_nonpos hz]; rfl
          rw [this] at hq
          exact .inr ⟨ev, hz, fun q hn => k _ _ _ (Step.laidF ok hn) (RR.newT ok hn .nil) hq⟩
  · exact hw.elim
end

mutual
def shw : D → Bool
  | .int i => decide (i.natAbs.log2 < 1920)
  | .tup xs => shws xs
  | .lst xs => shws xs
  | _ => true
def shws : List D → Bool
  | [] => true
  | x :: xs => shw x && shws xs
end
@[simp] theorem shw_non : shw .non = true := by simp [shw]
@[simp] theorem shw_bl (b : Bool) : shw (.bl b) = true := by simp [shw]
@[simp] theorem shw_str (b : Str) : shw (.str b) = true := by simp [shw]
theorem shw_int (i : Int) : shw (.int i) = decide (i.natAbs.log2 < 1920) := by simp [shw]
@[simp] theorem shw_tup (xs : List D) : shw (.tup xs) = shws xs := by simp [shw]
@[simp] theorem shw_lst (xs : List D) : shw (.lst xs) = shws xs := by simp [shw]
@[simp] theorem shws_nil : shws [] = true := by simp [shws]
@[simp] theorem shws_cons (x : D) (xs : List D) : shws (x :: xs) = (shw x && shws xs) := by simp [shws]
theorem shws_iff : ∀ xs : List D, shws xs = true ↔ ∀ x ∈ xs, shw x = true
  | [] => by simp
  | x :: xs => by simp [shws_iff xs]
mutual
/-- no less than the text's length -/
def cost : D → Nat
  | .int i => if i.natAbs < 1000000000 then 10 else 1921
  | .str x => 10 * x.length + 2
  | .tup xs => costs xs + 3
  | .lst xs => costs xs + 2
  | _ => 5
def costs : List D → Nat
  | [] => 0
  | x :: xs => cost x + 2 + costs xs
end
@[simp] theorem cost_non : cost .non = 5 := by simp [cost]
@[simp] theorem cost_bl (b : Bool) : cost (.bl b) = 5 := by simp [cost]
theorem cost_int (i : Int) : cost (.int i) = if i.natAbs < 1000000000 then 10 else 1921 := by simp [cost]
theorem cost_int_le (i : Int) : cost (.int i) ≤ 1921 := by rw [cost_int]; split <;> omega
theorem cost_int_sm {i : Int} (h : i.natAbs < 1000000000) : cost (.int i) = 10 := by rw [cost_int, if_pos h]
@[simp] theorem cost_str (x : Str) : cost (.str x) = 10 * x.length + 2 := by simp [cost]
@[simp] theorem cost_tup (xs : List D) : cost (.tup xs) = costs xs + 3 := by simp [cost]
@[simp] theorem cost_lst (xs : List D) : cost (.lst xs) = costs xs + 2 := by simp [cost]
@[simp] theorem costs_nil : costs [] = 0 := by simp [costs]
@[simp] theorem costs_cons (x : D) (xs : List D) : costs (x :: xs) = cost x + 2 + costs xs := by simp [costs]
theorem costs_le {m : Nat} : ∀ {xs : List D}, (∀ x ∈ xs, cost x ≤ m) → costs xs ≤ xs.length * (m + 2)
  | [], _ => by simp
  | x :: xs, h => by
    have h1 := h x (by simp)
    have h2 := costs_le (m := m) (xs := xs) fun y hy => h y (by simp [hy])
    rw [costs_cons, List.length_cons, Nat.add_mul]
    omega
@[simp] theorem costs_append (xs ys : List D) : costs (xs ++ ys) = costs xs + costs ys := by
  induction xs with
  | nil => simp
  | cons x r ih => simp [ih]; omega
theorem textFrom_le : ∀ (ts : List Str) (k : Nat) (acc : Str), (textFrom k acc ts).length ≤ acc.length + piled ts
  | [], k, acc => by simp [textFrom, piled_nil]
  | t :: ts, k, acc => by
    unfold textFrom
    have h := textFrom_le ts (k + 1) (acc ++ (if k > 0 then ", " else "" : String) ++ t)
    rw [piled_cons]
    have e : (acc ++ (if k > 0 then ", " else "" : String) ++ t).length ≤ acc.length + 2 + t.length := by
      rw [strLen_append, strLen_append]
      split
      · exact Nat.le_refl _
      · have : (("" : String) : Str).length = 0 := rfl
        omega
    omega
theorem listText_le (ts : List Str) : (listText ts).length ≤ piled ts + 2 := by
  unfold listText
  rw [strLen_append]
  have h := textFrom_le ts 0 "["
  have e1 : (("[" : String) : Str).length = 1 := rfl
  have e2 : (("]" : String) : Str).length = 1 := rfl
  omega
theorem tupleText_le (ts : List Str) : (tupleText ts).length ≤ piled ts + 3 := by
  unfold tupleText
  rw [strLen_append, strLen_append]
  have e1 : (("(" : String) : Str).length = 1 := rfl
  have e3 : (((if ts.length == 1 then ",)" else ")" : String) : Str)).length ≤ 2 := by split <;> decide
  by_cases h : ts = []
  · subst h
    have : (Str.join ", " ([] : List Str)).length = 0 := rfl
    rw [piled_nil]
    omega
  · have := join_length_add ts h
    omega
mutual
theorem shown_le : ∀ (d : D) (n : Nat), okD n d = true → shw d = true → (toPy d).shown.length ≤ cost d
  | .non, _, _, _ => by simp only [toPy, PyData.shown, cost_non]; decide
  | .bl b, _, _, _ => by simp only [toPy, PyData.shown, cost_bl]; cases b <;> decide
  | .int i, _, _, h => by
    rw [shw_int] at h
    simp only [toPy, PyData.shown]
    have e : (Str.ofString (toString i)).length = (toString i).length := PySem.ofString_length _
    show (Str.ofString (toString i)).length ≤ _
    rw [e, cost_int]
    split
    · rename_i q
      exact int_text_length_le10 (k := 9) (by decide) q
    · exact int_text_length_le (by decide) (of_decide_eq_true h)
  | .str x, n, h, _ => by
    simp only [toPy, PyData.shown, cost_str]
    refine StrLaws.reprText_len x fun c hc => ?_
    rw [okD_str] at h
    unfold PyData.strOk at h
    have := Array.all_eq_true'.mp h c (by simpa using hc)
    have := of_decide_eq_true this
    omega
  | .tup xs, 0, h, _ => by simp [okD] at h
  | .tup xs, n + 1, h, s => by
    simp only [toPy, PyData.shown, cost_tup]
    exact Nat.le_trans (tupleText_le _) (Nat.add_le_add_right (showns_le xs n (by simpa using h) (by simpa using s)) 3)
  | .lst xs, 0, h, _ => by simp [okD] at h
  | .lst xs, n + 1, h, s => by
    simp only [toPy, PyData.shown, cost_lst]
    exact Nat.le_trans (listText_le _) (Nat.add_le_add_right (showns_le xs n (by simpa using h) (by simpa using s)) 2)
  | .dct _ _, n, h, _ => by cases n <;> simp [okD] at h
  | .src, n, h, _ => by cases n <;> simp [okD] at h
  | .scr _, n, h, _ => by cases n <;> simp [okD] at h
theorem showns_le : ∀ (ds : List D) (n : Nat), okDs n ds = true → shws ds = true → piled (PyData.shownAll (toPys ds)) ≤ costs ds
  | [], _, _, _ => by simp [toPys, PyData.shownAll, piled_nil]
  | x :: xs, n, h, s => by
    have h' := Bool.and_eq_true_iff.mp (by simpa using h)
    have s' := Bool.and_eq_true_iff.mp (by simpa using s)
    simp only [toPys, PyData.shownAll, piled_cons, costs_cons]
    have := shown_le x n h'.1 s'.1
    have := showns_le xs n h'.2 s'.2
    omega
end
mutual
theorem shw_py : ∀ d : D, shw d = true → okD 64 d = true ∨ True → (∀ n, okD n d = true → (toPy d).showable = true)
  | .non, _, _ => fun _ _ => by simp [toPy, PyData.showable]
  | .bl _, _, _ => fun _ _ => by simp [toPy, PyData.showable]
  | .int i, h, _ => fun _ _ => by rw [shw_int] at h; simpa [toPy, PyData.showable] using h
  | .str _, _, _ => fun _ _ => by simp [toPy, PyData.showable]
  | .tup xs, h, _ => fun n o => by
    cases n with
    | zero => simp [okD] at o
    | succ n => simp only [toPy, PyData.showable]; exact shws_py xs (by simpa using h) n (by simpa using o)
  | .lst xs, h, _ => fun n o => by
    cases n with
    | zero => simp [okD] at o
    | succ n => simp only [toPy, PyData.showable]; exact shws_py xs (by simpa using h) n (by simpa using o)
  | .dct _ _, _, _ => fun n o => by cases n <;> simp [okD] at o
  | .src, _, _ => fun n o => by cases n <;> simp [okD] at o
  | .scr _, _, _ => fun n o => by cases n <;> simp [okD] at o
theorem shws_py : ∀ ds : List D, shws ds = true → (∀ n, okDs n ds = true → PyData.showableAll (toPys ds) = true)
  | [], _ => fun _ _ => by simp [toPys, PyData.showableAll]
  | x :: xs, h => fun n o => by
    have h' := Bool.and_eq_true_iff.mp (by simpa using h)
    have o' := Bool.and_eq_true_iff.mp (by simpa using o)
    simp only [toPys, PyData.showableAll, shw_py x h'.1 (.inr trivial) n o'.1, shws_py xs h'.2 n o'.2, Bool.and_self]
end
/-- the text of a thing -/
def shown (d : D) : Str := (toPy d).shown
def reprD : List D → PQ
  | [d] => fun Q => okE d ∧ shw d = true ∧ cost d ≤ sizeLine ∧ Q (.val (.str (shown d)))
  | _ => fun _ => False
section
variable {X : Cx} {k : Nat}
def rReprD (K : PySem.W.Frag) : List V → Hp → VK → Prop := fun xs H Q => ∃ v d, xs = [v] ∧ Dp K H v d ∧ d.showable = true ∧ d.hasDict = false ∧ d.depth ≤ 8 ∧ d.shown.length ≤ sizeLine ∧ Q (.str d.shown) H
theorem call_reprD (G : Good X k) : CallR X (.builtin "repr") (rReprD X.K) := by
  intro pins s σ H xs us Q I r h
  obtain ⟨v, d, rfl, hd, hs, hn, hdep, hz, q⟩ := h
  obtain ⟨u, rfl, ru⟩ := vals1 r
  obtain ⟨as, rd⟩ := Dp.reads I d v u hd ru
  have fin : ∀ h' t tk, (∀ b o, s.heap.get? b = some o → h'.get? b = some o) → EP X pins σ Q (.str d.shown t) { s with heap := h', toks := tk } := fun h' t tk kp => ⟨.str d.shown, H, I.kept kp, ⟨t, rfl⟩, q⟩
  cases rd with
  | none => exact PySem.P.repr_of_none (fin s.heap _ _ fun _ _ z => z)
  | bool b => exact PySem.P.repr_of_bool (fin s.heap _ _ fun _ _ z => z)
  | int i t => exact PySem.P.repr_of_int (by simpa [PyData.showable] using hs) (fin s.heap _ _ fun _ _ z => z)
  | str x t => exact PySem.P.repr_of_str (fin s.heap _ _ fun _ _ z => z) hz
  | list e1 e2 e3 e4 => exact repr_of_reads' (h₀ := s.heap) (.list e1 e2 e3 e4) hs (fun z => by rw [hn] at z; cases z) G.grd (by have := G.room.units; omega) (fun _ _ z => z) (fun h' u tk kp => fin h' u tk kp) hz
  | tuple e1 e2 e3 e4 => exact repr_of_reads' (h₀ := s.heap) (.tuple e1 e2 e3 e4) hs (fun z => by rw [hn] at z; cases z) G.grd (by have := G.room.units; omega) (fun _ _ z => z) (fun h' u tk kp => fin h' u tk kp) hz
  | dict _ _ _ _ _ => simp [PyData.hasDict] at hn
theorem cd_repr {K : PySem.W.Frag} : CallD K (rReprD K) reprD := by
  intro g vs ds Qd Q ok ha hw k
  unfold reprD at hw
  split at hw
  · obtain ⟨h1, h2, h3, h4⟩ := hw
    obtain ⟨v, rfl, a⟩ := ha.one_inv
    have l := okD_lay _ _ h1
    exact ⟨v, _, rfl, a.dp ok.sub h1, shw_py _ h2 (.inr trivial) _ h1, PyData.hasDict_of_canLay _ l.1, l.2, Nat.le_trans (shown_le _ _ h1 h2) h3, k _ _ g ok.refl (.val (.str _)) h4⟩
  · exact hw.elim
end

section
variable {X : Cx} {W : WX} {pos p np pos' : Pos} {x : Str}
/-- an error class of the text's own, by what the top left -/
structure ExC (mg : Str → Option Value) (K : PySem.W.Frag) (x : Str) : Prop where
  ex : ∃ C, mg x = some (.ref C) ∧ PySem.W.excIn K C [.type "ValueError", .type "Exception", .type "BaseException", .type "object"] "ValueError.__new__" = true ∧ PySem.W.keepIn K (.ref C) = true ∧ PySem.W.subIn K (.ref C) (.type "BaseException") = some true ∧ PySem.W.typeIn K (.ref C) = some (.type "type")
theorem pmk_0 {C : Addr} {bmB : List Value} {B newId initId : String} (F : ExcBaseFacts B newId initId bmB) (q : PySem.W.excIn X.K C bmB newId = true) (gC : X.mg x = some (.ref C)) (kC : PySem.W.keepIn X.K (.ref C) = true) (r : Raises X (.ref C)) (hg : Gl X x)
    (hdb : (x == ("__debug__" : Str)) = false := by decide) : PMk X (.Call (.Name x p) [] [] pos) (fun _ H Q => Q (.ref C) none H) := by
  intro pins s σ H Q I h
  refine wpAny_Call_Name_kw (ld_glob I hg gC (PySem.W.callWith_K0 I.kIn kC ?_) hdb)
  show wpAny _ _ (call (.ref C) []) _ _ _
  obtain ⟨bm, N, nm, qn, bs, hdct, sn, sub, ab, col, dd, k0, k1, k2, k3, k5, mN, hC, hN, hni, T⟩ := exc_obj I.kIn q
  exact wpAny_call_exc_subT F T hC hN hni (fun h' e hm => mk_of I hm r h (I.hok.gone hm.new)) (Nat.zero_le _)
/-- raise x() -/
def sRaise (x : Str) : WS := fun env _ E => E ⟨x, []⟩ env
theorem ds_raise (T : ExC X.mg X.K x) (hc : X.calm = true) (tk : Takes X W) (hg : Gl X x := by rfl) (hdb : (x == ("__debug__" : Str)) = false := by decide) : DS X W (.Raise (some (.Call (.Name x p) [] [] pos')) none pos) (sRaise x) := by
  obtain ⟨C, h1, h2, h3, h4, h5⟩ := T.ex
  refine ps_imp (ps_raise hc tk (pmk_0 PySem.F.excBase_ValueError h2 h1 h3 (raises_own h4 h5) hg hdb)) fun Dn σ H ⟨g0, g, env, De, Ee, eH, h, hw, k⟩ => ?_
  subst eH
  exact k.ex g env σ _ _ _ h ⟨C, rfl, h1, .inl ⟨rfl, rfl⟩⟩ hw
/-- which classes of errors the clause takes -/
structure Catch (mg : Str → Option Value) (K : PySem.W.Frag) (y : Str) (tbl : List (Str × Bool)) : Prop where
  ex : ∃ D, mg y = some (.ref D) ∧ ∀ n b C, tbl.lookup n = some b → mg n = some (.ref C) → PySem.W.exmOne K (.ref C) (.ref D) = some b
/-- try: sb except y: sh -/
def sTry (tbl : List (Str × Bool)) (sb sh : WS) : WS := fun env D E => sb env D fun e env' => match tbl.lookup e.cls with
  | some true => sh env' D fun _ _ => False
  | some false => E e env'
  | none => False
theorem ds_try {y : Str} {tbl : List (Str × Bool)} {body suite : List Stmt} {b₀ : Stmt} {sb sh : WS} (T : Catch X.mg X.K y tbl) (hs : X.stack = X.env :: X.outer) (hf : X.env.frame = some X.env.locals) (tk : Takes X W)
    (hb : ∀ (W' : WX) (pn : List (Addr × Obj)) (xe : Value → Shared → Prop), Takes (X.tr pn xe) W' → PassesOwn (model X.prog X.w) X.A X.env xe → DSs (X.tr pn xe) W' body sb)
    (hsu : ∀ (a : Addr) (oe : Obj) (pn : List (Addr × Obj)), DSs (X.suite a ((a, oe) :: pn)) WF (b₀ :: suite) sh) (hg : Gl X y := by rfl) (hdb : (y == ("__debug__" : Str)) = false := by decide) :
    DS X W (.Try body [.ExceptHandler (some (.Name y np)) none (b₀ :: suite) pos'] [] [] pos) (sTry tbl sb sh) := by
  obtain ⟨D, h1, h2⟩ := T.ex
  refine ps_imp (ps_try_only (tb := fun W' => LS X W' sb) (ts := fun _ _ _ => LS X WF sh) hs hf ⟨hg, hdb, .inl h1⟩ tk hb fun a oe cls d pn _ _ => hsu a oe pn) fun Dn σ H ⟨g0, g, env, De, Ee, eH, h, hw, k⟩ => ?_
  subst eH
  refine ⟨g0, g, env, De, _, rfl, h, hw, k.nx, k.bk, k.ct, k.rt, fun g env σ e cls dd h r q => ?_⟩
  obtain ⟨C, e1, e2, e3⟩ := id r
  cases hl : tbl.lookup e.cls with
  | none => rw [hl] at q; exact q.elim
  | some b =>
    rw [hl] at q
    refine ⟨b, by rw [e1]; exact h2 _ b C hl e2, fun hb a _ => ?_, fun hb => ?_⟩
    · subst hb
      exact ⟨g0, g, env, De, _, rfl, h, q, k.nx, k.bk, k.ct, k.rt, fun _ _ _ _ _ _ _ _ z => z.elim⟩
    · subst hb
      exact k.ex g env σ e cls dd h r q
end
end DL
/-! DPrim3 -/
namespace DL
open PySem PySem.Spec PyProof.Rows L2
section
theorem meets_enum1 {v : Value} {o : Obj} {H : Heap → Prop} (B : Begins v o H) :
    Meets (Builtin.«enumerate.__new__» ⟨[.type "enumerate", v], []⟩) (fun _ R s => H s.heap ∧ R (.ok (.ret (.ref (s.heap.push o).objs.size)))
      { s with heap := (s.heap.push o).push { cls := .type "enumerate", data := .fields #[.none, .bool false, .ref s.heap.objs.size, rawInt 0, .none, .none] } }) :=
  .of_wp fun prog w A R s h => by
    obtain ⟨hp, g, d, tk, os⟩ := s
    obtain ⟨h1, h⟩ := h
    have hsub := sub_enumerate
    have go : ∀ {A' : Around} {E : Value → Shared → Prop} {Q : Value → Shared → Prop}, Q (.ref hp.objs.size) ⟨hp.push o, g, d, tk, os⟩ → wpAny (model prog w) A' (pyIter v) Q E ⟨hp, g, d, tk, os⟩ :=
      fun q => B.iter prog w _ _ ⟨hp, g, d, tk, os⟩ _ h1 q
    wp_walk using go
    refine wpAny_stack_any fun st => wpAny_pure ?_
    split
    · rename_i c _ _ _ _ _
      cases (c == Value.type "enumerate") <;> (wp_walk using go; exact ⟨_, rfl, h⟩)
    · wp_walk using go
      exact ⟨_, rfl, h⟩
variable {prog : Program} {w : World} {A : Around} {E : Value → Shared → Prop} {s : Shared}
/-- enumerate(v): two new cells -/
theorem call_enum1 {v : Value} {o : Obj} {H : Heap → Prop} {Q : Value → Shared → Prop} (B : Begins v o H) (h1 : H s.heap)
    (h : ∀ h', IsEnum h' (s.heap.objs.size + 1) s.heap.objs.size 0 .none → h'.get? s.heap.objs.size = some o → h'.objs.size = s.heap.objs.size + 2 →
      (∀ b o, s.heap.get? b = some o → h'.get? b = some o) → Q (.ref (s.heap.objs.size + 1)) { s with heap := h' }) : wpAny (model prog w) A (call (.type "enumerate") [v]) Q E s := by
  refine callType_new F.called_enumerate (by decide) (F.typeCall_enumerate_1 _) (F.newCall_enumerate_1 _) (fun obj => F.args_object_init_2 obj _) F.entry_enumerate_new (meets_enum1 B) ⟨h1, ?_⟩
  have sz : (s.heap.push o).objs.size = s.heap.objs.size + 1 := Heap.size_push ..
  show _ ∧ _
  rw [sz]
  have at_ := Heap.get?_push_size (s.heap.push o) (o := { cls := .type "enumerate", data := .fields #[.none, .bool false, .ref s.heap.objs.size, rawInt 0, .none, .none] }) rfl
  rw [sz] at at_
  exact ⟨⟨_, at_, rfl⟩, h _ at_ (Heap.get?_push_of_some _ (Heap.get?_push_size _ B.free)) (by rw [Heap.size_push, sz]) fun b ob x => Heap.get?_push_of_some _ (Heap.get?_push_of_some _ x)⟩
end
/-- the tuple at a as it stands, its items in new pairs with their places -/
def IteT (K : PySem.W.Frag) (a : Addr) : It :=
  ⟨fun i H => ∃ (xs : List V) (x : V), SqT K H a xs ∧ xs[i]? = some x, fun i H v H' => ∃ q x, v = .ref q ∧ H q = none ∧ H' = upd H q (.tup [.int (i : Nat), x]) ∧ ∀ xs, SqT K H a xs → xs[i]? = some x, fun i H => ∃ xs : List V, SqT K H a xs ∧ xs.length ≤ i⟩
theorem turn_enumT {P : Program} {w : World} {K : PySem.W.Frag} {elts : List Expr} {kk : Nat} {tpos : Pos} (a e it : Addr) :
    Turn P w K (.Tuple elts kk tpos) (IteT K a) [e, it] e (fun i h => (∃ old, IsEnum h e it ((i : Nat) : Int) old) ∧ h.IsTupleIter it a i ∧ e ≠ it) where
  mem := by simp
  obj := fun i h st b hb => by
    obtain ⟨⟨old, he⟩, ⟨o, ho, hc, hd⟩, _⟩ := st
    simp only [List.mem_cons, List.mem_nil_iff, or_false] at hb
    rcases hb with rfl | rfl
    · exact ⟨_, he, fun v q => nomatch q⟩
    · exact ⟨o, ho, fun v q => by rw [hd] at q; cases q⟩
  keep := fun i h h' st k => by
    obtain ⟨⟨old, he⟩, hi, hne⟩ := st
    exact ⟨⟨old, k e (by simp) _ he⟩, hi.at fun o q => k it (by simp) o q, hne⟩
  item := by
    intro X hP hw hK hc i pins s σ H E I hf st hg
    subst hP hw hK
    obtain ⟨⟨old, he⟩, hit, hne⟩ := st
    obtain ⟨xs, x, hq, hx⟩ := hg
    obtain ⟨its, rv, p, hz⟩ := I.tuple hq
    obtain ⟨u, hu, ru⟩ := rv.get hx
    have hel : e < s.heap.objs.size := Heap.lt_size he
    obtain ⟨oi, ei, ci, di⟩ := id hit
    have hil : it < s.heap.objs.size := Heap.lt_size ei
    obtain ⟨op, ep, cp, _⟩ := id p
    have hea : e ≠ a := fun z => by
      rw [z] at he
      have he : s.heap.get? a = some _ := he
      rw [ep] at he
      cases he
      have cp : Value.type "enumerate" = Value.type "tuple" := cp
      exact absurd cp (by decide)
    have hia : a ≠ it := fun z => by
      rw [z, ei] at ep
      cases ep
      rw [ci] at cp
      exact absurd cp (by decide)
    have hi : i < its.toArray.size := by
      have := (List.getElem?_eq_some_iff.mp hu).1
      simpa using this
    refine wpAny_pyNext_enum_itemD (i := i) (Draws.tuple (A := X.A.in1) (I.ok.hd hc) it a hia its.toArray) he ⟨hit, p⟩ hi hne (by simp [hea, hne]) fun y h' tk hy ho st' hT hsz hk => ?_
    obtain rfl : y = u := by
      have hy : its.toArray[i]? = some y := hy
      rw [List.getElem?_toArray, hu] at hy
      exact (Option.some.inj hy).symm
    refine ⟨_, rfl, wpAny_letOwnedTupleGo_enum (s := { s with heap := h', toks := tk + 1 }) ho fun h'' he' sb => ?_⟩
    have hT2 : h''.get? s.heap.objs.size = some { cls := .type "tuple", data := .seq #[.int i tk, y] } := (sb.2 _ (Nat.ne_of_gt hel)).trans hT
    have new : ObjOk X.prog X.w (upd H s.heap.objs.size (.tup [.int (i : Nat), x])) h'' s.heap.objs.size (.tup [.int (i : Nat), x]) :=
      ⟨by show 2 ≤ sizeLine; decide, [.int i tk, y], .cons ⟨_, rfl⟩ (.cons ru .nil), ⟨_, hT2, rfl, _, rfl⟩⟩
    have I1 : Inv X pins σ (upd H s.heap.objs.size (.tup [.int (i : Nat), x])) { s with heap := h'', toks := tk + 1 } :=
      I.turnedNew (ch := [e, it]) (fun b ob hb q => (sb.2 b (fun z => hb (by simp [z]))).trans (hk b ob (fun z => hb (by simp [z])) (fun z => hb (by simp [z])) q)) hf (Nat.le_refl _) new
    refine ⟨.ref s.heap.objs.size, _, I1, rfl, ⟨_, x, rfl, I.hok.fresh (Nat.le_refl _), rfl, fun ys hy => by rw [I.tuple_inj hy hq]; exact hx⟩, ⟨⟨y, ?_⟩, st'.1.at fun o q => (sb.2 it (Ne.symm hne)).trans q, hne⟩, fun b hb => ?_⟩
    · rw [show ((i + 1 : Nat) : Int) = (i : Int) + 1 by omega]
      exact he'
    · have hb' : b < s.heap.objs.size := by
        simp only [List.mem_cons, List.mem_nil_iff, or_false] at hb
        rcases hb with rfl | rfl <;> assumption
      rw [upd_ne (Nat.ne_of_lt hb')]
      exact (hf b hb).1
  done := by
    intro X hP hw hK hc i pins s σ H E I hf st hg
    subst hP hw hK
    obtain ⟨⟨old, he⟩, hit, hne⟩ := st
    obtain ⟨xs, hq, hx⟩ := hg
    obtain ⟨its, rv, p, hz⟩ := I.tuple hq
    obtain ⟨oi, ei, ci, di⟩ := id hit
    obtain ⟨op, ep, cp, _⟩ := id p
    have hia : a ≠ it := fun z => by
      rw [z, ei] at ep
      cases ep
      rw [ci] at cp
      exact absurd cp (by decide)
    have hl := rv.length
    have hn : its.toArray[i]? = none := by simp; omega
    have D : Draws X.prog X.w X.A.in1 it [it, a] i (fun _ _ => False) (fun j h => h.IsTupleIter it a j ∧ h.IsTuple a its.toArray ∧ j = i) :=
      ⟨fun _ _ st => let ⟨o, ho, _⟩ := st.1; ⟨o, ho⟩, fun _ _ _ st k => ⟨st.1.at fun o q => k it (by simp) o q, st.2.1.at fun o q => k a (by simp) o q, st.2.2⟩,
        fun j s Q E hj st _ => absurd st.2.2 (Nat.ne_of_lt hj), fun s Q E st hE => wpAny_nextOf_tuple_end (I.ok.hd hc) st.1 st.2.1 hn hE⟩
    obtain ⟨f0, f1, f2, f3, f4, f5⟩ := hf it (by simp)
    exact wpAny_pyNext_enum_endD D he ⟨hit, p, rfl⟩ fun h' eb => ⟨rfl, I.turned (t' := s.toks) (fun b o hb q => eb b o hb q) f0 f1 f3 f4 f5⟩
  self := fun A i s Q E st h => let ⟨⟨_, he⟩, _⟩ := st; wpAny_pyIter_enum he h
def tEnumA (K : PySem.W.Frag) (ta : TA) : TI := fun σ H R => ta σ H fun vs H1 => ∃ a xs, vs = [.ref a] ∧ ((SqL K H1 a xs ∧ R (Ite K a) H1) ∨ (SqT K H1 a xs ∧ R (IteT K a) H1))
theorem pi_enumA {X : Cx} {e : Expr} {ta : TA} {p pos tpos : Pos} {elts : List Expr} {kk : Nat} (hg : Gl X "enumerate") (hm : X.mg "enumerate" = none) (ha : PA X [e] ta) (hs : starEach [e] X.env = [(false, eval e X.env)] := by rfl) :
    PI X (.Tuple elts kk tpos) (.Call (.Name "enumerate" p) [e] [] pos) (tEnumA X.K ta) := by
  refine ⟨fun pins s σ H R I h => Call_ (ld_blt I hg hm boot_enumerate (PyProof.Rows.callWith_type1 (thn (ha.run pos pins s σ H _ I h) fun us s1 ⟨vs, H1, I1, r1, a, xs, ex, q1⟩ => ?_) hs rfl))⟩
  subst ex
  obtain ⟨u, rfl, ru⟩ := r1.one
  obtain rfl : u = Value.ref a := ru
  have fresh2 : ∀ b ∈ [s1.heap.objs.size + 1, s1.heap.objs.size], FpOk X pins H1 b := fun b hb => by
    simp only [List.mem_cons, List.mem_nil_iff, or_false] at hb
    have hle : s1.heap.objs.size ≤ b := by rcases hb with rfl | rfl <;> omega
    exact I1.fpOk hle (I1.hok.fresh hle)
  rcases q1 with ⟨hq, q⟩ | ⟨hq, q⟩
  · obtain ⟨its, rv, p', hz⟩ := I1.list hq
    refine call_enumerate_list p'.isList fun h' he hit hsz hk => wpAny_pyIter_enum he ?_
    exact ⟨s1.heap.objs.size + 1, _, _, _, H1, rfl, I1.kept (t' := s1.toks) hk, turn_enum a (s1.heap.objs.size + 1) s1.heap.objs.size, ⟨⟨.none, he⟩, hit, Nat.succ_ne_self _⟩, fresh2, q⟩
  · obtain ⟨its, rv, p', hz⟩ := I1.tuple hq
    refine call_enum1 (begins_tuple a its.toArray) p' fun h' he hit hsz hk => wpAny_pyIter_enum he ?_
    exact ⟨s1.heap.objs.size + 1, _, _, _, H1, rfl, I1.kept (t' := s1.toks) hk, turn_enumT a (s1.heap.objs.size + 1) s1.heap.objs.size, ⟨⟨.none, he⟩, ⟨_, hit, rfl, rfl⟩, Nat.succ_ne_self _⟩, fresh2, q⟩
/-- things with their places -/
def enumF : Int → List D → List D
  | _, [] => []
  | i, d :: ds => .tup [.int i, d] :: enumF (i + 1) ds
theorem enumF_get : ∀ (ds : List D) (k : Int) (i : Nat) (d : D), (enumF k ds)[i]? = some d → ∃ e, ds[i]? = some e ∧ d = .tup [.int (k + i), e]
  | [], _, i, d, h => by simp [enumF] at h
  | x :: ds, k, 0, d, h => by
    simp [enumF] at h
    exact ⟨x, rfl, by rw [← h]; simp⟩
  | x :: ds, k, i + 1, d, h => by
    obtain ⟨e, h1, h2⟩ := enumF_get ds (k + 1) i d (by simpa [enumF] using h)
    exact ⟨e, by simpa using h1, by rw [h2]; congr 3; omega⟩
theorem enumF_length : ∀ (ds : List D) (k : Int), (enumF k ds).length = ds.length
  | [], _ => rfl
  | x :: ds, k => by simp [enumF, enumF_length ds]
/-- a pair made at a turn, frozen -/
theorem pair_step {K : PySem.W.Frag} {g : Gh} (ok : g.Ok) {q : Addr} {v w : V} {d e : D} (n : g.H q = none) (h1 : At K g.Z g.F v d) (h2 : At K g.Z g.F w e) :
    ∃ F', Step g ⟨g.Z, F', upd g.H q (.tup [v, w])⟩ ∧ At K g.Z F' (.ref q) (.tup [d, e]) := by
  have s := Step.laidF (u := .tup [v, w]) ok n
  exact ⟨_, s, .tup (SqT.of upd_same) (.cons (h1.mono s.up fun _ q => q) (.cons (h2.mono s.up fun _ q => q) .nil))⟩
theorem itok_enum {K : PySem.W.Frag} {g : Gh} {a : Addr} {vs : List V} {ds : List D} (h : g.F a = some (.lst vs)) (as : Ats K g.Z g.F vs ds) : ItOk K g (Ite K a) (enumF 0 ds) := by
  have q : ∀ g', Grow g g' → SqL K g'.H a vs := fun g' s => SqL.of (s.ok.sub _ _ (s.up _ _ h))
  refine ⟨fun g' s i d e => ?_, fun g' s i d x H' e y => ?_, fun g' s i l => ?_⟩
  · obtain ⟨e', h1, rfl⟩ := enumF_get ds 0 i d e
    obtain ⟨v, h2, _⟩ := as.get h1
    exact ⟨vs, v, q g' s, h2⟩
  · obtain ⟨e', h1, rfl⟩ := enumF_get ds 0 i d e
    obtain ⟨v, h2, av⟩ := as.get h1
    obtain ⟨p, w, rfl, n, rfl, hw⟩ := y
    have : v = w := Option.some.inj (h2.symm.trans (hw vs (q g' s)))
    subst this
    rw [Int.zero_add]
    exact pair_step s.ok n (.int _) (av.mono s.up s.zs)
  · rw [enumF_length] at l
    exact ⟨vs, q g' s, by rw [as.length]; exact l⟩
theorem itok_enumT {K : PySem.W.Frag} {g : Gh} {a : Addr} {vs : List V} {ds : List D} (h : SqT K g.F a vs) (as : Ats K g.Z g.F vs ds) : ItOk K g (IteT K a) (enumF 0 ds) := by
  have q : ∀ g', Grow g g' → SqT K g'.H a vs := fun g' s => s.ok.sub.sqT (s.up.sqT h)
  refine ⟨fun g' s i d e => ?_, fun g' s i d x H' e y => ?_, fun g' s i l => ?_⟩
  · obtain ⟨e', h1, rfl⟩ := enumF_get ds 0 i d e
    obtain ⟨v, h2, _⟩ := as.get h1
    exact ⟨vs, v, q g' s, h2⟩
  · obtain ⟨e', h1, rfl⟩ := enumF_get ds 0 i d e
    obtain ⟨v, h2, av⟩ := as.get h1
    obtain ⟨p, w, rfl, n, rfl, hw⟩ := y
    have : v = w := Option.some.inj (h2.symm.trans (hw vs (q g' s)))
    subst this
    rw [Int.zero_add]
    exact pair_step s.ok n (.int _) (av.mono s.up s.zs)
  · rw [enumF_length] at l
    exact ⟨vs, q g' s, by rw [as.length]; exact l⟩
def iEnD (w : WE) : WI := fun env Q E => w env (fun o => itemsD o.d fun ds => Q (enumF 0 ds)) E
theorem di_enum {X : Cx} {W : WX} {w : WE} {e : Expr} {p pos tpos : Pos} {elts : List Expr} {kk : Nat} (hm : X.mg "enumerate" = none) (he : DE X W e w) (hg : Gl X "enumerate" := by rfl) (hs : starEach [e] X.env = [(false, eval e X.env)] := by rfl) :
    DI X W (.Tuple elts kk tpos) (.Call (.Name "enumerate" p) [e] [] pos) (iEnD w) := pi_imp (pi_enumA hg hm (pa_cons he pa_nil hs) hs) fun σ H R ⟨g, env, Qd, Ed, eH, es, hw, k, kx⟩ => by
  subst eH
  refine LE.go (R := fun d => itemsD d fun ds => Qd (enumF 0 ds)) es hw (fun v d g1 s1 a1 h1 => ?_) kx
  unfold itemsD at h1
  split at h1
  · obtain ⟨q, vs, rfl, hp, as⟩ := a1.tup_inv
    exact ⟨q, vs, rfl, .inr ⟨s1.ok.sub.sqT hp, k _ _ g1 s1 (itok_enumT hp as) h1⟩⟩
  · obtain ⟨q, vs, rfl, hp, as⟩ := a1.lst_inv
    exact ⟨q, vs, rfl, .inl ⟨SqL.of (s1.ok.sub _ _ hp), k _ _ g1 s1 (itok_enum hp as) h1⟩⟩
  · exact h1.elim
end DL
/-! DPrim4 -/
namespace DL
open PySem PySem.Spec PyProof.Rows L2
section
variable {X : Cx}
def rGetL (K : PySem.W.Frag) : V → V → Hp → VK → Prop := fun o i H Q => ∃ p xs k v, o = .ref p ∧ i = .int k ∧ SqL K H p xs ∧ L2.atI xs k = some v ∧ Q v H
theorem get_list : PGet X (rGetL X.K) := by
  intro pins s σ H o i ov iv Q I ro ri h
  obtain ⟨p, xs, k, z, rfl, rfl, hq, he, q⟩ := h
  cases ro
  obtain ⟨t, rfl⟩ := ri
  obtain ⟨its, r, pl, hz⟩ := I.list hq
  obtain ⟨j, h1, h2, h3, h4, h5⟩ := atI_get he
  obtain ⟨w, ew, rw'⟩ := r.get h2
  have hl := r.length
  have hn := line63
  have fin : EP X pins σ Q w s := ⟨z, H, I, rw', q⟩
  by_cases h0 : 0 ≤ k
  · have hj : k.toNat = j := by
      rw [seqIndex_of h0 h5] at h1
      exact Option.some.inj h1
    exact wpAny_getItem_list pl.isList h0 (by omega) (by rw [hj]; simpa using ew) fin
  · have hj : (k + (its.toArray.size : Int)).toNat = j := by
      rw [seqIndex_neg (by omega) h4] at h1
      rw [List.size_toArray, ← hl]
      exact Option.some.inj h1
    exact wpAny_getItem_list_neg pl.isList (by omega) (by rw [List.size_toArray]; omega) (by omega) (by rw [hj]; simpa using ew) fin
end
/-- x[k] op= e: an own list's int -/
def sAugIx (i : Nat) (f : D → D → PQ) (wi we : WE) : WS := fun env D E => ownD env[i]? fun os => evC wi env (fun k => ∃ n j m, k.d = .int n ∧ ixN os.length n = some j ∧ os[j]? = some (.val (.int m)) ∧
  evC we env (fun o => f (.int m) o.d fun z => ∃ e, z = .val e ∧ noLst e = true ∧ D.nx (env.set i (some (.lst (os.set j (.val e)))))) E) E
section
variable {X : Cx} {W : WX} {g0 g : Gh} {env : SEnv} {σ : L2.St} {i : Nat} {x : Str} {e ei : Expr} {we wi : WE} {pos p tp : Pos}
theorem ROs.getV {K : PySem.W.Frag} {Z : Zs} {F H : Hp} : ∀ {vs : List V} {os : List O} {cs : List Addr} {j : Nat} {d : D}, ROs K Z F H vs os cs → os[j]? = some (.val d) → ∃ v, vs[j]? = some v ∧ At K Z F v d
  | _, _, _, _, _, .nil, e => by simp at e
  | _, _, _, 0, d, .cons h t, e => by
    simp at e
    subst e
    exact ⟨_, rfl, h.val_inv⟩
  | _, _, _, j + 1, d, .cons h t, e => by
    obtain ⟨v, h1, h2⟩ := ROs.getV (j := j) t (by simpa using e)
    exact ⟨v, by simpa using h1, h2⟩
theorem ds_augIx {op : Operator} {r : R2} {f : D → D → PQ} (ho : OpR X (inplaceOp op) r) (hf : OpD X.K r f) (hi : DE X W ei wi) (he : DE X W e we) (hN : X.N[i]? = some x := by rfl) (hv : Vis X.env.scope x := by first | exact Or.inl rfl | exact Or.inr (Or.inl rfl) | exact Or.inr (Or.inr rfl)) (hd : (x == ("__debug__" : Str)) = false := by decide) (hcd : (x == ("__classdict__" : Str)) = false := by decide)
    (ha : ∀ ov iv new, augStore ei ov iv new = (do holding [new, ov, iv] (setItem ov iv new); release [new, ov, iv] []; pure .next) := by intros; rfl) :
    DS X W (.AugAssign (.Subscript (.Name x p) ei tp) op e pos) (sAugIx i f wi we) :=
  ps_imp (ps_augS (pe_var hN hv hd hcd) hi get_list he (fun pins s σ H x y v u Q I rx ry h => ho pins s σ H x y v u Q I rx ry h) set_list ha) fun Dn σ H ⟨g0, g, env, De, Ee, eH, h, hw, k⟩ => by
  subst eH
  obtain ⟨ps, e1, hw⟩ := ownD_inv hw
  have hl : ∃ l, σ[i]? = some (some (.ref l)) := by
    obtain ⟨cs, h⟩ := h
    obtain ⟨l, us, c0, q1, _⟩ := h.own e1
    exact ⟨l, q1⟩
  obtain ⟨l, hl⟩ := hl
  refine ⟨.ref l, hl, h.goC hw (fun vk ok g1 h1 q => ?_) k.ex⟩
  obtain ⟨n, j, m, en, ej, em, q⟩ := q
  have ek : vk = .int n := by
    obtain ⟨cs, h1⟩ := h1
    obtain ⟨w', ew, rw'⟩ := h1.tmp.one_inv
    obtain rfl : vk = w' := by simpa using ew
    exact rw'.int_of en
  subst ek
  have h1' := SS.drop (X := X) h1
  have rd : ∃ us, g1.H l = some (.lst us) ∧ us[j]? = some (.int m) ∧ us.length = ps.length := by
    obtain ⟨cs, h1⟩ := h1'
    obtain ⟨l', us, c0, q1, q2, q3, q4⟩ := h1.own e1
    rw [hl] at q1
    obtain rfl : l = l' := by simpa using q1
    obtain ⟨v, q5, q6⟩ := q4.getV em
    exact ⟨us, q2, by rw [q5, q6.int_inv], q4.length⟩
  obtain ⟨us, r1, r2, r3⟩ := rd
  refine ⟨l, us, n, .int m, rfl, rfl, SqL.of r1, ?_, ?_⟩
  · unfold L2.atI
    rw [r3, ej]
    exact r2
  refine h1'.goC q (fun y o g2 h2 q => ?_) k.ex
  obtain ⟨cs, h2⟩ := h2
  obtain ⟨w', ew, rw'⟩ := h2.tmp.one_inv
  obtain rfl : y = w' := by simpa using ew
  have up := thaw_up (H := g2.H) h2.fz
  refine hf ⟨g2.Z, thaw g2.F g2.H (cells cs), g2.H⟩ (.int m) y (.int m) o.d _ _ (h2.st.ok.thaw h2.nz) (.int m) (rw'.at_ up fun c m => thaw_in ⟨_, m⟩) q fun z oz g3 s3 r3' qz => ?_
  obtain ⟨ez, rfl, nl, hn⟩ := qz
  have h3 := h2.resC s3 r3' (by simpa using nl)
  obtain ⟨cs3, h3⟩ := h3
  obtain ⟨l', us3, c0, q1, q2, q3, q4⟩ := h3.own e1
  rw [hl] at q1
  obtain rfl : l = l' := by simpa using q1
  have ht := h3.tmp
  generalize hcn : cs3 none = cn at ht
  cases ht with
  | cons rz t =>
    rename_i c1 c2
    obtain ⟨c', r4, cn4⟩ := ROs.set rz j q4 (ixN_lt ej)
    refine ⟨l, us3, n, j, rfl, rfl, q2, by rw [q4.length]; exact ej, k.nx _ _ _ (h3.put (vs' := []) (os' := []) (ct := []) e1 hl q2 q3 r4 .nil fun c => ?_) hn⟩
    have := cn4 c
    rw [hcn]
    simp only [List.count_append, List.count_nil, Nat.add_zero]
    omega
end
def unI : D → Option Int
  | .int i => some i
  | _ => none
theorem Ats.ints_inv {K : PySem.W.Frag} {Z : Zs} {F : Hp} : ∀ {ns : List Int} {vs : List V}, Ats K Z F vs (ns.map D.int) → vs = ns.map V.int
  | [], _, h => by cases h; rfl
  | n :: ns, _, h => by
    cases h with
    | cons a t => rw [a.int_inv, Ats.ints_inv t]; rfl
theorem Ats.bls_inv {K : PySem.W.Frag} {Z : Zs} {F : Hp} : ∀ {ns : List Bool} {vs : List V}, Ats K Z F vs (ns.map D.bl) → vs = ns.map V.bl
  | [], _, h => by cases h; rfl
  | n :: ns, _, h => by
    cases h with
    | cons a t => rw [a.bl_inv, Ats.bls_inv t]; rfl
def sumD : List D → PQ
  | [.lst ds] => fun Q => ∃ ns : List Int, ds = ns.map D.int ∧ Q (.val (.int ns.sum))
  | _ => fun _ => False
def maxLD : List D → PQ
  | [.lst ds] => fun Q => ∃ ns : List Int, ds = ns.map D.int ∧ 0 < ns.length ∧ ∀ m, m ∈ ns → (∀ y, y ∈ ns → y ≤ m) → Q (.val (.int m))
  | _ => fun _ => False
def minLD : List D → PQ
  | [.lst ds] => fun Q => ∃ ns : List Int, ds = ns.map D.int ∧ 0 < ns.length ∧ ∀ m, m ∈ ns → (∀ y, y ∈ ns → m ≤ y) → Q (.val (.int m))
  | _ => fun _ => False
def allD : List D → PQ
  | [.lst ds] => fun Q => ∃ bs : List Bool, ds = bs.map D.bl ∧ Q (.val (.bl (bs.all id)))
  | _ => fun _ => False
def anyD : List D → PQ
  | [.lst ds] => fun Q => ∃ bs : List Bool, ds = bs.map D.bl ∧ Q (.val (.bl (bs.any id)))
  | _ => fun _ => False
def sortedD : List D → PQ
  | [.lst ds] => fun Q => ∃ ns : List Int, ds = ns.map D.int ∧ ∀ ns' : List Int, ns'.Perm ns → ns'.Pairwise (· ≤ ·) → Q (.lst ((ns'.map D.int).map .val))
  | _ => fun _ => False
section
variable {K : PySem.W.Frag}
theorem cd_sum : CallD K (rSum K) sumD := by
  intro g vs ds Qd Q ok ha hw k
  unfold sumD at hw
  split at hw
  · obtain ⟨v, rfl, a⟩ := ha.one_inv
    obtain ⟨p, vs, rfl, hp, as⟩ := a.lst_inv
    obtain ⟨ns, rfl, q⟩ := hw
    rw [as.ints_inv] at hp
    exact ⟨p, ns, rfl, SqL.of (ok.sub _ _ hp), k _ _ g ok.refl (.val (.int _)) q⟩
  · exact hw.elim
theorem cd_maxL : CallD K (rMax K) maxLD := by
  intro g vs ds Qd Q ok ha hw k
  unfold maxLD at hw
  split at hw
  · obtain ⟨v, rfl, a⟩ := ha.one_inv
    obtain ⟨p, vs, rfl, hp, as⟩ := a.lst_inv
    obtain ⟨ns, rfl, l, q⟩ := hw
    rw [as.ints_inv] at hp
    exact ⟨p, ns, rfl, SqL.of (ok.sub _ _ hp), l, fun m h1 h2 => k _ _ g ok.refl (.val (.int _)) (q m h1 h2)⟩
  · exact hw.elim
theorem cd_minL : CallD K (rMin K) minLD := by
  intro g vs ds Qd Q ok ha hw k
  unfold minLD at hw
  split at hw
  · obtain ⟨v, rfl, a⟩ := ha.one_inv
    obtain ⟨p, vs, rfl, hp, as⟩ := a.lst_inv
    obtain ⟨ns, rfl, l, q⟩ := hw
    rw [as.ints_inv] at hp
    exact ⟨p, ns, rfl, SqL.of (ok.sub _ _ hp), l, fun m h1 h2 => k _ _ g ok.refl (.val (.int _)) (q m h1 h2)⟩
  · exact hw.elim
theorem cd_all : CallD K (rAll K) allD := by
  intro g vs ds Qd Q ok ha hw k
  unfold allD at hw
  split at hw
  · obtain ⟨v, rfl, a⟩ := ha.one_inv
    obtain ⟨p, vs, rfl, hp, as⟩ := a.lst_inv
    obtain ⟨ns, rfl, q⟩ := hw
    rw [as.bls_inv] at hp
    exact ⟨p, ns, rfl, SqL.of (ok.sub _ _ hp), k _ _ g ok.refl (.val (.bl _)) q⟩
  · exact hw.elim
theorem cd_any : CallD K (rAny K) anyD := by
  intro g vs ds Qd Q ok ha hw k
  unfold anyD at hw
  split at hw
  · obtain ⟨v, rfl, a⟩ := ha.one_inv
    obtain ⟨p, vs, rfl, hp, as⟩ := a.lst_inv
    obtain ⟨ns, rfl, q⟩ := hw
    rw [as.bls_inv] at hp
    exact ⟨p, ns, rfl, SqL.of (ok.sub _ _ hp), k _ _ g ok.refl (.val (.bl _)) q⟩
  · exact hw.elim
theorem cd_sorted : CallD K (rSortedI K) sortedD := by
  intro g vs ds Qd Q ok ha hw k
  unfold sortedD at hw
  split at hw
  · obtain ⟨v, rfl, a⟩ := ha.one_inv
    obtain ⟨p, vs, rfl, hp, as⟩ := a.lst_inv
    obtain ⟨ns, rfl, q⟩ := hw
    rw [as.ints_inv] at hp
    exact ⟨p, ns, rfl, SqL.of (ok.sub _ _ hp), fun ns' l h1 h2 n => k _ _ _ (Step.laid ok n) (RR.newL ok n (.ints ns')) (q ns' h1 h2)⟩
  · exact hw.elim
end
section
variable {X : Cx} {W : WX} {a b : Expr} {wa wb : WE} {p pos : Pos}
abbrev WR := DEnv → (Int → Int → Prop) → EX → Prop
def LR (X : Cx) (W : WX) (w : WR) : L2.St → Hp → (Int → Int → Hp → Prop) → Prop := fun σ H Q => ∃ (g : Gh) (env : DEnv) (Qd : Int → Int → Prop) (Ed : EX), g.H = H ∧ ES X.K g env σ ∧ w env Qd Ed ∧ (∀ i j g', Step g g' → Qd i j → Q i j g'.H) ∧ XL X W σ g Ed
def DRg (X : Cx) (W : WX) (e : Expr) (w : WR) : Prop := PRg X e (LR X W w)
def intQ (Q : Int → Prop) : D → Prop
  | .int i => Q i
  | _ => False
theorem intQ_inv {Q : Int → Prop} {d : D} (h : intQ Q d) : ∃ i, d = .int i ∧ Q i := by
  unfold intQ at h
  split at h
  · exact ⟨_, rfl, h⟩
  · exact h.elim
def rg1 (wa : WE) : WR := fun env Q E => wa env (fun o => intQ (fun n => Q 0 n) o.d) E
def rg2 (wa wb : WE) : WR := fun env Q E => wa env (fun o => intQ (fun i => wb env (fun u => intQ (fun j => Q i j) u.d) E) o.d) E
theorem prg_imp {e : Expr} {t t' : L2.St → Hp → (Int → Int → Hp → Prop) → Prop} (h : PRg X e t) (i : ∀ σ H Q, t' σ H Q → t σ H Q) : PRg X e t' := fun pins s σ H Q I q => h pins s σ H Q I (i σ H Q q)
theorem dr_1 (hm : X.mg "range" = none) (ha : DE X W a wa) (hg : Gl X "range" := by rfl) (na : starEach [a] X.env = (false, eval a X.env) :: starEach [] X.env := by rfl) : DRg X W (.Call (.Name "range" p) [a] [] pos) (rg1 wa) :=
  prg_imp (prg_1 hg hm ha na) fun σ H Q ⟨g, env, Qd, Ed, eH, es, hw, k, kx⟩ => by
  subst eH
  refine LE.go (R := fun d => intQ (fun n => Qd 0 n) d) es hw (fun v d g1 s1 a1 h1 => ?_) kx
  obtain ⟨n, rfl, q⟩ := intQ_inv h1
  exact ⟨n, a1.int_inv, k 0 n g1 s1 q⟩
theorem dr_2 (hm : X.mg "range" = none) (ha : DE X W a wa) (hb : DE X W b wb) (hg : Gl X "range" := by rfl) (na : starEach [a, b] X.env = (false, eval a X.env) :: starEach [b] X.env := by rfl) (nb : starEach [b] X.env = (false, eval b X.env) :: starEach [] X.env := by rfl)
    (hp : (backTo pos (starEach [b] X.env)).any (·.1) = false := by rfl) : DRg X W (.Call (.Name "range" p) [a, b] [] pos) (rg2 wa wb) :=
  prg_imp (prg_2 hg hm ha hb na nb hp) fun σ H Q ⟨g, env, Qd, Ed, eH, es, hw, k, kx⟩ => by
  subst eH
  refine LE.go (R := fun d => intQ (fun i => wb env (fun u => intQ (fun j => Qd i j) u.d) Ed) d) es hw (fun v d g1 s1 a1 h1 => ?_) kx
  obtain ⟨i, rfl, q⟩ := intQ_inv h1
  refine LE.go (R := fun d => intQ (fun j => Qd i j) d) (es.step s1) q (fun v' d' g2 s2 a2 h2 => ?_) (XL.on kx s1)
  obtain ⟨j, rfl, q⟩ := intQ_inv h2
  exact ⟨i, j, a1.int_inv, a2.int_inv, k i j g2 (s1.trans s2) q⟩
theorem rgV_eq (i j : Int) : ∀ Z F, Ats X.K Z F (rgV i j) (rng i j) := fun Z F => by
  have : rgV i j = ((List.range (j - i).toNat).map fun (k : Nat) => i + (k : Int)).map V.int := by unfold rgV; rw [List.map_map]; rfl
  have e2 : rng i j = ((List.range (j - i).toNat).map fun (k : Nat) => i + (k : Int)).map D.int := by unfold rng; rw [List.map_map]; rfl
  rw [this, e2]
  exact .ints _
def eLstRg (w : WR) : WE := fun env Q E => w env (fun i j => RgOk i j ∧ Q (.lst ((rng i j).map .val))) E
def eTupRg (w : WR) : WE := fun env Q E => w env (fun i j => RgOk i j ∧ Q (.val (.tup (rng i j)))) E
variable {e : Expr} {w : WR}
theorem de_lstRg (hc : X.calm = true) (hm : X.mg "list" = none) (he : DRg X W e w) (hg : Gl X "list" := by rfl) (na : starEach [e] X.env = (false, eval e X.env) :: starEach [] X.env := by rfl) : DE X W (.Call (.Name "list" p) [e] [] pos) (eLstRg w) :=
  pe_imp (pe_listRg hc hg hm he na) fun σ H Q ⟨g, env, Qd, Ed, eH, es, hw, k, kx⟩ => by
  subst eH
  exact ⟨g, env, _, Ed, rfl, es, hw, fun i j g1 s1 q => ⟨q.1, fun l n => k _ _ _ (s1.trans (Step.laid s1.ok n)) ((RR.newL s1.ok n (rgV_eq i j _ _)).back s1) q.2⟩, kx⟩
theorem de_tupRg (hc : X.calm = true) (hm : X.mg "tuple" = none) (he : DRg X W e w) (hg : Gl X "tuple" := by rfl) (na : starEach [e] X.env = (false, eval e X.env) :: starEach [] X.env := by rfl) : DE X W (.Call (.Name "tuple" p) [e] [] pos) (eTupRg w) :=
  pe_imp (pe_tupRg hc hg hm he na) fun σ H Q ⟨g, env, Qd, Ed, eH, es, hw, k, kx⟩ => by
  subst eH
  exact ⟨g, env, _, Ed, rfl, es, hw, fun i j g1 s1 q => ⟨q.1, fun l n => k _ _ _ (s1.trans (Step.laidF s1.ok n)) ((RR.newT s1.ok n (rgV_eq i j _ _)).back s1) q.2⟩, kx⟩
end
end DL
/-! DZip -/
namespace DL
open PySem PySem.Spec PyProof.Rows L2
open Builtin Builtin.SmallTypes
section
variable {prog : Program} {w : World} {A : Around} {E : Value → Shared → Prop} {s : Shared} {z ti to j1 j2 : Addr} {fa fb : List Addr} {n i : Nat} {Pa Pb : Nat → Value → Prop} {Sa Sb : Nat → Heap → Prop} {u1 u2 : Value}
theorem nxt_item {it : Addr} {fp : List Addr} {Pz : Nat → Value → Prop} {Sz : Nat → Heap → Prop} {Q : Option Value → Shared → Prop} (D : Draws prog w A it fp n Pz Sz) (hi : i < n) (st : Sz i s.heap)
    (h : ∀ x h' tk, Pz i x → Sz (i + 1) h' → Heap.SameBut it s.heap h' → Q (some x) { s with heap := h', toks := tk }) : wpAny (model prog w) A (nextOrEnd (.ref it)) Q E s := by
  unfold nextOrEnd
  exact wpAny_bind (wpAny_attempt (D.item i s _ _ hi st fun x h' tk a b c => wpAny_pure (h x h' tk a b c)))
theorem nxt_end {it : Addr} {fp : List Addr} {Pz : Nat → Value → Prop} {Sz : Nat → Heap → Prop} {Q : Option Value → Shared → Prop} (D : Draws prog w A it fp n Pz Sz) (st : Sz n s.heap)
    (h : ∀ h', Heap.ExtBut it s.heap h' → Q none { s with heap := h' }) : wpAny (model prog w) A (nextOrEnd (.ref it)) Q E s := by
  unfold nextOrEnd
  refine wpAny_bind (wpAny_attempt (D.done s _ _ st fun h' e he hx => ?_))
  obtain ⟨ob, ho, hcl⟩ := hx
  refine wpAny_bind (wpAny_isInstance (T := "StopIteration") (b := true) ⟨ob, ho, hcl⟩ isSubtype_stop ?_)
  exact wpAny_pure (h h' he)
abbrev ZpS (h : Heap) (z ti to : Addr) (f : Value) : Prop := h.get? z = some { cls := .type "zip", dict := none, data := .fields #[f, .bool false, .bool true, .ref ti, .ref to], slots := #[] }
theorem zs_item {Q : Value → Shared → Prop} (S : ZipSep2 z ti to j1 j2 fa fb) (Da : Draws prog w A j1 fa n Pa Sa) (Db : Draws prog w A j2 fb n Pb Sb)
    (hz : ZpS s.heap z ti to .none) (hti : IsTupOf2 s.heap ti (.ref j1) (.ref j2)) (hto : IsTupOf2 s.heap to u1 u2) (sta : Sa i s.heap) (stb : Sb i s.heap) (hi : i < n)
    (hQ : ∀ x y h' tk, Pa i x → Pb i y → ZpS h' z ti to (rawInt s.heap.objs.size) → IsTupOf2 h' to x y → Sa (i + 1) h' → Sb (i + 1) h' → IsTupOf2 h' s.heap.objs.size x y → h'.objs.size = s.heap.objs.size + 1 →
      (∀ b o, b ≠ z → b ≠ to → b ≠ j1 → b ≠ j2 → s.heap.get? b = some o → h'.get? b = some o) → Q (.ref s.heap.objs.size) { s with heap := h', toks := tk }) :
    wpAny (model prog w) A (Builtin.«zip.__next__» ⟨[.ref z], []⟩) (fun r s' => ∃ v, r = .done (.ret v) ∧ Q v s') E s := by
  obtain ⟨hp, gs, dr, t0, os⟩ := s
  have hz : ZpS hp z ti to .none := hz
  show wpAny _ _ (field (.ref z) 2 >>= _) _ _ _
  refine wpAny_bind (wpAny_field hz rfl (x := .bool true) rfl ?_)
  show wpAny _ _ (field (.ref z) 3 >>= _) _ _ _
  refine wpAny_bind (wpAny_field hz rfl (x := .ref ti) rfl ?_)
  refine wpAny_bind (wpAny_seqItems hti rfl ?_)
  show wpAny _ _ (ownedTupleIsFree (.ref z) >>= _) _ _ _
  refine wpAny_bind ?_
  unfold ownedTupleIsFree
  refine wpAny_bind (wpAny_field hz rfl (x := .none) rfl (wpAny_pure ?_))
  simp only [if_true]
  refine wpAny_bind (wpAny_rule ?_)
  refine wpAny_bind (wpAny_field hz rfl (x := .ref to) rfl ?_)
  refine wpAny_bind (wpAny_setField_rec hz (by simp) fun k0 z0 sb0 => ?_)
  have z0 : ZpS k0 z ti to .ellipsis := z0
  have sb0 : Heap.SameBut z hp k0 := sb0
  refine wpAny_bind ?_
  simp only [List.zipIdx_cons, List.zipIdx_nil, List.forIn_cons, List.forIn_nil]
  refine wpAny_bind (wpAny_bind (wpAny_onRaise ?_))
  show wpAny _ _ (nextOrEnd (.ref j1)) _ _ ⟨k0, gs, dr, t0, os⟩
  refine nxt_item Da hi (Da.over sta sb0 S.zf1) fun x k1 t1 px sa1 sb1 => ?_
  have sb1 : Heap.SameBut j1 k0 k1 := sb1
  have to1 : IsTupOf2 k1 to u1 u2 := sb1.extBut _ _ S.Ti1 (sb0.extBut _ _ S.TOz hto)
  refine wpAny_bind (wpAny_seqItems (s := ⟨k1, gs, dr, t1, os⟩) to1 rfl ?_)
  refine wpAny_bind (updateSeq_IsTupOf2 (s := ⟨k1, gs, dr, t1, os⟩) to1 fun k2 to2 sb2 => ?_)
  have to2 : IsTupOf2 k2 to x u2 := to2
  have sb2 : Heap.SameBut to k1 k2 := sb2
  refine wpAny_bind (wpAny_letGo (wpAny_pure ?_))
  refine wpAny_bind (wpAny_bind (wpAny_onRaise ?_))
  show wpAny _ _ (nextOrEnd (.ref j2)) _ _ ⟨k2, gs, dr, t1, os⟩
  refine nxt_item Db hi (Db.over (Db.over (Db.over stb sb0 S.zf2) sb1 S.sep1_2) sb2 S.Tf2) fun y k3 t2 py sb3 sb4 => ?_
  have sb4 : Heap.SameBut j2 k2 k3 := sb4
  have to3 : IsTupOf2 k3 to x u2 := sb4.extBut _ _ S.Ti2 to2
  refine wpAny_bind (wpAny_seqItems (s := ⟨k3, gs, dr, t2, os⟩) to3 rfl ?_)
  refine wpAny_bind (updateSeq_IsTupOf2 (s := ⟨k3, gs, dr, t2, os⟩) to3 fun k4 to4 sb5 => ?_)
  have to4 : IsTupOf2 k4 to x y := to4
  have sb5 : Heap.SameBut to k3 k4 := sb5
  refine wpAny_bind (wpAny_letGo (wpAny_pure (wpAny_pure ?_)))
  refine wpAny_bind (wpAny_seqItems (s := ⟨k4, gs, dr, t2, os⟩) to4 rfl ?_)
  refine wpAny_bind (wpAny_newTuple ?_)
  have sz : k4.objs.size = hp.objs.size := by rw [sb5.1, sb4.1, sb2.1, sb1.1, sb0.1]
  have z4 : ZpS k4 z ti to .ellipsis := sb5.extBut _ _ S.TOz.symm (sb4.extBut _ _ S.zi2 (sb2.extBut _ _ S.TOz.symm (sb1.extBut _ _ S.zi1 z0)))
  have kk : ∀ b o, b ≠ z → b ≠ to → b ≠ j1 → b ≠ j2 → hp.get? b = some o → k4.get? b = some o := fun b o bz bt b1 b2 e =>
    sb5.extBut _ _ bt (sb4.extBut _ _ b2 (sb2.extBut _ _ bt (sb1.extBut _ _ b1 (sb0.extBut _ _ bz e))))
  have fa4 : Sa (i + 1) k4 := Da.over (Da.over (Da.over sa1 sb2 S.Tf1) sb4 S.sep2_1) sb5 S.Tf1
  have fb4 : Sb (i + 1) k4 := Db.over sb3 sb5 S.Tf2
  have zl : z < k4.objs.size := Heap.lt_size z4
  show wpAny _ _ (ownedTupleHandOut (.ref z) (.ref k4.objs.size) >>= _) _ _ ⟨k4.push { cls := .type "tuple", data := .seq #[x, y] }, gs, dr, t2, os⟩
  refine wpAny_bind ?_
  unfold ownedTupleHandOut
  have z5 : ZpS (k4.push { cls := .type "tuple", data := .seq #[x, y] }) z ti to .ellipsis := Heap.get?_push_of_some _ z4
  refine wpAny_bind (wpAny_setField_rec z5 (by simp) fun k5 z6 sb6 => ?_)
  have z6 : ZpS k5 z ti to (rawInt k4.objs.size) := z6
  refine wpAny_setField_rec z6 (by simp) fun k6 z7 sb7 => ?_
  have z7 : ZpS k6 z ti to (rawInt k4.objs.size) := z7
  have sb6 : Heap.SameBut z (k4.push { cls := .type "tuple", data := .seq #[x, y] }) k5 := sb6
  have sb7 : Heap.SameBut z k5 k6 := sb7
  have up : ∀ b o, b ≠ z → k4.get? b = some o → k6.get? b = some o := fun b o bz e => sb7.extBut _ _ bz (sb6.extBut _ _ bz (Heap.get?_push_of_some _ e))
  have tn : IsTupOf2 k6 k4.objs.size x y := sb7.extBut _ _ (Nat.ne_of_gt zl) (sb6.extBut _ _ (Nat.ne_of_gt zl) (Heap.get?_push_size _ rfl))
  have sz6 : k6.objs.size = k4.objs.size + 1 := by rw [sb7.1, sb6.1, Heap.size_push]
  rw [sz] at z7 tn sz6
  refine wpAny_pure ⟨_, rfl, ?_⟩
  show Q (.ref k4.objs.size) ⟨k6, gs, dr, t2, os⟩
  rw [sz]
  exact hQ x y k6 t2 px py z7 (up _ _ S.TOz to4) (Da.frame _ _ _ fa4 fun b m o e => up b o (fun q => S.zf1 (q ▸ m)) e) (Db.frame _ _ _ fb4 fun b m o e => up b o (fun q => S.zf2 (q ▸ m)) e) tn sz6 fun b o bz bt b1 b2 e => up b o bz (kk b o bz bt b1 b2 e)
theorem stop_it {α : Type} {Q : α → Shared → Prop} (hh : A.handled = none) (h : ∀ h' e, (∀ b o, s.heap.get? b = some o → h'.get? b = some o) → (∃ o, h'.get? e = some o ∧ o.cls = .type "StopIteration") → E (.ref e) { s with heap := h' }) :
    wpAny (model prog w) A (stopIteration : Sem α) Q E s := by
  unfold stopIteration
  refine wpAny_bind ?_
  simp only [newExc, newTuple]
  refine wpAny_bind (wpAny_newObj_type ?_ (by size_fits))
  refine wpAny_bind (m := firstArgMember _ _) (wpAny_of_eq (a := Value.none) (by first | rfl | (simp only [firstArgMember]; rfl)) ?_)
  refine wpAny_newObj_type ?_ (by size_fits)
  simp only [raiseNew]
  refine wpAny_bind (wpAny_handled ?_)
  rw [hh]
  refine wpAny_bind (wpAny_pure (wpAny_throw ?_))
  exact h _ _ (fun b o e => Heap.get?_push_of_some _ (Heap.get?_push_of_some _ e)) ⟨_, Heap.get?_push_size _ rfl, rfl⟩
theorem zs_end {Q : Fin → Shared → Prop} (hh : A.handled = none) (S : ZipSep2 z ti to j1 j2 fa fb) (Da : Draws prog w A j1 fa n Pa Sa) (Db : Draws prog w A j2 fb n Pb Sb)
    (hz : ZpS s.heap z ti to .none) (hti : IsTupOf2 s.heap ti (.ref j1) (.ref j2)) (hto : IsTupOf2 s.heap to u1 u2) (sta : Sa n s.heap) (stb : Sb n s.heap)
    (hE : ∀ h' e, (∀ b o, b ≠ z → b ≠ to → b ≠ j1 → b ≠ j2 → s.heap.get? b = some o → h'.get? b = some o) → (∃ o, h'.get? e = some o ∧ o.cls = .type "StopIteration") → E (.ref e) { s with heap := h' }) :
    wpAny (model prog w) A (Builtin.«zip.__next__» ⟨[.ref z], []⟩) Q E s := by
  obtain ⟨hp, gs, dr, t0, os⟩ := s
  have hz : ZpS hp z ti to .none := hz
  show wpAny _ _ (field (.ref z) 2 >>= _) _ _ _
  refine wpAny_bind (wpAny_field hz rfl (x := .bool true) rfl ?_)
  show wpAny _ _ (field (.ref z) 3 >>= _) _ _ _
  refine wpAny_bind (wpAny_field hz rfl (x := .ref ti) rfl ?_)
  refine wpAny_bind (wpAny_seqItems hti rfl ?_)
  show wpAny _ _ (ownedTupleIsFree (.ref z) >>= _) _ _ _
  refine wpAny_bind ?_
  unfold ownedTupleIsFree
  refine wpAny_bind (wpAny_field hz rfl (x := .none) rfl (wpAny_pure ?_))
  simp only [if_true]
  refine wpAny_bind (wpAny_rule ?_)
  refine wpAny_bind (wpAny_field hz rfl (x := .ref to) rfl ?_)
  refine wpAny_bind (wpAny_setField_rec hz (by simp) fun k0 z0 sb0 => ?_)
  have z0 : ZpS k0 z ti to .ellipsis := z0
  have sb0 : Heap.SameBut z hp k0 := sb0
  refine wpAny_bind ?_
  simp only [List.zipIdx_cons, List.zipIdx_nil, List.forIn_cons, List.forIn_nil]
  refine wpAny_bind (wpAny_bind (wpAny_onRaise ?_))
  show wpAny _ _ (nextOrEnd (.ref j1)) _ _ ⟨k0, gs, dr, t0, os⟩
  refine nxt_end Da (Da.over sta sb0 S.zf1) fun k1 sb1 => ?_
  have sb1 : Heap.ExtBut j1 k0 k1 := sb1
  have z1 : ZpS k1 z ti to .ellipsis := sb1 _ _ S.zi1 z0
  refine wpAny_bind (wpAny_setField_rec (s := ⟨k1, gs, dr, t0, os⟩) z1 (by simp) fun k2 z2 sb2 => ?_)
  have sb2 : Heap.SameBut z k1 k2 := sb2
  refine wpAny_bind ?_
  show wpAny (model prog w) A (forIn [((Value.ref j2), (1 : Nat))] PUnit.unit _ >>= _) _ _ ⟨k2, gs, dr, t0, os⟩
  refine wpAny_bind ?_
  simp only [List.forIn_cons, List.forIn_nil]
  have ext2 : ∀ b o, b ≠ z → b ≠ j1 → hp.get? b = some o → k2.get? b = some o := fun b o bz b1 e => sb2.extBut _ _ bz (sb1 _ _ b1 (sb0.extBut _ _ bz e))
  have stb2 : Sb n k2 := Db.frame _ _ _ stb fun b m o e => ext2 b o (fun q => S.zf2 (q ▸ m)) (fun q => S.sep1_2 (q ▸ m)) e
  refine wpAny_bind (wpAny_bind (nxt_end (s := ⟨k2, gs, dr, t0, os⟩) Db stb2 fun k3 sb3 => ?_))
  have sb3 : Heap.ExtBut j2 k2 k3 := sb3
  simp only [Option.isSome_none, Bool.false_eq_true, if_false]
  refine wpAny_pure (wpAny_pure (wpAny_bind (wpAny_rule (stop_it hh fun k4 e up ho => ?_))))
  exact hE k4 e (fun b o bz bt b1 b2 x => up b o (sb3 _ _ b2 (ext2 b o bz b1 x))) ho
theorem next_zs_item {Q : Option Value → Shared → Prop} (S : ZipSep2 z ti to j1 j2 fa fb) (Da : Draws prog w A.in1 j1 fa n Pa Sa) (Db : Draws prog w A.in1 j2 fb n Pb Sb)
    (hz : ZpS s.heap z ti to .none) (hti : IsTupOf2 s.heap ti (.ref j1) (.ref j2)) (hto : IsTupOf2 s.heap to u1 u2) (sta : Sa i s.heap) (stb : Sb i s.heap) (hi : i < n)
    (hQ : ∀ x y h' tk, Pa i x → Pb i y → ZpS h' z ti to (rawInt s.heap.objs.size) → IsTupOf2 h' to x y → Sa (i + 1) h' → Sb (i + 1) h' → IsTupOf2 h' s.heap.objs.size x y → h'.objs.size = s.heap.objs.size + 1 →
      (∀ b o, b ≠ z → b ≠ to → b ≠ j1 → b ≠ j2 → s.heap.get? b = some o → h'.get? b = some o) → Q (some (.ref s.heap.objs.size)) { s with heap := h', toks := tk }) :
    wpAny (model prog w) A (pyNext (.ref z)) Q E s := by
  have tz : s.TypeIs (.ref z) "zip" := ⟨_, hz, rfl⟩
  unfold pyNext
  exact wpAny_bind (wpAny_attempt (wpAny_callSpecial?_slot (name := Str.ofString "__next__") tz F.slot_zip_next (wpAny_call_entry F.slot_zip_next tz F.entry_zip_next
    (zs_item S Da Db hz hti hto sta stb hi fun x y h' tk a b c d e f g h i => wpAny_pure (hQ x y h' tk a b c d e f g h i)) (F.args_zip_next_1 _))))
theorem next_zs_end {Q : Option Value → Shared → Prop} (hh : A.handled = none) (S : ZipSep2 z ti to j1 j2 fa fb) (Da : Draws prog w A.in1 j1 fa n Pa Sa) (Db : Draws prog w A.in1 j2 fb n Pb Sb)
    (hz : ZpS s.heap z ti to .none) (hti : IsTupOf2 s.heap ti (.ref j1) (.ref j2)) (hto : IsTupOf2 s.heap to u1 u2) (sta : Sa n s.heap) (stb : Sb n s.heap)
    (hQ : ∀ h', (∀ b o, b ≠ z → b ≠ to → b ≠ j1 → b ≠ j2 → s.heap.get? b = some o → h'.get? b = some o) → Q none { s with heap := h' }) : wpAny (model prog w) A (pyNext (.ref z)) Q E s := by
  have tz : s.TypeIs (.ref z) "zip" := ⟨_, hz, rfl⟩
  unfold pyNext
  refine wpAny_bind (wpAny_attempt (wpAny_callSpecial?_slot (name := Str.ofString "__next__") tz F.slot_zip_next (wpAny_call_entry F.slot_zip_next tz F.entry_zip_next
    (zs_end (A := A.in1) hh S Da Db hz hti hto sta stb fun h' e up he => ?_) (F.args_zip_next_1 _))))
  obtain ⟨o, ho, hc⟩ := he
  refine wpAny_bind (wpAny_isInstance (T := "StopIteration") (b := true) ⟨o, ho, hc⟩ isSubtype_stop ?_)
  exact wpAny_pure (hQ _ up)
abbrev zsH (h : Heap) (o1 o2 : Obj) : Heap := (((((h.push o1).push o2).push { cls := .type "tuple", data := .seq #[.ref h.objs.size, .ref (h.push o1).objs.size] }).push { cls := .type "tuple", data := .seq #[.none, .none] }).push
  { cls := .type "zip", data := .fields #[.none, .bool false, .bool true, .ref ((h.push o1).push o2).objs.size, .ref (((h.push o1).push o2).push { cls := .type "tuple", data := .seq #[.ref h.objs.size, .ref (h.push o1).objs.size] }).objs.size] })
end
theorem meets_zs {v1 v2 : Value} {o1 o2 : Obj} {H1 H2 : Heap → Prop} (B1 : Begins v1 o1 H1) (B2 : Begins v2 o2 H2) (kb : Tok) :
    Meets (Builtin.«zip.__new__» ⟨[.type "zip", v1, v2], [("strict", .bool true)]⟩) (fun _ R s => H1 s.heap ∧ H2 s.heap ∧
      R (.ok (.ret (.ref ((((s.heap.push o1).push o2).push { cls := .type "tuple", data := .seq #[.ref s.heap.objs.size, .ref (s.heap.push o1).objs.size] }).push { cls := .type "tuple", data := .seq #[.none, .none] }).objs.size))) { s with heap := zsH s.heap o1 o2 }) :=
  .of_wp fun prog w A R s h => by
    obtain ⟨hp, g, d, tk, os⟩ := s
    obtain ⟨h1, h2, h⟩ := h
    have hsub := sub_zip
    have q1 : ∀ {A' : Around} {E : Value → Shared → Prop} {Q : Value → Shared → Prop}, Q (.ref hp.objs.size) ⟨hp.push o1, g, d, tk, os⟩ → wpAny (model prog w) A' (pyIter v1) Q E ⟨hp, g, d, tk, os⟩ :=
      fun q => B1.iter prog w _ _ ⟨hp, g, d, tk, os⟩ _ h1 q
    have q2 : ∀ {A' : Around} {E : Value → Shared → Prop} {Q : Value → Shared → Prop}, Q (.ref (hp.push o1).objs.size) ⟨(hp.push o1).push o2, g, d, tk, os⟩ → wpAny (model prog w) A' (pyIter v2) Q E ⟨hp.push o1, g, d, tk, os⟩ :=
      fun q => B2.iter prog w _ _ ⟨hp.push o1, g, d, tk, os⟩ _ (B2.keeps _ _ h2 fun b o e => Heap.get?_push_of_some _ e) q
    wp_walk using q1, q2
    exact ⟨_, rfl, h⟩
theorem tc_zs (a b c : Value) : checkTypeCall "zip" ⟨[a, b], [("strict", c)]⟩ = pure () := by kernel_rfl
theorem nc_zs (a b c : Value) : checkBuiltinCall "zip.__new__" ⟨[.type "zip", a, b], [("strict", c)]⟩ = pure () := by kernel_rfl
theorem ao_zs (o a b c : Value) : argsOk "object.__init__" ⟨[o, a, b], [("strict", c)]⟩ := by unfold argsOk; kernel_rfl
section
variable {prog : Program} {w : World} {A : Around} {E : Value → Shared → Prop} {s : Shared}
theorem call_zs {v1 v2 : Value} {o1 o2 : Obj} {H1 H2 : Heap → Prop} {Q : Value → Shared → Prop} (B1 : Begins v1 o1 H1) (B2 : Begins v2 o2 H2) (h1 : H1 s.heap) (h2 : H2 s.heap)
    (h : ∀ h', ZpS h' (s.heap.objs.size + 4) (s.heap.objs.size + 2) (s.heap.objs.size + 3) .none → IsTupOf2 h' (s.heap.objs.size + 2) (.ref s.heap.objs.size) (.ref (s.heap.objs.size + 1)) → IsTupOf2 h' (s.heap.objs.size + 3) .none .none →
      h'.get? s.heap.objs.size = some o1 → h'.get? (s.heap.objs.size + 1) = some o2 → (∀ b o, s.heap.get? b = some o → h'.get? b = some o) → Q (.ref (s.heap.objs.size + 4)) { s with heap := h' }) :
    wpAny (model prog w) A (call (.type "zip") [v1, v2] [("strict", .bool true)]) Q E s := by
  refine callType_newKw F.called_zip (by decide) (tc_zs _ _ _) (nc_zs _ _ _) (fun o => ao_zs o _ _ _) F.entry_zip_new (meets_zs B1 B2 0) ⟨h1, h2, ?_⟩
  have a1 : (s.heap.push o1).objs.size = s.heap.objs.size + 1 := Heap.size_push ..
  generalize hA : s.heap.push o1 = hpA at a1
  have a2 : (hpA.push o2).objs.size = s.heap.objs.size + 2 := by rw [Heap.size_push, a1]
  generalize hB : hpA.push o2 = hpB at a2
  have g1 : hpB.get? s.heap.objs.size = some o1 := by rw [← hB]; exact Heap.get?_push_of_some _ (by rw [← hA]; exact Heap.get?_push_size _ B1.free)
  have g2 : hpB.get? (s.heap.objs.size + 1) = some o2 := by rw [← hB, ← a1]; exact Heap.get?_push_size _ B2.free
  have g0 : ∀ b o, s.heap.get? b = some o → hpB.get? b = some o := fun b o e => by rw [← hB, ← hA]; exact Heap.get?_push_of_some _ (Heap.get?_push_of_some _ e)
  have a3 : (hpB.push { cls := .type "tuple", data := .seq #[.ref s.heap.objs.size, .ref hpA.objs.size] }).objs.size = s.heap.objs.size + 3 := by rw [Heap.size_push, a2]
  have g3 : (hpB.push { cls := .type "tuple", data := .seq #[.ref s.heap.objs.size, .ref hpA.objs.size] }).get? (s.heap.objs.size + 2) = some { cls := .type "tuple", data := .seq #[.ref s.heap.objs.size, .ref hpA.objs.size] } := by
    rw [← a2]; exact Heap.get?_push_size _ rfl
  have g0' : ∀ b o, hpB.get? b = some o → (hpB.push { cls := .type "tuple", data := .seq #[.ref s.heap.objs.size, .ref hpA.objs.size] }).get? b = some o := fun b o e => Heap.get?_push_of_some _ e
  show _ ∧ _
  unfold zsH
  rw [hA, hB]
  generalize hpB.push { cls := .type "tuple", data := .seq #[.ref s.heap.objs.size, .ref hpA.objs.size] } = hpC at a3 g3 g0'
  have a4 : (hpC.push { cls := .type "tuple", data := .seq #[.none, .none] }).objs.size = s.heap.objs.size + 4 := by rw [Heap.size_push, a3]
  have g4 : (hpC.push { cls := .type "tuple", data := .seq #[.none, .none] }).get? (s.heap.objs.size + 3) = some { cls := .type "tuple", data := .seq #[.none, .none] } := by rw [← a3]; exact Heap.get?_push_size _ rfl
  have g0'' : ∀ b o, hpC.get? b = some o → (hpC.push { cls := .type "tuple", data := .seq #[.none, .none] }).get? b = some o := fun b o e => Heap.get?_push_of_some _ e
  rw [a2, a3]
  generalize hpC.push { cls := .type "tuple", data := .seq #[.none, .none] } = hpD at a4 g4 g0''
  have g5 := Heap.get?_push_size hpD (o := { cls := .type "zip", data := .fields #[.none, .bool false, .bool true, .ref (s.heap.objs.size + 2), .ref (s.heap.objs.size + 3)] }) rfl
  rw [a4] at g5 ⊢
  rw [a1] at g3
  refine ⟨⟨_, g5, rfl⟩, h _ g5 (Heap.get?_push_of_some _ (g0'' _ _ g3)) (Heap.get?_push_of_some _ g4) (Heap.get?_push_of_some _ (g0'' _ _ (g0' _ _ g1))) (Heap.get?_push_of_some _ (g0'' _ _ (g0' _ _ g2))) fun b o e => Heap.get?_push_of_some _ (g0'' _ _ (g0' _ _ (g0 _ _ e)))⟩
theorem letGo_zs {elts : List Expr} {kk : Nat} {pos : Pos} {z ti to p : Addr} {Q : Unit → Shared → Prop} (hz : ZpS s.heap z ti to (rawInt p)) (h : ∀ h', ZpS h' z ti to .none → Heap.SameBut z s.heap h' → Q () { s with heap := h' }) :
    wpAny (model prog w) A (letOwnedTupleGo (.Tuple elts kk pos) (.ref z) (.ref p)) Q E s := by
  unfold letOwnedTupleGo
  refine wpAny_bind (wpAny_load hz ?_)
  have here : (["enumerate", "zip", "dict_itemiterator", "dict_reverseitemiterator", "odict_iterator", "itertools.zip_longest", "itertools.pairwise"].contains "zip" && (#[rawInt p, .bool false, .bool true, .ref ti, .ref to] : Array Value)[0]? == some (rawInt p)) = true := by simp
  refine Eq.mpr (congrArg (fun m => wpAny (model prog w) A m Q E s) (if_pos here)) ?_
  refine wpAny_bind (wpAny_rule ?_)
  exact wpAny_setField_rec (k := 0) (x := .none) hz (by simp) fun h' hz' sb => h h' hz' sb
theorem iter_zs {z ti to : Addr} {f0 : Value} {Q : Value → Shared → Prop} (hz : ZpS s.heap z ti to f0) (h : Q (.ref z) s) : wpAny (model prog w) A (pyIter (.ref z)) Q E s := by
  have tz : s.TypeIs (.ref z) "zip" := ⟨_, hz, rfl⟩
  refine wpAny_pyIter_slot tz F.slot_zip_iter (wpAny_call_entry F.slot_zip_iter tz F.entry_zip_iter ?_ (F.args_zip_iter_1 _))
  exact wpAny_pure (a := Fin.done (.ret (.ref z))) ⟨_, rfl, "zip", _, tz, F.slot_zip_next.lookup, h⟩
end
def SqB (t : Bool) (K : PySem.W.Frag) (H : Hp) (a : Addr) (xs : List V) : Prop := match t with
  | true => SqL K H a xs
  | false => SqT K H a xs
def ItB (t : Bool) (h : Heap) (it a : Addr) (i : Nat) : Prop := match t with
  | true => h.IsListIter it a i
  | false => h.IsTupleIter it a i
def SeqB (t : Bool) (h : Heap) (a : Addr) (items : Array Value) : Prop := match t with
  | true => h.IsList a items
  | false => h.IsTuple a items
def iterO (t : Bool) (a : Addr) : Obj := match t with
  | true => { cls := .type "list_iterator", data := .fields #[.ref a, .int 0 0] }
  | false => { cls := .type "tuple_iterator", data := .fields #[.ref a, .int 0 0] }
theorem beginsB (t : Bool) (a : Addr) (items : Array Value) : Begins (.ref a) (iterO t a) fun h => SeqB t h a items := match t with
  | true => begins_list a items
  | false => begins_tuple a items
theorem ItB.new {t : Bool} {h : Heap} {it a : Addr} (e : h.get? it = some (iterO t a)) : ItB t h it a 0 := match t with
  | true => ⟨_, e, rfl, rfl⟩
  | false => ⟨_, e, rfl, rfl⟩
theorem ItB.at_ {t : Bool} {h h' : Heap} {it a : Addr} {i : Nat} (x : ItB t h it a i) (k : ∀ o, h.get? it = some o → h'.get? it = some o) : ItB t h' it a i := match t, x with
  | true, x => Heap.IsListIter.at x k
  | false, x => Heap.IsTupleIter.at x k
theorem SeqB.at_ {t : Bool} {h h' : Heap} {a : Addr} {items : Array Value} (x : SeqB t h a items) (k : ∀ o, h.get? a = some o → h'.get? a = some o) : SeqB t h' a items := match t, x with
  | true, x => Heap.IsList.at x k
  | false, x => Heap.IsTuple.at x k
theorem ItB.there {t : Bool} {h : Heap} {it a : Addr} {i : Nat} (x : ItB t h it a i) : ∃ o, h.get? it = some o ∧ ∃ vs, o.data = .fields vs := match t, x with
  | true, ⟨o, e, _, d⟩ => ⟨o, e, _, d⟩
  | false, ⟨o, e, _, d⟩ => ⟨o, e, _, d⟩
theorem SeqB.there {t : Bool} {h : Heap} {a : Addr} {items : Array Value} (x : SeqB t h a items) : ∃ o n, h.get? a = some o ∧ o.data = .seq items n := match t, x with
  | true, x => let ⟨o, e, _, n, d⟩ := x; ⟨o, n, e, d⟩
  | false, x => let ⟨o, e, _, n, d⟩ := x; ⟨o, n, e, d⟩
theorem seq_ne_it {t u : Bool} {h : Heap} {a it b : Addr} {i : Nat} {items : Array Value} (x : SeqB t h a items) (y : ItB u h it b i) : a ≠ it := fun q => by
  obtain ⟨o, n, e, d⟩ := x.there
  obtain ⟨o', e', vs, d'⟩ := y.there
  rw [q, e'] at e
  cases e
  rw [d] at d'
  cases d'
section
variable {prog : Program} {w : World} {A : Around}
theorem drawsB (t : Bool) (hh : A.handled = none) (it a : Addr) (hne : a ≠ it) (items : Array Value) : Draws prog w A it [it, a] items.size (fun i v => items[i]? = some v) (fun i h => ItB t h it a i ∧ SeqB t h a items) := match t with
  | true => Draws.list hh it a hne items
  | false => Draws.tuple hh it a hne items
/-- at the end -/
theorem drawsE (t : Bool) (hh : A.handled = none) (it a : Addr) (items : Array Value) (n : Nat) (hn : items[n]? = none) : Draws prog w A it [it, a] n (fun _ _ => False) (fun j h => ItB t h it a j ∧ SeqB t h a items ∧ j = n) where
  live := fun _ _ st => let ⟨o, e, _⟩ := st.1.there; ⟨o, e⟩
  frame := fun _ _ _ st k => ⟨st.1.at_ fun o q => k it (by simp) o q, st.2.1.at_ fun o q => k a (by simp) o q, st.2.2⟩
  item := fun j s Q E hj st _ => absurd st.2.2 (Nat.ne_of_lt hj)
  done := fun s Q E st hE => match t, st with
    | true, st => wpAny_nextOf_list_end hh st.1 st.2.1 hn hE
    | false, st => wpAny_nextOf_tuple_end hh st.1 st.2.1 hn hE
end
section
variable {X : Cx} {pins : List (Addr × Obj)} {σ : L2.St} {H : Hp} {s : Shared}
theorem Inv.seqB {t : Bool} {a : Addr} {xs : List V} (I : L2.Inv X pins σ H s) (h : SqB t X.K H a xs) : ∃ its : List Value, Vals xs its ∧ SeqB t s.heap a its.toArray := by
  cases t with
  | true =>
    obtain ⟨its, r, p, _⟩ := I.list h
    exact ⟨its, r, p.isList⟩
  | false =>
    obtain ⟨its, r, p, _⟩ := I.tuple h
    exact ⟨its, r, p⟩
theorem Inv.seqB_inj {t : Bool} {a : Addr} {xs ys : List V} (I : L2.Inv X pins σ H s) (h : SqB t X.K H a xs) (h' : SqB t X.K H a ys) : xs = ys := by
  cases t with
  | true => exact I.list_inj h h'
  | false => exact I.tuple_inj h h'
end
/-- both as they stand at each turn, the items in new pairs -/
def Itzs (K : PySem.W.Frag) (t u : Bool) (a b : Addr) : It :=
  ⟨fun i H => ∃ (xs ys : List V) (x y : V), SqB t K H a xs ∧ SqB u K H b ys ∧ xs.length = ys.length ∧ xs[i]? = some x ∧ ys[i]? = some y,
    fun i H v H' => ∃ q x y, v = .ref q ∧ H q = none ∧ H' = upd H q (.tup [x, y]) ∧ (∀ xs, SqB t K H a xs → xs[i]? = some x) ∧ ∀ ys, SqB u K H b ys → ys[i]? = some y,
    fun i H => ∃ xs ys : List V, SqB t K H a xs ∧ SqB u K H b ys ∧ xs.length ≤ i ∧ ys.length ≤ i⟩
theorem turn_zs {P : Program} {w : World} {K : PySem.W.Frag} {elts : List Expr} {kk : Nat} {tpos : Pos} {t u : Bool} {a b z ti to j1 j2 : Addr} (S : ZipSep2 z ti to j1 j2 [j1, a] [j2, b]) :
    Turn P w K (.Tuple elts kk tpos) (Itzs K t u a b) [z, ti, to, j1, j2] z (fun i h => ZpS h z ti to .none ∧ IsTupOf2 h ti (.ref j1) (.ref j2) ∧ (∃ x y, IsTupOf2 h to x y) ∧ ItB t h j1 a i ∧ ItB u h j2 b i) where
  mem := by simp
  obj := fun i h st c hc => by
    obtain ⟨hz, hti, ⟨x, y, hto⟩, h1, h2⟩ := st
    obtain ⟨o1, e1, v1, d1⟩ := h1.there
    obtain ⟨o2, e2, v2, d2⟩ := h2.there
    simp only [List.mem_cons, List.mem_nil_iff, or_false] at hc
    rcases hc with rfl | rfl | rfl | rfl | rfl
    · exact ⟨_, hz, fun v q => nomatch q⟩
    · exact ⟨_, hti, fun v q => nomatch q⟩
    · exact ⟨_, hto, fun v q => nomatch q⟩
    · exact ⟨o1, e1, fun v q => by rw [d1] at q; cases q⟩
    · exact ⟨o2, e2, fun v q => by rw [d2] at q; cases q⟩
  keep := fun i h h' st k => by
    obtain ⟨hz, hti, ⟨x, y, hto⟩, h1, h2⟩ := st
    exact ⟨k z (by simp) _ hz, k ti (by simp) _ hti, ⟨x, y, k to (by simp) _ hto⟩, h1.at_ fun o q => k j1 (by simp) o q, h2.at_ fun o q => k j2 (by simp) o q⟩
  item := by
    intro X hP hw hK hc i pins s σ H E I hf st hg
    subst hP hw hK
    obtain ⟨hz, hti, ⟨x0, y0, hto⟩, h1, h2⟩ := st
    obtain ⟨xs, ys, x, y, hqx, hqy, hlen, hx, hy⟩ := hg
    obtain ⟨its, rv, p1⟩ := Inv.seqB I hqx
    obtain ⟨its2, rv2, p2⟩ := Inv.seqB I hqy
    obtain ⟨u1, hu, ru⟩ := rv.get hx
    obtain ⟨u2, hu2, ru2⟩ := rv2.get hy
    have l1 := rv.length
    have l2 := rv2.length
    have hzl : z < s.heap.objs.size := Heap.lt_size hz
    have hi : i < its.toArray.size := by
      have := (List.getElem?_eq_some_iff.mp hu).1
      simpa using this
    have Da := drawsB (prog := X.prog) (w := X.w) (A := X.A.in1) t (I.ok.hd hc) j1 a (seq_ne_it p1 h1) its.toArray
    have Db := drawsB (prog := X.prog) (w := X.w) (A := X.A.in1) u (I.ok.hd hc) j2 b (seq_ne_it p2 h2) its2.toArray
    have es : its2.toArray.size = its.toArray.size := by simp; omega
    rw [es] at Db
    refine next_zs_item S Da Db hz hti hto ⟨h1, p1⟩ ⟨h2, p2⟩ hi fun v1 v2 h' tk q1 q2 z' to' sa sb pr hsz hk => ?_
    obtain rfl : v1 = u1 := by
      have q1 : its.toArray[i]? = some v1 := q1
      rw [List.getElem?_toArray, hu] at q1
      exact (Option.some.inj q1).symm
    obtain rfl : v2 = u2 := by
      have q2 : its2.toArray[i]? = some v2 := q2
      rw [List.getElem?_toArray, hu2] at q2
      exact (Option.some.inj q2).symm
    refine ⟨_, rfl, letGo_zs (s := { s with heap := h', toks := tk }) z' fun h'' z'' sbz => ?_⟩
    have hp2 : h''.get? s.heap.objs.size = some { cls := .type "tuple", data := .seq #[v1, v2] } := (sbz.2 _ (Nat.ne_of_gt hzl)).trans pr
    have new : ObjOk X.prog X.w (upd H s.heap.objs.size (.tup [x, y])) h'' s.heap.objs.size (.tup [x, y]) :=
      ⟨by show 2 ≤ sizeLine; decide, [v1, v2], .cons ru (.cons ru2 .nil), ⟨_, hp2, rfl, _, rfl⟩⟩
    have hk2 : ∀ c o, c ∉ [z, ti, to, j1, j2] → s.heap.get? c = some o → h''.get? c = some o := fun c o m q => by
      simp only [List.mem_cons, List.mem_nil_iff, or_false, not_or] at m
      exact (sbz.2 c m.1).trans (hk c o m.1 m.2.2.1 m.2.2.2.1 m.2.2.2.2 q)
    have I1 : L2.Inv X pins σ (upd H s.heap.objs.size (.tup [x, y])) { s with heap := h'', toks := tk } := I.turnedNew (t' := tk) (ch := [z, ti, to, j1, j2]) hk2 hf (Nat.le_refl _) new
    refine ⟨.ref s.heap.objs.size, _, I1, rfl, ⟨_, x, y, rfl, I.hok.fresh (Nat.le_refl _), rfl, fun l hl => by rw [Inv.seqB_inj I hl hqx]; exact hx, fun l hl => by rw [Inv.seqB_inj I hl hqy]; exact hy⟩, ⟨z'', ?_, ⟨v1, v2, ?_⟩, ?_, ?_⟩, fun c hcm => ?_⟩
    · exact (sbz.2 _ S.TIz).trans (hk _ _ S.TIz S.TITO S.TIi1 S.TIi2 hti)
    · exact (sbz.2 _ S.TOz).trans to'
    · exact sa.1.at_ fun o q => (sbz.2 _ S.zi1.symm).trans q
    · exact sb.1.at_ fun o q => (sbz.2 _ S.zi2.symm).trans q
    · obtain ⟨o1, e1, _⟩ := h1.there
      obtain ⟨o2, e2, _⟩ := h2.there
      have hlt : c < s.heap.objs.size := by
        simp only [List.mem_cons, List.mem_nil_iff, or_false] at hcm
        rcases hcm with rfl | rfl | rfl | rfl | rfl
        · exact hzl
        · exact Heap.lt_size hti
        · exact Heap.lt_size hto
        · exact Heap.lt_size e1
        · exact Heap.lt_size e2
      rw [upd_ne (Nat.ne_of_lt hlt)]
      exact (hf c hcm).1
  done := by
    intro X hP hw hK hc i pins s σ H E I hf st hg
    subst hP hw hK
    obtain ⟨hz, hti, ⟨x0, y0, hto⟩, h1, h2⟩ := st
    obtain ⟨xs, ys, hqx, hqy, hx, hy⟩ := hg
    obtain ⟨its, rv, p1⟩ := Inv.seqB I hqx
    obtain ⟨its2, rv2, p2⟩ := Inv.seqB I hqy
    have l1 := rv.length
    have l2 := rv2.length
    have Da := drawsE (prog := X.prog) (w := X.w) (A := X.A.in1) t (I.ok.hd hc) j1 a its.toArray i (by simp; omega)
    have Db := drawsE (prog := X.prog) (w := X.w) (A := X.A.in1) u (I.ok.hd hc) j2 b its2.toArray i (by simp; omega)
    refine next_zs_end (I.ok.hd hc) S Da Db hz hti hto ⟨h1, p1, rfl⟩ ⟨h2, p2, rfl⟩ fun h' hk => ⟨rfl, I.turnedL (t' := s.toks) (ch := [z, ti, to, j1, j2]) (fun c o m q => ?_) hf⟩
    simp only [List.mem_cons, List.mem_nil_iff, or_false, not_or] at m
    exact hk c o m.1 m.2.2.1 m.2.2.2.1 m.2.2.2.2 q
  self := fun A i s Q E st h => iter_zs st.1 h
section
variable {M : Model} {A : Around} {E : Value → Shared → Prop} {s : Shared} {env : Env}
theorem cw_type_kw {pos : Pos} {T : String} {e : Expr} {rest : List Expr} {kws : List Keyword} {Q : Value → Shared → Prop}
    (h : wpAny M A (spliced (backTo pos (starEach (e :: rest) env))) (fun vs s1 => wpAny M A (evalAll ((backToKw pos (keywordEach kws env)).map (·.2))) (fun ks s2 => wpAny M A (call (.type T) vs (((backToKw pos (keywordEach kws env)).filterMap (·.1)).zip ks)) Q E s2) E s1) E s)
    (he : backTo pos (starEach (e :: rest) env) = (false, eval e env) :: backTo pos (starEach rest env)) (hpl : (backTo pos (starEach (e :: rest) env)).any (·.1) = false) (hall : (backToKw pos (keywordEach kws env)).all (·.1.isSome) = true) (hkw : (backToKw pos (keywordEach kws env)).any (·.1.isNone) = false) :
    wpAny M A (callWith pos (.type T) [] (backTo pos (starEach (e :: rest) env)) (backToKw pos (keywordEach kws env))) Q E s := by
  rw [he] at h ⊢
  rw [he] at hpl
  have ev := PyProof.Rows.evalArgs_kwB (f := .type T) (Q := fun a s1 => wpAny M A (call (.type T) ([] ++ a.pos) a.kw) Q E s1) hall h
  unfold callWith
  refine wpAny_bind (wpAny_holding (wpAny_mono ev (fun a s1 h1 => wpAny_bind (wpAny_standAt ?_)) fun _ _ x => x))
  simp only [hpl, hkw, Bool.or_false]
  refine wpAny_bind (wpAny_pure ?_)
  exact wpAny_bind (wpAny_mono h1 (fun r s2 hr => wpAny_bind (wpAny_holding (wpAny_point (wpAny_pure hr)))) fun _ _ x => x)
end
def tZs (K : PySem.W.Frag) (ta : TA) : TI := fun σ H R => ta σ H fun vs H1 => ∃ (t u : Bool) (a b : Addr) (xs ys : List V), vs = [.ref a, .ref b] ∧ SqB t K H1 a xs ∧ SqB u K H1 b ys ∧ xs.length = ys.length ∧ R (Itzs K t u a b) H1
theorem pi_zs {X : Cx} {e e2 : Expr} {ta : TA} {p pos tpos kp p3 : Pos} {elts : List Expr} {kk j : Nat} (hg : Gl X "zip") (hm : X.mg "zip" = none) (ha : PA X [e, e2] ta)
    (hs : starEach [e, e2] X.env = (false, eval e X.env) :: starEach [e2] X.env := by rfl) (hpl : (backTo pos (starEach [e, e2] X.env)).any (·.1) = false := by rfl) :
    PI X (.Tuple elts kk tpos) (.Call (.Name "zip" p) [e, e2] [⟨some "strict", .Constant (.bool true) j p3, kp⟩] pos) (tZs X.K ta) := by
  refine ⟨fun pins s σ H R I h => wpAny_Call_Name_kw (ld_blt I hg hm PyProof.Rows.boot_zip (cw_type_kw (thn (ha.run pos pins s σ H _ I h) fun us s1 ⟨vs, H1, I1, r1, q1⟩ => ?_) (by rw [hs]; rfl) hpl rfl rfl) (by decide) (by decide))⟩
  obtain ⟨t, u, a, b, xs, ys, ex, hx, hy, hl, q⟩ := q1
  subst ex
  refine PyProof.Rows.kws_cons (wpAny_Constant_bool (PyProof.Rows.kws_nil ?_))
  obtain ⟨u1, u2, rfl, ra, rb⟩ := vals2 r1
  obtain rfl : u1 = Value.ref a := ra
  obtain rfl : u2 = Value.ref b := rb
  obtain ⟨its, rv, p1⟩ := Inv.seqB I1 hx
  obtain ⟨its2, rv2, p2⟩ := Inv.seqB I1 hy
  refine call_zs (beginsB t a its.toArray) (beginsB u b its2.toArray) p1 p2 fun h' hz hti hto hi1 hi2 hk => iter_zs hz ?_
  obtain ⟨oa, na, ea, _⟩ := p1.there
  obtain ⟨ob, nb, eb, _⟩ := p2.there
  have la : a < s1.heap.objs.size := Heap.lt_size ea
  have lb : b < s1.heap.objs.size := Heap.lt_size eb
  refine ⟨s1.heap.objs.size + 4, [s1.heap.objs.size + 4, s1.heap.objs.size + 2, s1.heap.objs.size + 3, s1.heap.objs.size, s1.heap.objs.size + 1], _, _, H1, rfl, I1.kept (t' := s1.toks) hk,
    turn_zs (t := t) (u := u) (zip_sep2 (fp1 := [a]) (fp2 := [b]) (fun c m => by obtain rfl := List.mem_singleton.mp m; exact la) (fun c m => by obtain rfl := List.mem_singleton.mp m; exact lb)), ⟨hz, hti, ⟨_, _, hto⟩, .new hi1, .new hi2⟩, fun c m => ?_, q⟩
  have hle : s1.heap.objs.size ≤ c := by
    simp only [List.mem_cons, List.mem_nil_iff, or_false] at m
    rcases m with rfl | rfl | rfl | rfl | rfl <;> omega
  exact I1.fpOk hle (I1.hok.fresh hle)
/-- pairs of things -/
def zipF : List D → List D → List D
  | a :: as, b :: bs => .tup [a, b] :: zipF as bs
  | _, _ => []
theorem zipF_get : ∀ (as bs : List D) (i : Nat) (d : D), (zipF as bs)[i]? = some d → ∃ a b, as[i]? = some a ∧ bs[i]? = some b ∧ d = .tup [a, b]
  | [], _, i, d, h => by simp [zipF] at h
  | _ :: _, [], i, d, h => by simp [zipF] at h
  | a :: as, b :: bs, 0, d, h => by
    simp [zipF] at h
    exact ⟨a, b, rfl, rfl, h.symm⟩
  | a :: as, b :: bs, i + 1, d, h => by
    obtain ⟨x, y, h1, h2, h3⟩ := zipF_get as bs i d (by simpa [zipF] using h)
    exact ⟨x, y, by simpa using h1, by simpa using h2, h3⟩
theorem zipF_length : ∀ (as bs : List D), as.length = bs.length → (zipF as bs).length = as.length
  | [], _, _ => by simp [zipF]
  | _ :: _, [], h => by simp at h
  | a :: as, b :: bs, h => by simp [zipF, zipF_length as bs (by simpa using h)]
/-- a list or a tuple, frozen -/
def FzB (t : Bool) (K : PySem.W.Frag) (F : Hp) (a : Addr) (vs : List V) : Prop := match t with
  | true => F a = some (.lst vs)
  | false => SqT K F a vs
theorem FzB.sq {t : Bool} {K : PySem.W.Frag} {g g' : Gh} {a : Addr} {vs : List V} (h : FzB t K g.F a vs) (s : Grow g g') : SqB t K g'.H a vs := by
  cases t with
  | true => exact SqL.of (s.ok.sub _ _ (s.up _ _ h))
  | false => exact s.ok.sub.sqT (s.up.sqT h)
theorem FzB.sq0 {t : Bool} {K : PySem.W.Frag} {g : Gh} {a : Addr} {vs : List V} (h : FzB t K g.F a vs) (ok : g.Ok) : SqB t K g.H a vs := h.sq (Step.grow ok.refl)
theorem itok_zs {K : PySem.W.Frag} {g : Gh} {t u : Bool} {a b : Addr} {vs ws : List V} {ds es : List D} (h1 : FzB t K g.F a vs) (h2 : FzB u K g.F b ws) (a1 : Ats K g.Z g.F vs ds) (a2 : Ats K g.Z g.F ws es) (l : ds.length = es.length) : ItOk K g (Itzs K t u a b) (zipF ds es) := by
  refine ⟨fun g' s i d e => ?_, fun g' s i d x H' e y => ?_, fun g' s i le => ?_⟩
  · obtain ⟨p, q, e1, e2, rfl⟩ := zipF_get ds es i d e
    obtain ⟨v, q1, _⟩ := a1.get e1
    obtain ⟨w, q2, _⟩ := a2.get e2
    exact ⟨vs, ws, v, w, h1.sq s, h2.sq s, by rw [a1.length, a2.length, l], q1, q2⟩
  · obtain ⟨p, q, e1, e2, rfl⟩ := zipF_get ds es i d e
    obtain ⟨v, q1, b1⟩ := a1.get e1
    obtain ⟨w, q2, b2⟩ := a2.get e2
    obtain ⟨c, v', w', rfl, n, rfl, f1, f2⟩ := y
    obtain rfl : v = v' := Option.some.inj (q1.symm.trans (f1 vs (h1.sq s)))
    obtain rfl : w = w' := Option.some.inj (q2.symm.trans (f2 ws (h2.sq s)))
    exact pair_step s.ok n (b1.mono s.up s.zs) (b2.mono s.up s.zs)
  · rw [zipF_length ds es l] at le
    exact ⟨vs, ws, h1.sq s, h2.sq s, by rw [a1.length]; exact le, by rw [a2.length, ← l]; exact le⟩
def seqQ (Q : List D → Prop) : D → Prop
  | .tup ds => Q ds
  | .lst ds => Q ds
  | _ => False
theorem seqQ_inv {K : PySem.W.Frag} {Z : Zs} {F : Hp} {v : V} {d : D} {Q : List D → Prop} (a : At K Z F v d) (h : seqQ Q d) : ∃ (t : Bool) (p : Addr) (vs : List V) (ds : List D), v = .ref p ∧ FzB t K F p vs ∧ Ats K Z F vs ds ∧ Q ds := by
  unfold seqQ at h
  split at h
  · obtain ⟨p, vs, rfl, hp, as⟩ := a.tup_inv
    exact ⟨false, p, vs, _, rfl, hp, as, h⟩
  · obtain ⟨p, vs, rfl, hp, as⟩ := a.lst_inv
    exact ⟨true, p, vs, _, rfl, hp, as, h⟩
  · exact h.elim
theorem FzB.up {t : Bool} {K : PySem.W.Frag} {F G : Hp} {a : Addr} {vs : List V} (h : FzB t K F a vs) (e : Sub F G) : FzB t K G a vs := by
  cases t with
  | true => exact e _ _ h
  | false => exact e.sqT h
/-- zip(x, y, strict=True): of one length -/
def iZs (wa wb : WE) : WI := fun env Q E => wa env (fun o => wb env (fun u => seqQ (fun ds => seqQ (fun es => ds.length = es.length ∧ Q (zipF ds es)) u.d) o.d) E) E
theorem di_zs {X : Cx} {W : WX} {wa wb : WE} {e e2 : Expr} {p pos tpos kp p3 : Pos} {elts : List Expr} {kk j : Nat} (hm : X.mg "zip" = none) (he : DE X W e wa) (he2 : DE X W e2 wb) (hg : Gl X "zip" := by rfl)
    (hs : starEach [e, e2] X.env = (false, eval e X.env) :: starEach [e2] X.env := by rfl) (hs2 : starEach [e2] X.env = (false, eval e2 X.env) :: starEach [] X.env := by rfl) (hpl : (backTo pos (starEach [e, e2] X.env)).any (·.1) = false := by rfl) :
    DI X W (.Tuple elts kk tpos) (.Call (.Name "zip" p) [e, e2] [⟨some "strict", .Constant (.bool true) j p3, kp⟩] pos) (iZs wa wb) := pi_imp (pi_zs hg hm (pa_cons he (pa_cons he2 pa_nil hs2) hs) hs hpl) fun σ H R ⟨g, env, Qd, Ed, eH, es, hw, k, kx⟩ => by
  subst eH
  show LE X W wa σ g.H fun x H1 => LE X W wb σ H1 fun y H2 => ∃ (t u : Bool) (a b : Addr) (xs ys : List V), [x, y] = [V.ref a, V.ref b] ∧ SqB t X.K H2 a xs ∧ SqB u X.K H2 b ys ∧ xs.length = ys.length ∧ R (Itzs X.K t u a b) H2
  refine LE.go (R := fun d => wb env (fun u => seqQ (fun ds => seqQ (fun es => ds.length = es.length ∧ Qd (zipF ds es)) u.d) d) Ed) es hw (fun v d g1 s1 a1 h1 => ?_) kx
  refine LE.go (R := fun d' => seqQ (fun ds => seqQ (fun es => ds.length = es.length ∧ Qd (zipF ds es)) d') d) (es.step s1) h1 (fun v' d' g2 s2 a2 h2 => ?_) (XL.on kx s1)
  obtain ⟨t, p1, vs, ds, rfl, f1, as1, h2⟩ := seqQ_inv a1 h2
  obtain ⟨u, p2, ws, es', rfl, f2, as2, hl, q⟩ := seqQ_inv a2 h2
  have f1' := f1.up s2.up
  have as1' := as1.mono s2.up s2.zs
  exact ⟨t, u, p1, p2, vs, ws, rfl, f1'.sq0 s2.ok, f2.sq0 s2.ok, by rw [as1.length, as2.length, hl], k _ _ g2 (s1.trans s2) (itok_zs f1' f2 as1' as2 hl) q⟩
end DL
/-! DPick -/
namespace DL
open PySem PySem.Spec PyProof.Rows L2

abbrev drawKvs (c : Addr) (left mixed turn : Int) : List (Key × V) := [(.inr "cells", .ref c), (.inr "left", .int left), (.inr "mixed", .int mixed), (.inr "turn", .int turn)]
abbrev dGtR : R2 := rI0 fun i j => .bl (decide (j < i))
abbrev dLtR : R2 := rI0 fun i j => .bl (decide (i < j))
abbrev dAddR : R2 := rI0 fun i j => .int (i + j)
abbrev dMulR : R2 := rI CMul fun i j => .int (i * j)
abbrev dModR : R2 := rI (fun _ j => 0 < j) fun i j => .int (i % j)
abbrev dDivR : R2 := rI CDivW fun i j => .int (i / j)
abbrev dMaxR : List V → Hp → VK → Prop := fun xs H Q => ∃ i j, xs = [.int i, .int j] ∧ Q (.int (if j > i then j else i)) H
abbrev dAbsR : List V → Hp → VK → Prop := fun xs H Q => ∃ i, xs = [.int i] ∧ Q (.int (if i < 0 then -i else i)) H
abbrev dIntR : List V → Hp → VK → Prop := fun xs H Q => (∃ i, xs = [.int i] ∧ Q (.int i) H) ∨ ∃ k, xs = [.bl k] ∧ Q (.int (if k then 1 else 0)) H
def gS (s : Str) : TE := tDGet (tVar 0) (tC (.str s))
def tMaxP : TE := tCB dMaxR (tCons (tC (.int 1)) (tCons (tVar 1) tNil))
def tIntP (t : TE) : TE := tCB dIntR (tCons t tNil)
def tTurnP (n : Int) (u : TE) : TE := tOp dAddR u (tOp dMulR (gS "turn") (tC (.int n)))
def tPickW (K : PySem.W.Frag) : TT := tAnd (tTest (tOp dGtR (tVar 1) (tC (.int 1)))) (tAnd (tTest (tOp dLtR (gS "left") (tC (.int 2)))) (tTest (tOp dGtR (tCB (rLen K) (tCons (gS "cells") tNil)) (tC (.int 0)))))
def tPickB (K : PySem.W.Frag) : TS := sDPut (tVar 0) (tC (.str "left")) (tBM0 K "list" rPop (gS "cells"))
def tPickI : TS := tSeq (sDPut (tVar 0) (tC (.str "left")) (tOp dDivR (tVar 2) tMaxP)) (tRet (tOp dModR (tIntP (tVar 2)) tMaxP))
def tPickC : TT := tOr (tTest (tOp dLtR (tVar 1) (tC (.int 2)))) (tTest (tOp dGtR (tVar 2) (tC (.int 1))))
def tPickE : TS := tSeq (sDPut (tVar 0) (tC (.str "turn")) (tOp dAddR (gS "turn") (tC (.int 1))))
  (tSeq (tAsg (tOp dModR (tIntP (tTurnP 104729 (gS "mixed"))) (tC (.int 998244353))) (gName 3))
  (tSeq (tAsg (tOp dModR (tIntP (tTurnP 17 (tOp dMulR (tVar 3) (tVar 3)))) (tC (.int 2147483647))) (gName 3))
  (tSeq (sDPut (tVar 0) (tC (.str "mixed")) (tVar 3))
  (tRet (tOp dModR (tIntP (tOp dDivR (tVar 3) (tC (.int 16)))) (tVar 1))))))
def tPick (K : PySem.W.Frag) : TS := tSeq (tWhile (tPickW K) (tPickB K)) (tSeq (tAsg (gS "left") (gName 2)) (tSeq (tIfS tPickC tPickI tNext) tPickE))
/-- where the draws stand: all but these two places is as before -/
def Else (H H' : Hp) (a c : Addr) : Prop := ∀ b, b ≠ a → b ≠ c → H' b = H b
theorem gS_run {s : Str} {a c : Addr} {left mixed turn : Int} {σ : L2.St} {H : Hp} {Q : VK} {v : V} (h0 : σ[0]? = some (some (.ref a))) (hH : H a = some (.dK (drawKvs c left mixed turn))) (hv : valV (drawKvs c left mixed turn) (.inr s) = some v) (q : Q v H) : gS s σ H Q :=
  ⟨.ref a, h0, a, v, rfl, .inl ⟨_, .inr s, .inl hH, rfl, hv.symm⟩, q⟩
theorem valC {c : Addr} {left mixed turn : Int} : valV (drawKvs c left mixed turn) (.inr "cells") = some (.ref c) := by rfl
theorem valL {c : Addr} {left mixed turn : Int} : valV (drawKvs c left mixed turn) (.inr "left") = some (.int left) := by rfl
theorem valM {c : Addr} {left mixed turn : Int} : valV (drawKvs c left mixed turn) (.inr "mixed") = some (.int mixed) := by rfl
theorem valT {c : Addr} {left mixed turn : Int} : valV (drawKvs c left mixed turn) (.inr "turn") = some (.int turn) := by rfl
theorem putL {c : Addr} {left mixed turn v : Int} : putK (drawKvs c left mixed turn) (.inr "left") (.int v) = drawKvs c v mixed turn := by rfl
theorem putM {c : Addr} {left mixed turn v : Int} : putK (drawKvs c left mixed turn) (.inr "mixed") (.int v) = drawKvs c left v turn := by rfl
theorem putT {c : Addr} {left mixed turn v : Int} : putK (drawKvs c left mixed turn) (.inr "turn") (.int v) = drawKvs c left mixed v := by rfl
theorem dput {a c : Addr} {left mixed turn : Int} {H : Hp} {s : Str} {v : V} {kvs : List (Key × V)} (hH : H a = some (.dK (drawKvs c left mixed turn))) (e : putK (drawKvs c left mixed turn) (.inr s) v = kvs) : DPut H a (.str s) v (upd H a (.dK kvs)) :=
  .inl ⟨_, .inr s, hH, rfl, by show 4 < sizeLine; rw [sizeLine_eq]; decide, by rw [e]⟩
/-- the def's promise -/
def spPickS : Sp := fun vs H Q _ => ∃ (a c : Addr) (n : Int), vs = [.ref a, .int n] ∧ SrcAt H a c ∧ n.natAbs.log2 < 9000 ∧ ∀ H' r, SrcAt H' a c → Else H H' a c → 0 ≤ r → r < max 1 n → Q (.int r) H'

/-- the places as they stand -/
structure Dr (H0 H : Hp) (a c : Addr) (cells : List Int) (left mixed turn : Int) : Prop where
  d : H a = some (.dK (drawKvs c left mixed turn))
  l : H c = some (.lst (cells.map V.int))
  hc : ∀ x ∈ cells, 0 ≤ x
  hl : 0 ≤ left
  hm : 0 ≤ mixed
  hm' : mixed < 2147483647
  ht : 0 ≤ turn
  els : Else H0 H a c
theorem Dr.ne {H0 H : Hp} {a c : Addr} {cells : List Int} {left mixed turn : Int} (d : Dr H0 H a c cells left mixed turn) : c ≠ a := fun e => by
  have := d.l
  rw [e, d.d] at this
  cases this
theorem Dr.at_ {H0 H : Hp} {a c : Addr} {cells : List Int} {left mixed turn : Int} (d : Dr H0 H a c cells left mixed turn) : SrcAt H a c := ⟨cells, left, mixed, turn, d.d, d.l, d.hc, d.hl, d.hm, d.hm', d.ht⟩
theorem Dr.put {H0 H : Hp} {a c : Addr} {cells : List Int} {left mixed turn left' mixed' turn' : Int} (d : Dr H0 H a c cells left mixed turn) (h1 : 0 ≤ left') (h2 : 0 ≤ mixed') (h3 : mixed' < 2147483647) (h4 : 0 ≤ turn') :
    Dr H0 (upd H a (.dK (drawKvs c left' mixed' turn'))) a c cells left' mixed' turn' :=
  ⟨upd_same, by rw [upd_ne d.ne]; exact d.l, d.hc, h1, h2, h3, h4, fun b p q => by rw [upd_ne p]; exact d.els b p q⟩
theorem maxP {σ : L2.St} {H : Hp} {Q : VK} {n : Int} (h1 : σ[1]? = some (some (.int n))) (q : Q (.int (max 1 n)) H) : tMaxP σ H Q := by
  refine ⟨.int n, h1, 1, n, rfl, ?_⟩
  have e : (if n > 1 then n else 1) = max 1 n := by split <;> omega
  rw [e]
  exact q
theorem intP {t : TE} {σ : L2.St} {H : Hp} {Q : VK} (h : t σ H fun x H' => ∃ i, x = .int i ∧ Q (.int i) H') (mono : ∀ Q Q' : VK, (∀ x H, Q x H → Q' x H) → t σ H Q → t σ H Q') : tIntP t σ H Q :=
  mono _ _ (fun x H' ⟨i, e, q⟩ => .inl ⟨i, by rw [e], q⟩) h
theorem pick_run {K : PySem.W.Frag} (vs : List V) (H : Hp) (Q : VK) (E : XK) (h : spPickS vs H Q E) : tPick K { nx := fun _ H' => Q .non H', rt := Q } (start ["source", "many", "left", "mixed"] vs) H := by
  obtain ⟨a, c, n, rfl, ⟨cells, left, mixed, turn, h1, h2, h3, h4, h5, h6, h7⟩, hn, hq⟩ := h
  have d0 : Dr H H a c cells left mixed turn := ⟨h1, h2, h3, h4, h5, h6, h7, fun _ _ _ => rfl⟩
  refine ⟨fun m σ H' => σ = [some (.ref a), some (.int n), none, none] ∧ ∃ cells left mixed turn, m = cells.length ∧ Dr H H' a c cells left mixed turn, ⟨cells.length, rfl, cells, left, mixed, turn, rfl, d0⟩, ?_⟩
  clear d0 h1 h2 h3 h4 h5 h6 h7
  clear cells left mixed turn
  rintro m σ H1 ⟨rfl, cells, left, mixed, turn, rfl, d⟩
  have done : tSeq (tAsg (gS "left") (gName 2)) (tSeq (tIfS tPickC tPickI tNext) tPickE) { nx := fun _ H' => Q .non H', rt := Q } [some (.ref a), some (.int n), none, none] H1 := by
    refine gS_run rfl d.d valL ?_
    show tIfS tPickC tPickI tNext _ [some (.ref a), some (.int n), some (.int left), none] H1
    have hif : ∀ b : Bool, (b = decide (n < 2 ∨ 1 < left)) → (if b = true then tPickI { nx := tPickE { nx := fun _ H' => Q .non H', rt := Q }, rt := Q } [some (.ref a), some (.int n), some (.int left), none] H1 else tPickE { nx := fun _ H' => Q .non H', rt := Q } [some (.ref a), some (.int n), some (.int left), none] H1) := by
      intro b hb
      have hmx : (max 1 n).natAbs.log2 < 9000 := by
        by_cases p : 1 ≤ n
        · rw [show max 1 n = n by omega]; exact hn
        · rw [show max 1 n = 1 by omega]; decide
      by_cases hc : n < 2 ∨ 1 < left
      · rw [if_pos (by rw [hb]; exact decide_eq_true hc)]
        refine ⟨_, rfl, maxP rfl ⟨left, max 1 n, rfl, rfl, ⟨by omega, hmx⟩, .ref a, rfl, a, _, rfl, dput d.d putL, ?_⟩⟩
        have d' := d.put (left' := left / max 1 n) (mixed' := mixed) (turn' := turn) (Int.ediv_nonneg d.hl (by omega)) d.hm d.hm' d.ht
        refine ⟨.int left, rfl, .inl ⟨left, rfl, maxP rfl ⟨left, max 1 n, rfl, rfl, by omega, ?_⟩⟩⟩
        exact hq _ _ d'.at_ d'.els (Int.emod_nonneg _ (by omega)) (Int.emod_lt_of_pos _ (by omega))
      · rw [if_neg (by rw [hb, decide_eq_false hc]; decide)]
        have hn2 : 2 ≤ n := by omega
        refine gS_run rfl d.d valT ⟨turn, 1, rfl, rfl, .ref a, rfl, a, _, rfl, dput d.d putT, ?_⟩
        have d1 := d.put (left' := left) (mixed' := mixed) (turn' := turn + 1) d.hl d.hm d.hm' (by have := d.ht; omega)
        refine gS_run rfl d1.d valM (gS_run rfl d1.d valT ⟨turn + 1, 104729, rfl, rfl, .inr (by decide), mixed, (turn + 1) * 104729, rfl, rfl, .inl ⟨_, rfl, _, 998244353, rfl, rfl, (by show (0 : Int) < 998244353; decide), ?_⟩⟩)
        dsimp only
        generalize hm1 : (mixed + (turn + 1) * 104729) % 998244353 = m1
        have b1 : 0 ≤ m1 := by rw [← hm1]; exact Int.emod_nonneg _ (by decide)
        have b2 : m1 < 998244353 := by rw [← hm1]; exact Int.emod_lt_of_pos _ (by decide)
        show tSeq _ _ _ [some (.ref a), some (.int n), some (.int left), some (.int m1)] _
        refine ⟨_, rfl, _, rfl, m1, m1, rfl, rfl, .inl (by omega), gS_run rfl d1.d valT ⟨turn + 1, 17, rfl, rfl, .inr (by decide), m1 * m1, (turn + 1) * 17, rfl, rfl, .inl ⟨_, rfl, _, 2147483647, rfl, rfl, (by show (0 : Int) < 2147483647; decide), ?_⟩⟩⟩
        dsimp only
        generalize hm2 : (m1 * m1 + (turn + 1) * 17) % 2147483647 = m2
        have c1 : 0 ≤ m2 := by rw [← hm2]; exact Int.emod_nonneg _ (by decide)
        have c2 : m2 < 2147483647 := by rw [← hm2]; exact Int.emod_lt_of_pos _ (by decide)
        show tSeq _ _ _ [some (.ref a), some (.int n), some (.int left), some (.int m2)] _
        refine ⟨_, rfl, .ref a, rfl, a, _, rfl, dput d1.d putM, ?_⟩
        have d2 := d1.put (left' := left) (mixed' := m2) (turn' := turn + 1) d1.hl c1 c2 d1.ht
        refine ⟨_, rfl, m2, 16, rfl, rfl, ⟨by decide, by decide⟩, .inl ⟨_, rfl, .int n, rfl, m2 / 16, n, rfl, rfl, by omega, ?_⟩⟩
        refine hq _ _ d2.at_ d2.els (Int.emod_nonneg _ (by omega)) ?_
        have := Int.emod_lt_of_pos (m2 / 16) (show 0 < n by omega)
        omega
    refine ⟨_, rfl, n, 2, rfl, rfl, _, rfl, ?_⟩
    dsimp only
    by_cases p : n < 2
    · rw [decide_eq_true p, if_pos rfl]
      exact hif true (by rw [decide_eq_true (Or.inl p)])
    · rw [decide_eq_false p, if_neg (by decide)]
      refine ⟨_, rfl, left, 1, rfl, rfl, _, rfl, ?_⟩
      dsimp only
      exact hif _ (by congr 1; simp [p])
  refine ⟨_, rfl, n, 1, rfl, rfl, _, rfl, ?_⟩
  dsimp only
  by_cases p : 1 < n
  case neg =>
    rw [decide_eq_false p, if_neg (by decide), if_neg (by decide)]
    exact done
  rw [decide_eq_true p, if_pos rfl]
  refine gS_run rfl d.d valL ⟨left, 2, rfl, rfl, _, rfl, ?_⟩
  dsimp only
  by_cases p2 : left < 2
  case neg =>
    rw [decide_eq_false p2, if_neg (by decide), if_neg (by decide)]
    exact done
  rw [decide_eq_true p2, if_pos rfl]
  refine gS_run rfl d.d valC ⟨.ref c, (cells.map V.int).length, rfl, .inl ⟨_, SqL.of d.l, rfl⟩, (((cells.map V.int).length : Nat) : Int), 0, rfl, rfl, _, rfl, ?_⟩
  dsimp only
  rcases List.eq_nil_or_concat cells with rfl | ⟨cs, x, rfl⟩
  · rw [if_neg (by simp)]
    exact done
  · rw [if_pos (by simp)]
    refine ⟨fun σ' H' => σ' = [some (.ref a), some (.int n), none, none] ∧ ∃ left, Dr H H' a c cs left mixed turn, fun σ' H' ⟨e, l, q⟩ => ⟨cs.length, by simp, e, cs, l, mixed, turn, rfl, q⟩, ?_⟩
    have hx : 0 ≤ x := d.hc x (by simp)
    have hl := d.l
    rw [List.concat_eq_append, List.map_append] at hl
    refine gS_run rfl d.d valC ⟨.inl ⟨rfl, _, SqL.of d.l⟩, c, _, .int x, rfl, rfl, hl, by simp, ?_⟩
    rw [show ((cs.map V.int) ++ [x].map V.int).dropLast = cs.map V.int by simp]
    have e : (upd H1 c (.lst (cs.map V.int))) a = some (.dK (drawKvs c left mixed turn)) := by rw [upd_ne d.ne.symm]; exact d.d
    refine ⟨.ref a, rfl, a, _, rfl, dput e putL, rfl, x, upd_same, ?_, fun y hy => d.hc y (by simp [hy]), hx, d.hm, d.hm', d.ht, fun b q1 q2 => ?_⟩
    · rw [upd_ne d.ne, upd_same]
    · rw [upd_ne q1, upd_ne q2]; exact d.els b q1 q2

def tMixE : TE := tOp dModR (tIntP (tOp dAddR (tOp dAddR (tOp dMulR (tVar 1) (tC (.int 69069))) (tOp dMulR (tVar 2) (tC (.int 31)))) (tC (.int 5)))) (tC (.int 2147483629))
def tSrcD (K : PySem.W.Frag) : TE := tDisp [(tC (.str "cells"), tRevA K (tLc (iList K (tVar 0)) (gName 2) tYes (tCB dAbsR (tCons (tVar 2) tNil)) [2])), (tC (.str "left"), tC (.int 1)), (tC (.str "mixed"), tVar 1), (tC (.str "turn"), tC (.int 0))]
def tSrc (K : PySem.W.Frag) : TS := tSeq (tAsg (tC (.int 11)) (gName 1)) (tSeq (tFor (iList K (tVar 0)) (gName 2) (tAsg tMixE (gName 1))) (tRet (tSrcD K)))
def spSrcS (K : PySem.W.Frag) : Sp := fun vs H Q _ => ∃ (l : Addr) (ns : List Int), vs = [.ref l] ∧ SqL K H l (ns.map V.int) ∧ ns.length ≤ sizeLine ∧ ∀ H' a c, H a = none → H c = none → Sub H H' → SrcAt H' a c → Q (.ref a) H'
theorem Sub.upd {H H' : Hp} (h : Sub H H') {p : Addr} {u : HO} (n : H p = none) : Sub H (upd H' p u) := fun b w e => by
  rw [upd_ne (ne_of_none e n)]
  exact h b w e
theorem src_run {K : PySem.W.Frag} (vs : List V) (H : Hp) (Q : VK) (E : XK) (h : spSrcS K vs H Q E) : tSrc K { nx := fun _ H' => Q .non H', rt := Q } (start ["script", "mixed", "cell"] vs) H := by
  obtain ⟨l, ns, rfl, hS, hz, hq⟩ := h
  show tSeq _ _ _ [some (.ref l), some (.int 11), none] H
  refine ⟨.ref l, rfl, l, rfl, ⟨_, hS⟩, ?_⟩
  refine for_list (xs := ns.map V.int) (fun i σ H' => H' = H ∧ ∃ m c, σ = [some (.ref l), some (.int m), c] ∧ 0 ≤ m ∧ m < 2147483647) ⟨rfl, 11, none, rfl, by decide, by decide⟩ (fun i σ H' _ ⟨e, _⟩ => by rw [e]; exact hS) ?_ ?_
  · rintro i x σ H' hx ⟨rfl, m, c, rfl, m0, m1⟩
    obtain ⟨n, _, rfl⟩ := List.mem_map.mp (List.mem_of_getElem? hx)
    refine ⟨_, rfl, m, 69069, rfl, rfl, .inr ⟨by decide, by decide⟩, _, rfl, n, 31, rfl, rfl, .inr ⟨by decide, by decide⟩, m * 69069, n * 31, rfl, rfl, _, 5, rfl, rfl, .inl ⟨_, rfl, _, 2147483629, rfl, rfl, (by show (0 : Int) < 2147483629; decide), rfl, _, _, rfl, Int.emod_nonneg _ (by decide), ?_⟩⟩
    have := Int.emod_lt_of_pos (m * 69069 + n * 31 + 5) (show (0 : Int) < 2147483629 by decide)
    omega
  · rintro σ H' ⟨rfl, m, c, rfl, m0, m1⟩
    intro p hp
    have hSp := (show Sub H' (upd H' p (.dK [])) from (Sub.refl H').upd hp).sqL hS
    refine ⟨.ref l, rfl, l, rfl, ⟨_, hSp⟩, fun D hD => ?_⟩
    have hDp : D ≠ p := fun e => by rw [e, upd_same] at hD; cases hD
    have hD' : H' D = none := by rw [upd_ne hDp] at hD; exact hD
    refine lc_list (xs := ns.map V.int) (fun i H2 => ∃ acc : List Int, acc.length = i ∧ (∀ x ∈ acc, 0 ≤ x) ∧ H2 = upd (upd H' p (.dK [])) D (.lst (acc.map V.int))) ⟨[], rfl, by simp, rfl⟩ ?_ ?_ ?_
    · rintro i H2 _ ⟨acc, _, _, rfl⟩
      exact (show Sub (upd H' p (.dK [])) _ from (Sub.refl _).upd hD).sqL hSp
    · rintro i x H2 hx ⟨acc, rfl, hacc, rfl⟩
      obtain ⟨n, _, rfl⟩ := List.mem_map.mp (List.mem_of_getElem? hx)
      have hlt : acc.length < ns.length := by
        obtain ⟨h1, _⟩ := List.getElem?_eq_some_iff.mp hx
        simpa using h1
      refine ⟨rfl, ?_⟩
      show tCB dAbsR (tCons (tVar 2) tNil) _ _ _
      refine ⟨_, rfl, n, rfl, acc.map V.int, upd_same, by simp; omega, acc ++ [if n < 0 then -n else n], by simp, ?_, ?_⟩
      · intro y hy
        rcases List.mem_append.mp hy with hy | hy
        · exact hacc y hy
        · obtain rfl := List.mem_singleton.mp hy
          split <;> omega
      · rw [upd_upd, List.map_append]
        rfl
    · rintro H2 ⟨acc, _, hacc, rfl⟩
      refine .inl ⟨D, acc.map V.int, rfl, SqL.of upd_same, fun c hc => ?_⟩
      have hcD : c ≠ D := fun e => by rw [e, upd_same] at hc; cases hc
      have hc1 := hc
      rw [upd_ne hcD] at hc1
      have hcp : c ≠ p := fun e => by rw [e, upd_same] at hc1; cases hc1
      rw [upd_ne hcp] at hc1
      refine ⟨_, rfl, ?_⟩
      have hp2 : (upd (upd (upd H' p (.dK [])) D (.lst (acc.map V.int))) c (.lst ((acc.map V.int).reverse))) p = some (.dK []) := by
        rw [upd_ne hcp.symm, upd_ne hDp.symm, upd_same]
      refine ⟨hp2, drawKvs c 1 m 0, rfl, (by show 4 ≤ 15; decide), ?_⟩
      refine hq _ p c hp hc1 ?_ ?_
      · exact ((((Sub.refl H').upd hp).upd hD').upd hc1).upd hp
      · refine ⟨acc.reverse, 1, m, 0, ?_, ?_, fun x hx => hacc x (by simpa using hx), by decide, m0, m1, by decide⟩
        · rw [upd_same]; rfl
        · rw [upd_ne hcp, upd_same, List.map_reverse]
end DL
/-! DTop -/
namespace DL
open PySem PySem.Spec PyProof.Rows L2
section
variable {P : Program} {w : World} {K : PySem.W.Frag} {mg : Str → Option Value} {base : Heap} {k : Nat} {f : Addr} {x qual : Str} {params : Arguments} {body : List Stmt} {scope : Scope} {fd : FuncData} {N ps : List Str} {sp : FSp} {spS : Sp} {t : TS}
/-- a def shown over the abstract heap -/
theorem fn_hand (F : FunD K x qual params body scope [] [] f fd) (hm : mg x = some (.ref f)) (hb : Binds K fd ps []) (S : FnScope N ps scope) (hlen : ∀ ds Q E, sp ds Q E → ds.length = ps.length)
    (hbody : ∀ (cdv : Value) (A : Around) (outer : List Env) (s : Shared) (H : Hp) (E : XK), Good (cxOf (L2.CX P w) P w K mg base N qual scope f cdv A outer s H E) k → PSs (cxOf (L2.CX P w) P w K mg base N qual scope f cdv A outer s H E) body t)
    (hrun : ∀ vs H Q E, spS vs H Q E → t { nx := fun _ H' => Q .non H', rt := Q } (start N vs) H) (hl : ∀ vs H Q E, lift mg K ps.length sp vs H Q E → spS vs H Q E) : Fn P w K mg base (k + 1) x ps sp :=
  ⟨hlen, f, fd, hm, F.kp, hb, fng_of F S (fun vs H Q E h => h.1) fun cdv A outer s H vs Q E hr hgd h => ⟨t, hbody cdv A outer s H E ⟨rfl, hr, hgd⟩, hrun vs H Q E (hl vs H Q E h)⟩⟩
end
def fPick : FSp := fun ds Q _ => ∃ n : Int, ds = [.src, .int n] ∧ n.natAbs.log2 < 9000 ∧ ∀ r : Int, 0 ≤ r → r < max 1 n → Q (.val (.int r))
def fSrc : FSp := fun ds Q _ => ∃ ns : List Int, ds = [.scr ns] ∧ ns.length ≤ sizeLine ∧ Q (.val .src)
theorem At.src_inv {K : PySem.W.Frag} {Z : Zs} {F : Hp} {v : V} (h : At K Z F v .src) : ∃ a c, v = .ref a ∧ (a, c) ∈ Z := by
  cases h with
  | src h => exact ⟨_, _, rfl, h⟩
theorem At.scr_inv {K : PySem.W.Frag} {Z : Zs} {F : Hp} {v : V} {ns : List Int} (h : At K Z F v (.scr ns)) : ∃ a, v = .ref a ∧ SqL K F a (ns.map V.int) := by
  cases h with
  | scr h => exact ⟨_, rfl, h⟩
theorem step_draw {g : Gh} (ok : g.Ok) {a c : Addr} (hz : (a, c) ∈ g.Z) {H' : Hp} (hs : SrcAt H' a c) (he : Else g.H H' a c) : Step g ⟨g.Z, g.F, H'⟩ := by
  have keepIt : ∀ b u, ¬ inZ g.Z b → g.H b = some u → H' b = some u := fun b u n e => by
    rw [he b (fun q => n ⟨_, hz, .inl q⟩) fun q => n ⟨_, hz, .inr q⟩]
    exact e
  refine ⟨⟨fun b u e => keepIt b u (fun z => by rw [ok.nz b z] at e; cases e) (ok.sub b u e), ⟨fun p hp => ?_, ok.src.ap⟩, ok.nz⟩, Sub.refl _, fun _ n m => absurd n m, fun b u e n => keepIt b u n e, fun _ q => q, fun _ q => .inl q⟩
  by_cases e : p = (a, c)
  · subst e
    exact hs
  · obtain ⟨_, _, _, _, a1, a2, _⟩ := (ok.src.ok _ hz).ex
    obtain ⟨_, _, _, _, b1, b2, _⟩ := (ok.src.ok _ hp).ex
    refine (ok.src.ok p hp).keep fun b u hb q => ?_
    have n1 : p.1 ≠ a := fun z => e (ok.src.ap p hp _ hz (.inl z))
    have n2 : p.2 ≠ c := fun z => e (ok.src.ap p hp _ hz (.inr z))
    have n3 : p.1 ≠ c := fun z => by
      rw [z] at b1
      have := b1.symm.trans a2
      cases this
    have n4 : p.2 ≠ a := fun z => by
      rw [z] at b2
      have := b2.symm.trans a1
      cases this
    show H' b = some u
    rw [he b]
    · exact q
    · rcases hb with rfl | rfl <;> assumption
    · rcases hb with rfl | rfl <;> assumption
theorem step_newSrc {g : Gh} (ok : g.Ok) {a c : Addr} (ha : g.H a = none) (hc : g.H c = none) {H' : Hp} (hs : SrcAt H' a c) (he : Sub g.H H') : Step g ⟨(a, c) :: g.Z, g.F, H'⟩ := by
  have far : ∀ p ∈ g.Z, p.1 ≠ a ∧ p.1 ≠ c ∧ p.2 ≠ a ∧ p.2 ≠ c := fun p hp => by
    obtain ⟨_, _, _, _, b1, b2, _⟩ := (ok.src.ok _ hp).ex
    exact ⟨ne_of_none b1 ha, ne_of_none b1 hc, ne_of_none b2 ha, ne_of_none b2 hc⟩
  refine ⟨⟨ok.sub.trans he, ⟨fun p hp => ?_, fun p hp q hq e => ?_⟩, fun b z => ?_⟩, Sub.refl _, fun _ n m => absurd n m, fun b u e _ => he b u e, fun _ q => List.mem_cons_of_mem _ q, fun b z => ?_⟩
  · rcases List.mem_cons.mp hp with rfl | hp
    · exact hs
    · exact (ok.src.ok p hp).keep fun b u _ q => he b u q
  · rcases List.mem_cons.mp hp with rfl | hp <;> rcases List.mem_cons.mp hq with rfl | hq
    · rfl
    · rcases e with e | e
      · exact absurd e.symm (far q hq).1
      · exact absurd e.symm (far q hq).2.2.2
    · rcases e with e | e
      · exact absurd e (far p hp).1
      · exact absurd e (far p hp).2.2.2
    · exact ok.src.ap p hp q hq e
  · obtain ⟨p, hp, e⟩ := z
    rcases List.mem_cons.mp hp with rfl | hp
    · rcases e with rfl | rfl
      · exact ok.noF ha
      · exact ok.noF hc
    · exact ok.nz b ⟨p, hp, e⟩
  · obtain ⟨p, hp, e⟩ := z
    rcases List.mem_cons.mp hp with rfl | hp
    · rcases e with rfl | rfl
      · exact .inr ha
      · exact .inr hc
    · exact .inl ⟨p, hp, e⟩
theorem pick_lift {mg : Str → Option Value} {K : PySem.W.Frag} (vs : List V) (H : Hp) (Q : VK) (E : XK) (h : lift mg K 2 fPick vs H Q E) : spPickS vs H Q E := by
  obtain ⟨_, g, ds, Qd, Ed, rfl, ok, as, ⟨n, rfl, hn, hq⟩, kq, _⟩ := h
  obtain ⟨v, u, rfl, h1, h2⟩ := as.two_inv
  obtain ⟨a, c, rfl, hz⟩ := h1.src_inv
  rw [h2.int_inv]
  refine ⟨a, c, n, rfl, ok.src.ok _ hz, hn, fun H' r hs he r0 r1 => ?_⟩
  have s1 := step_draw ok hz hs he
  exact kq _ _ _ s1 (.val (.int r)) (hq r r0 r1)
theorem src_lift {mg : Str → Option Value} {K : PySem.W.Frag} (vs : List V) (H : Hp) (Q : VK) (E : XK) (h : lift mg K 1 fSrc vs H Q E) : spSrcS K vs H Q E := by
  obtain ⟨_, g, ds, Qd, Ed, rfl, ok, as, ⟨ns, rfl, hn, hq⟩, kq, _⟩ := h
  obtain ⟨v, rfl, h1⟩ := as.one_inv
  obtain ⟨a, rfl, hz⟩ := h1.scr_inv
  refine ⟨a, ns, rfl, ok.sub.sqL hz, hn, fun H' p c hp hc he hs => ?_⟩
  have s1 := step_newSrc ok hp hc hs he
  exact kq _ _ _ s1 (.val (.src (List.mem_cons_self ..))) hq

/-- at the heap behind the top, the law's script the one thing known -/
def scrH (a : Addr) (o : Obj) (xs : List V) : Hp := fun b => if b = a then some (.frz o (.lst xs)) else none
theorem scrH_at {a : Addr} {o : Obj} {xs : List V} : scrH a o xs a = some (.frz o (.lst xs)) := if_pos rfl
theorem scrH_ne {a b : Addr} {o : Obj} {xs : List V} (h : b ≠ a) : scrH a o xs b = none := if_neg h
def emptyH : Hp := fun _ => none
theorem gh0 {H : Hp} : Gh.Ok ⟨[], H, H⟩ := ⟨Sub.refl _, ⟨fun p hp => by simp at hp, fun p hp => by simp at hp⟩, fun a ⟨p, hp, _⟩ => by simp at hp⟩
section
variable {P : Program} {w : World} {K : PySem.W.Frag} {mg mb : Str → Option Value} {k : Nat} {fa a : Addr} {fd : FuncData} {x : Str} {sp : FSp} {s1 : Shared} {vs : List Value} {ns : List Int}
/-- what is left once the abstract heap is chosen -/
theorem end_core (KX : K.In s1.heap) (hns : s1.heap.Ns mainGlobals mg) (hb : s1.heap.Ns builtinsNs mb) (hbb : ∀ z : Str, z ≠ "__name__" → mb z = bootBuiltins z) (hlim : s1.heap.NoLimit) (hg : s1.gens = #[])
    (ha : s1.heap.get? a = some { cls := .type "list", data := .seq vs.toArray }) (hr : Room k callerA)
    (F : ∀ base : Heap, K.In base → base.Ns mainGlobals mg → FnG P w K mg base (L2.CX P w) k fa fd [x] (lift mg K 1 sp)) (hbind : ∀ (s : Shared) (u : Value), BindsTo s fd ⟨[u], []⟩ [(x, u)])
    (hsp : sp [.scr ns] (fun o => o = .val (.bl true)) fun _ => False)
    (H : Hp) (hO : ∀ b, b ≠ a → H b = none) (hFr : H a = none ∨ ∃ o xs, H a = some (.frz o (.lst xs))) (hS : SqL K H a (ns.map V.int)) (hok : HOk P w H s1.heap) (hK : H a ≠ none → K.lookup a = none) :
    codeAny (model P w) callerA (.call (.ref fa) ⟨[.ref a], []⟩) (fun r s' => r = .ok (.ret (.bool true)) ∧ OldK s1.heap s'.heap ∧ s'.os = s1.os ∧ AllBare s'.gens) s1 := by
  have isA : ∀ {b : Addr}, H b ≠ none → b = a := fun {b} n => by
    by_cases e : b = a
    · exact e
    · exact absurd (hO b e) n
  have free : ∀ {b : Addr} {o : Obj}, s1.heap.get? b = some o → (b = a → ¬ ∃ es ep, o.data = .dict es ep) ∨ H b = none := fun {b o} e => by
    by_cases n : H b = none
    · exact .inr n
    · refine .inl fun q => ?_
      subst q
      rintro ⟨es, ep, d⟩
      rw [ha] at e
      cases e
      exact nomatch d
  have dictFree : ∀ {b : Addr} {o : Obj} {es : Array DictEntry} {ep : Nat}, s1.heap.get? b = some o → o.data = .dict es ep → H b = none := fun {b o es ep} e d => by
    by_cases n : H b = none
    · exact n
    · rcases free e with q | q
      · exact absurd ⟨es, ep, d⟩ (q (isA n))
      · exact q
  have up : ∀ {b : Addr} {m : Str → Option Value}, s1.heap.Ns b m → (hidT s1.heap H).Ns b m := fun ⟨o, es, ep, e, d, r⟩ => ⟨o, es, ep, hidT_get e (dictFree e d), d, r⟩
  have kin : K.In (hidT s1.heap H) := fun b o e => hidT_get (KX b o e) (by
    by_cases n : H b = none
    · exact n
    · obtain rfl := isA n
      rw [hK n] at e
      cases e)
  obtain ⟨mc, l1, l2⟩ := hlim
  have env0 : Env0 P w K mg (hidT s1.heap H) callerA [] s1 H := ⟨rfl, ⟨kin, up hns, ⟨mb, up hb, hbb⟩, mc, up l1, l2⟩, fun _ _ e => of_hidT e, Nat.le_of_eq (hidT_size _ _), trivial, fun b z => by simp [frs] at z, hok, .of_eq hg⟩
  have prem : lift mg K 1 sp [.ref a] H (fun v _ => v = .bl true) fun _ _ _ => False := by
    refine ⟨rfl, ⟨[], H, H⟩, [.scr ns], _, _, rfl, gh0, .one (.scr hS), hsp, fun v o g' _ r e => ?_, fun _ _ _ _ _ _ q => q⟩
    subst e
    obtain ⟨cs, r, _⟩ := r
    cases r with
    | val h => exact h.bl_inv
  refine codeAny_mono ((F _ kin (up hns)).run callerA [] s1 H ⟨[.ref a], []⟩ [.ref a] [.ref a] _ _ hr rfl env0 (hbind s1 (.ref a)) (.cons rfl .nil) prem) fun r s' h => ?_
  match r, h with
  | .error e, h =>
    obtain ⟨_, _, _, _, _, _, _, _, _, _, _, _, q⟩ := h
    exact q.elim
  | .ok .next, h => exact h.elim
  | .ok .brk, h => exact h.elim
  | .ok .cont, h => exact h.elim
  | .ok (.ret u), h =>
    obtain ⟨v, H', os, bare, un, hok', rel, q⟩ := h
    have q : v = .bl true := q
    subst q
    have rel : u = Value.bool true := rel
    subst rel
    refine ⟨rfl, OldK.of_keep fun b o e => ?_, os, bare⟩
    by_cases n : H b = none
    · exact un.keep b o e n (fun z => by simp [frs] at z) (by simp)
    · obtain rfl := isA n
      rcases hFr with z | ⟨ob, xs, z⟩
      · exact absurd z n
      · have e1 := (hok b _ z).1
        have e2 := (hok' b _ (un.frzs b ob _ z)).1
        rw [e] at e1
        cases e1
        exact e2
theorem law_end (KX : K.In s1.heap) (hns : s1.heap.Ns mainGlobals mg) (hb : s1.heap.Ns builtinsNs mb) (hbb : ∀ z : Str, z ≠ "__name__" → mb z = bootBuiltins z) (hlim : s1.heap.NoLimit) (hg : s1.gens = #[])
    (ha : s1.heap.get? a = some { cls := .type "list", data := .seq vs.toArray }) (hi : IntsAre vs ns) (hl : ns.length ≤ sizeLine) (hr : Room k callerA)
    (F : ∀ base : Heap, K.In base → base.Ns mainGlobals mg → FnG P w K mg base (L2.CX P w) k fa fd [x] (lift mg K 1 sp)) (hbind : ∀ (s : Shared) (u : Value), BindsTo s fd ⟨[u], []⟩ [(x, u)])
    (hsp : sp [.scr ns] (fun o => o = .val (.bl true)) fun _ => False) :
    codeAny (model P w) callerA (.call (.ref fa) ⟨[.ref a], []⟩) (fun r s' => r = .ok (.ret (.bool true)) ∧ OldK s1.heap s'.heap ∧ s'.os = s1.os ∧ AllBare s'.gens) s1 := by
  have rv := vals_ints hi
  have lenV := hi.length
  by_cases hk : K.lookup a = none
  · refine end_core KX hns hb hbb hlim hg ha hr F hbind hsp (scrH a { cls := .type "list", data := .seq vs.toArray } (ns.map V.int)) (fun b n => scrH_ne n) (.inr ⟨_, _, scrH_at⟩) (.inl (.inr ⟨_, scrH_at⟩)) (fun b u z => ?_) fun _ => hk
    by_cases e : b = a
    · subst e
      rw [scrH_at] at z
      cases z
      exact ⟨ha, by simpa using hl, vs, _, rv, ha⟩
    · rw [scrH_ne e] at z
      cases z
  · obtain ⟨o, ho⟩ := Option.ne_none_iff_exists'.mp hk
    have e := KX a o ho
    rw [ha] at e
    cases e
    refine end_core KX hns hb hbb hlim hg ha hr F hbind hsp emptyH (fun _ _ => rfl) (.inl rfl) (.inr ⟨_, vs.toArray, _, ho, rfl, rfl, rfl, by rw [List.size_toArray, lenV]; exact hl, by simpa using rv⟩) (fun b u z => by simp [emptyH] at z) fun n => absurd rfl n
end
/-- the walk of a law whose promise is by data -/
theorem walk_D {l : PySem.W.OpenLaw} {n k : Nat} {q : Program} {loose : List Str} {XP : (Str → Option Value) → Heap → Prop} {YP : World → Heap → Prop} {d : DefRec} {x : Str} (hn : l.most = some n) (hn2 : n ≤ sizeLine) (hdf : d.params.defaults = []) (hr : Room k callerA)
    (F : ∀ (w : World) (mg : Str → Option Value) (fa : Addr) (h : Heap), YP w h → h.Ns mainGlobals mg → mg d.name = some (.ref fa) →
      ∃ (K : PySem.W.Frag) (fd : FuncData) (sp : FSp), K.In h ∧ (∀ (s : Shared) (u : Value), BindsTo s fd ⟨[u], []⟩ [(x, u)]) ∧ (∀ ns : List Int, ns.length ≤ n → sp [.scr ns] (fun o => o = .val (.bl true)) fun _ => False) ∧
        ∀ base : Heap, K.In base → base.Ns mainGlobals mg → FnG l.prog w K mg base (L2.CX l.prog w) k fa fd [x] (lift mg K 1 sp)) :
    PySem.W.WalkO q loose XP YP l.row.toRowW d [] (fun f vs => PySem.call f vs) := by
  refine Att.attach_call hn hdf fun w s0 s1 mg mb fa o pm cd doc a vs ns G Y ho hd hcd hmg hobj hints hlen hg => ?_
  obtain ⟨K, fd, sp, KX, hb, hsp, hF⟩ := F w mg fa _ Y G.T.g hmg
  exact law_end KX G.T.g G.T.b G.T.builtins G.T.nolimit hg hobj hints (Nat.le_trans hlen hn2) hr hF hb (hsp ns hlen)
theorem bt_len : bootBuiltins "len" = some (.builtin "len") := by decide +kernel
theorem bt_int : bootBuiltins "int" = some (.type "int") := by decide +kernel
theorem bt_abs : bootBuiltins "abs" = some (.builtin "abs") := by decide +kernel
theorem bt_max : bootBuiltins "max" = some (.builtin "max") := by decide +kernel
theorem bt_min : bootBuiltins "min" = some (.builtin "min") := by decide +kernel
theorem bt_tuple : bootBuiltins "tuple" = some (.type "tuple") := by decide +kernel
theorem bt_list : bootBuiltins "list" = some (.type "list") := by decide +kernel
theorem bt_repr : bootBuiltins "repr" = some (.builtin "repr") := by decide +kernel
theorem bt_sum : bootBuiltins "sum" = some (.builtin "sum") := by decide +kernel
theorem bt_sorted : bootBuiltins "sorted" = some (.builtin "sorted") := by decide +kernel
theorem bt_set : bootBuiltins "set" = some (.type "set") := by decide +kernel
theorem bt_all : bootBuiltins "all" = some (.builtin "all") := by decide +kernel
theorem bt_any : bootBuiltins "any" = some (.builtin "any") := by decide +kernel
end DL
/-! DSim -/
namespace DL
open PySem PySem.Spec PyProof.Rows L2

section
variable {env : DEnv} {Q : O → Prop} {E : EX} {w wa wb wc : WE} {t u : WT} {ws : WA}
@[simp] theorem eVar_0 {d : D} {r : DEnv} : eVar 0 (some d :: r) Q E = Q (.val d) := rfl
@[simp] theorem eVar_s {i : Nat} {x : Option D} {r : DEnv} : eVar (i + 1) (x :: r) Q E = eVar i r Q E := by simp [eVar]
@[simp] theorem eC_v {d : D} : eC d env Q E = Q (.val d) := rfl
@[simp] theorem eBin_v {f : D → D → PQ} : eBin f wa wb env Q E = wa env (fun x => wb env (fun y => f x.d y.d Q) E) E := rfl
@[simp] theorem eUn_v {f : D → PQ} : eUn f wa env Q E = wa env (fun x => f x.d Q) E := rfl
@[simp] theorem eIf_v : eIf t wa wb env Q E = t env (fun c => if c = true then wa env Q E else wb env Q E) E := rfl
@[simp] theorem eB_v {f : List D → PQ} : eB f ws env Q E = ws env (fun os => f (O.ds os) Q) E := rfl
@[simp] theorem eCall_v {sp : FSp} : eCall sp ws env Q E = ws env (fun os => sp (O.ds os) Q E) E := rfl
@[simp] theorem eTup_v : eTup ws env Q E = ws env (fun os => os.length ≤ sizeLine ∧ Q (.val (.tup (O.ds os)))) E := rfl
@[simp] theorem eLst_v : eLst ws env Q E = ws env (fun os => os.length ≤ sizeLine ∧ Q (.lst os)) E := rfl
@[simp] theorem eAnd_v : eAnd wa wb env Q E = wa env (fun o => blD (fun c => if c = true then wb env Q E else Q (.val (.bl false))) o.d) E := rfl
@[simp] theorem eOr_v : eOr wa wb env Q E = wa env (fun o => blD (fun c => if c = true then Q (.val (.bl true)) else wb env Q E) o.d) E := rfl
@[simp] theorem eNot_v : eNot wa env Q E = wa env (fun o => blD (fun c => Q (.val (.bl (!c)))) o.d) E := rfl
@[simp] theorem eChain_v {f f' : D → D → PQ} : eChain f f' wa wb wc env Q E = wa env (fun x => wb env (fun y => f x.d y.d fun z => blD (fun k => if k = true then wc env (fun u => f' y.d u.d Q) E else Q (.val (.bl false))) z.d) E) E := rfl
@[simp] theorem eSl_v {wl wh : WO} : eSl w wl wh env Q E = w env (fun o => wl env (fun l => wh env (fun h => sliceD o.d l h Q) E) E) E := rfl
@[simp] theorem oNo_v {Q : Option Int → Prop} : oNo env Q E = Q none := rfl
@[simp] theorem oSo_v {Q : Option Int → Prop} : oSo w env Q E = w env (fun o => match o.d with | .int i => Q (some i) | _ => False) E := rfl
@[simp] theorem aNil_v {Q : List O → Prop} : aNil env Q E = Q [] := rfl
@[simp] theorem aCons_v {Q : List O → Prop} : aCons w ws env Q E = w env (fun o => ws env (fun os => Q (o :: os)) E) E := rfl
@[simp] theorem aStar_v {Q : List O → Prop} : aStar w ws env Q E = w env (fun o => itemsD o.d fun ds => ws env (fun os => Q (ds.map .val ++ os)) E) E := rfl
@[simp] theorem tBl_v {Q : Bool → Prop} : tBl w env Q E = w env (fun o => blD Q o.d) E := rfl
@[simp] theorem tTru_v {Q : Bool → Prop} : tTru w env Q E = w env (fun o => truD Q o.d) E := rfl
@[simp] theorem wAnd_v {Q : Bool → Prop} : wAnd t u env Q E = t env (fun c => if c = true then u env Q E else Q false) E := rfl
@[simp] theorem wOr_v {Q : Bool → Prop} : wOr t u env Q E = t env (fun c => if c = true then Q true else u env Q E) E := rfl
@[simp] theorem wNot_v {Q : Bool → Prop} : wNot t env Q E = t env (fun c => Q (!c)) E := rfl
@[simp] theorem wYes_v {Q : Bool → Prop} : wYes env Q E = Q true := rfl
@[simp] theorem eLc_v {wi : WI} {p : Pat} {wt : WT} {vs : List Nat} : eLc wi p wt w vs env Q E = wi env (fun ds => lcD p wt w (wipeD env vs) ds [] (fun os => Q (.lst os))) E := rfl
@[simp] theorem iSeq_v {Q : List D → Prop} : iSeq w env Q E = w env (fun o => itemsD o.d Q) E := rfl
@[simp] theorem iRevD_v {Q : List D → Prop} : iRevD w env Q E = w env (fun o => itemsD o.d fun ds => Q ds.reverse) E := rfl
@[simp] theorem iRg_v {f : (List D → Prop) → List D → Prop} {Q : List D → Prop} : iRg f ws env Q E = ws env (fun os => f Q (O.ds os)) E := rfl
@[simp] theorem blD_v {Q : Bool → Prop} {b : Bool} : blD Q (.bl b) = Q b := rfl
@[simp] theorem truD_bl {Q : Bool → Prop} {b : Bool} : truD Q (.bl b) = Q b := rfl
@[simp] theorem truD_int {Q : Bool → Prop} {i : Int} : truD Q (.int i) = Q (i != 0) := rfl
@[simp] theorem truD_tup {Q : Bool → Prop} {ds : List D} : truD Q (.tup ds) = Q (!ds.isEmpty) := rfl
@[simp] theorem truD_lst {Q : Bool → Prop} {ds : List D} : truD Q (.lst ds) = Q (!ds.isEmpty) := rfl
@[simp] theorem itemsD_tup {Q : List D → Prop} {ds : List D} : itemsD (.tup ds) Q = Q ds := rfl
@[simp] theorem itemsD_lst {Q : List D → Prop} {ds : List D} : itemsD (.lst ds) Q = Q ds := rfl
@[simp] theorem addD_int {i j : Int} : addD (.int i) (.int j) Q = Q (.val (.int (i + j))) := rfl
@[simp] theorem subD_int {i j : Int} : subD (.int i) (.int j) Q = Q (.val (.int (i - j))) := rfl
@[simp] theorem modD_int {i j : Int} : modD (.int i) (.int j) Q = (j ≠ 0 ∧ Q (.val (.int (i.fmod j)))) := rfl
@[simp] theorem fdivWD_int {i j : Int} : fdivWD (.int i) (.int j) Q = ((0 < j ∧ j.natAbs.log2 < 9000) ∧ Q (.val (.int (i / j)))) := rfl
@[simp] theorem powD_int {i j : Int} : powD (.int i) (.int j) Q = (CPow i j ∧ Q (.val (.int (i ^ j.toNat)))) := rfl
@[simp] theorem mulA_int {i j : Int} : mulA (.int i) (.int j) Q = (MulOk i j ∧ Q (.val (.int (i * j)))) := rfl
@[simp] theorem mulA_lst {xs : List D} {k : Int} : mulA (.lst xs) (.int k) Q = ((-(2 ^ 63) ≤ k ∧ k < 2 ^ 63 ∧ xs.length * k.toNat ≤ sizeLine) ∧ Q (.lst (((List.replicate k.toNat xs).flatten).map .val))) := rfl
@[simp] theorem mulA_tup {xs : List D} {k : Int} : mulA (.tup xs) (.int k) Q = ((-(2 ^ 63) ≤ k ∧ k ≤ 1000 ∧ xs.length ≤ 1000) ∧ Q (.val (.tup (List.replicate k.toNat xs).flatten))) := rfl
@[simp] theorem fI_v {f : Int → Int → D} {i j : Int} : fI f (.int i) (.int j) Q = Q (.val (f i j)) := rfl
@[simp] theorem fIC_v {C : Int → Int → Prop} {f : Int → Int → D} {i j : Int} : fIC C f (.int i) (.int j) Q = (C i j ∧ Q (.val (f i j))) := rfl
@[simp] theorem ltD_int {i j : Int} : ltD (.int i) (.int j) Q = Q (.val (.bl (decide (i < j)))) := rfl
@[simp] theorem leD_int {i j : Int} : leD (.int i) (.int j) Q = Q (.val (.bl (decide (i ≤ j)))) := rfl
@[simp] theorem gtD_int {i j : Int} : gtD (.int i) (.int j) Q = Q (.val (.bl (decide (j < i)))) := rfl
@[simp] theorem geD_int {i j : Int} : geD (.int i) (.int j) Q = Q (.val (.bl (decide (j ≤ i)))) := rfl
@[simp] theorem eqD_v {a b : D} : eqD a b Q = (okE a ∧ okE b ∧ Q (.val (.bl (eqB a b)))) := rfl
@[simp] theorem neD_v {a b : D} : neD a b Q = (okE a ∧ okE b ∧ Q (.val (.bl (!eqB a b)))) := rfl
@[simp] theorem isND_v {a b : D} : isND a b Q = (isNoneB b = true ∧ Q (.val (.bl (isNoneB a)))) := rfl
@[simp] theorem notND_v {a b : D} : notND a b Q = (isNoneB b = true ∧ Q (.val (.bl (!isNoneB a)))) := rfl
@[simp] theorem isBD_v {a b : Bool} : isBD (.bl a) (.bl b) Q = Q (.val (.bl (decide (a = b)))) := rfl
@[simp] theorem notBD_v {a b : Bool} : notBD (.bl a) (.bl b) Q = Q (.val (.bl (!decide (a = b)))) := rfl
@[simp] theorem negD_int {i : Int} : negD (.int i) Q = Q (.val (.int (-i))) := rfl
@[simp] theorem inD_lst {a : D} {ds : List D} : inD a (.lst ds) Q = (okE a ∧ okE (.lst ds) ∧ Q (.val (.bl (ds.any fun z => eqB z a)))) := rfl
@[simp] theorem notInD_lst {a : D} {ds : List D} : notInD a (.lst ds) Q = (okE a ∧ okE (.lst ds) ∧ Q (.val (.bl (!ds.any fun z => eqB z a)))) := rfl
@[simp] theorem lenD_tup {ds : List D} : lenD [.tup ds] Q = Q (.val (.int ds.length)) := rfl
@[simp] theorem lenD_lst {ds : List D} : lenD [.lst ds] Q = Q (.val (.int ds.length)) := rfl
@[simp] theorem tupleD_tup {ds : List D} : tupleD [.tup ds] Q = Q (.val (.tup ds)) := rfl
@[simp] theorem tupleD_lst {ds : List D} : tupleD [.lst ds] Q = Q (.val (.tup ds)) := rfl
@[simp] theorem listD_tup {ds : List D} : listD [.tup ds] Q = Q (.lst (ds.map .val)) := rfl
@[simp] theorem listD_lst {ds : List D} : listD [.lst ds] Q = Q (.lst (ds.map .val)) := rfl
@[simp] theorem intD_int {i : Int} : intD [.int i] Q = Q (.val (.int i)) := rfl
@[simp] theorem absD_int {i : Int} : absD [.int i] Q = Q (.val (.int (if i < 0 then -i else i))) := rfl
@[simp] theorem max2D_int {i j : Int} : max2D [.int i, .int j] Q = Q (.val (.int (max i j))) := by
  show Q (.val (.int (if j > i then j else i))) = _
  rw [show (if j > i then j else i) = max i j by split <;> omega]
@[simp] theorem min2D_int {i j : Int} : min2D [.int i, .int j] Q = Q (.val (.int (min i j))) := by
  show Q (.val (.int (if j < i then j else i))) = _
  rw [show (if j < i then j else i) = min i j by split <;> omega]
@[simp] theorem reprD_v {d : D} : reprD [d] Q = (okE d ∧ shw d = true ∧ cost d ≤ sizeLine ∧ Q (.val (.str (shown d)))) := rfl
@[simp] theorem revD_tup {ds : List D} : revD (.tup ds) Q = Q (.val (.tup ds.reverse)) := rfl
@[simp] theorem revD_lst {ds : List D} : revD (.lst ds) Q = Q (.lst (ds.reverse.map .val)) := rfl
@[simp] theorem sliceD_tup {ds : List D} {lo hi : Option Int} : sliceD (.tup ds) lo hi Q = Q (.val (.tup (cut ds lo hi))) := rfl
@[simp] theorem sliceD_lst {ds : List D} {lo hi : Option Int} : sliceD (.lst ds) lo hi Q = Q (.lst ((cut ds lo hi).map .val)) := rfl
@[simp] theorem ixD_tup {ds : List D} {i : Int} : ixD (.tup ds) (.int i) Q = ∃ d, atI ds i = some d ∧ Q (.val d) := rfl
@[simp] theorem ixD_lst {ds : List D} {i : Int} : ixD (.lst ds) (.int i) Q = ∃ d, atI ds i = some d ∧ Q (.val d) := rfl
@[simp] theorem rg1D_v {Q : List D → Prop} {j : Int} : rg1D Q [.int j] = (in62 j ∧ Q (rng 0 j)) := rfl
@[simp] theorem rg2D_v {Q : List D → Prop} {i j : Int} : rg2D Q [.int i, .int j] = (in62 i ∧ in62 j ∧ Q (rng i j)) := rfl
@[simp] theorem rg3D_v {Q : List D → Prop} {i j c : Int} : rg3D Q [.int i, .int j, .int c] = (c = -1 ∧ in62 i ∧ in62 j ∧ Q (rngDown i j)) := rfl
end
theorem addD_tup {Q : O → Prop} {xs ys : List D} : addD (.tup xs) (.tup ys) Q = (xs.length + ys.length ≤ sizeLine ∧ Q (.val (.tup (xs ++ ys)))) := by
  first | rfl | simp [addD]
theorem addD_lst {Q : O → Prop} {xs ys : List D} : addD (.lst xs) (.lst ys) Q = (xs.length + ys.length ≤ sizeLine ∧ Q (.lst ((xs ++ ys).map .val))) := by
  first | rfl | simp [addD]

section
variable {env : SEnv} {De : DEnds} {Ee : SEX} {w : WE} {ws : WA} {t : WT} {s1 s2 : WS} {i j : Nat}
@[simp] theorem view_nil : view [] = [] := rfl
@[simp] theorem view_none {r : SEnv} : view (none :: r) = none :: view r := rfl
@[simp] theorem view_val {d : D} {r : SEnv} : view (some (.val d) :: r) = some d :: view r := by simp [view]
theorem view_some {o : O} {r : SEnv} : view (some o :: r) = some o.d :: view r := by simp [view]
@[simp 10] theorem view_cons {x : Option O} {r : SEnv} : view (x :: r) = x.map O.d :: view r := rfl
@[simp] theorem vview_nil : vview [] = [] := rfl
@[simp] theorem vview_none {r : SEnv} : vview (none :: r) = none :: vview r := rfl
@[simp] theorem vview_val {d : D} {r : SEnv} : vview (some (.val d) :: r) = some d :: vview r := rfl
@[simp] theorem vview_lst {os : List O} {r : SEnv} : vview (some (.lst os) :: r) = none :: vview r := rfl
def vv : Option O → Option D
  | some (.val d) => some d
  | _ => none
@[simp 10] theorem vview_cons {x : Option O} {r : SEnv} : vview (x :: r) = vv x :: vview r := by
  rcases x with _ | o
  · rfl
  · cases o <;> rfl
@[simp] theorem sNil_v : sNil env De Ee = De.nx env := rfl
@[simp] theorem sSeq_v : sSeq s1 s2 env De Ee = s1 env { De with nx := fun env' => s2 env' De Ee } Ee := rfl
@[simp] theorem sFrz_v {l : List Nat} {s : WS} : sFrz l s env De Ee = s (frz l env) De Ee := rfl
@[simp] theorem sBreak_v : sBreak env De Ee = De.bk env := rfl
@[simp] theorem sCont_v : sCont env De Ee = De.ct env := rfl
@[simp] theorem evC_v {Q : O → Prop} : evC w env Q Ee = w (view env) (fun o => o.clean = true ∧ Q o) (fun x => x.clean = true ∧ Ee x env) := rfl
@[simp] theorem evS_v {Q : O → Prop} : evS w env Q Ee = w (vview env) Q (fun x => Ee x env) := rfl
@[simp] theorem evT_v {Q : Bool → Prop} : evT t env Q Ee = t (view env) Q (fun x => x.clean = true ∧ Ee x env) := rfl
@[simp] theorem evA_v {Q : List O → Prop} : evA ws env Q Ee = ws (view env) (fun os => O.cleans os = true ∧ Q os) (fun x => x.clean = true ∧ Ee x env) := rfl
@[simp] theorem sSet_v : sSet i w env De Ee = w (view env) (fun o => o.clean = true ∧ i < env.length ∧ De.nx (env.set i (some o))) (fun x => x.clean = true ∧ Ee x env) := rfl
@[simp] theorem sSetS_v : sSetS i w env De Ee = w (vview env) (fun o => i < env.length ∧ De.nx (env.set i (some o))) (fun x => Ee x env) := rfl
@[simp] theorem sRet_v : sRet w env De Ee = w (view env) De.rt (fun x => x.clean = true ∧ Ee x env) := rfl
@[simp] theorem sRetN_v : sRetN env De Ee = De.rt (.val .non) := rfl
@[simp] theorem sIf_v : sIf t s1 s2 env De Ee = t (view env) (fun b => if b = true then s1 env De Ee else s2 env De Ee) (fun x => x.clean = true ∧ Ee x env) := rfl
@[simp] theorem sForR_v {wi : WI} {p : Pat} {s : WS} : sForR wi p s env De Ee = wi (view env) (fun ds => loopD p s De Ee ds env) (fun x => x.clean = true ∧ Ee x env) := rfl
@[simp] theorem sFor_v {wi : WI} {p : Pat} {s : WS} : sFor wi p s env De Ee = wi (vview env) (fun ds => loopD p s De Ee ds env) (fun x => Ee x env) := rfl
@[simp] theorem sExpr_v : sExpr w env De Ee = w (view env) (fun o => o.clean = true ∧ De.nx env) (fun x => x.clean = true ∧ Ee x env) := rfl
@[simp] theorem sRaise_v {x : Str} : sRaise x env De Ee = Ee ⟨x, []⟩ env := rfl
theorem sApp_v {os : List O} (h : env[i]? = some (some (.lst os))) : sApp i w env De Ee = w (view env) (fun o => o.clean = true ∧ os.length < sizeLine ∧ De.nx (env.set i (some (.lst (os ++ [o]))))) (fun x => x.clean = true ∧ Ee x env) := by
  show ownD env[i]? _ = _
  rw [h]; rfl
theorem sAppS_v {os : List O} (h : env[i]? = some (some (.lst os))) : sAppS i w env De Ee = w (vview env) (fun o => os.length < sizeLine ∧ De.nx (env.set i (some (.lst (os ++ [o]))))) (fun x => Ee x env) := by
  show ownD env[i]? _ = _
  rw [h]; rfl
theorem sPop_v {os : List O} (h : env[i]? = some (some (.lst os))) : sPop i env De Ee = (os ≠ [] ∧ De.nx (env.set i (some (.lst os.dropLast)))) := by
  show ownD env[i]? _ = _
  rw [h]; rfl
theorem sAug_v {f : D → D → PQ} {d : D} (h : env[i]? = some (some (.val d))) : sAug i f w env De Ee = (noLst d = true ∧ w (view env) (fun o => o.clean = true ∧ f d o.d fun z => z.clean = true ∧ De.nx (env.set i (some z))) (fun x => x.clean = true ∧ Ee x env)) := by
  show valD env[i]? _ = _
  rw [h]; rfl
theorem sRetV_v {o : O} (h : env[i]? = some (some o)) : sRetV i env De Ee = De.rt o := by
  unfold sRetV
  rw [h]
@[simp] theorem sPar_v {is : List Nat} : sPar is ws env De Ee = ws (view env) (fun os => O.cleans os = true ∧ os.length = is.length ∧ (∀ i ∈ is, i < env.length) ∧ De.nx ((is.zip os).foldl (fun env p => env.set p.1 (some p.2)) env)) (fun x => x.clean = true ∧ Ee x env) := rfl
@[simp] theorem sAsgP_v {p : Pat} : sAsgP p w env De Ee = w (view env) (fun o => o.clean = true ∧ noLst o.d = true ∧ ∃ env', p.bind O.val o.d env = some env' ∧ De.nx env') (fun x => x.clean = true ∧ Ee x env) := rfl
@[simp] theorem sAsgPS_v {p : Pat} : sAsgPS p w env De Ee = w (vview env) (fun o => ∃ env', p.bind O.val o.d env = some env' ∧ De.nx env') (fun x => Ee x env) := rfl
@[simp] theorem loopD_nil {p : Pat} {s : WS} : loopD p s De Ee [] env = De.nx env := rfl
@[simp] theorem loopD_cons {p : Pat} {s : WS} {d : D} {ds : List D} : loopD p s De Ee (d :: ds) env = ∃ env', p.bind O.val d env = some env' ∧ s env' { De with nx := fun env'' => loopD p s De Ee ds env'', ct := fun env'' => loopD p s De Ee ds env'', bk := De.nx } Ee := rfl
@[simp] theorem lcD_nil {p : Pat} {wt : WT} {we : WE} {env : DEnv} {acc : List O} {Q : List O → Prop} : lcD p wt we env [] acc Q = Q acc := rfl
theorem lcD_cons {p : Pat} {wt : WT} {we : WE} {env : DEnv} {d : D} {ds : List D} {acc : List O} {Q : List O → Prop} : lcD p wt we env (d :: ds) acc Q = ∃ env', p.bind id d env = some env' ∧ wt env' (fun b => if b = true then we env' (fun o => acc.length < sizeLine ∧ lcD p wt we env ds (acc ++ [o]) Q) NoX else lcD p wt we env ds acc Q) NoX := rfl
@[simp] theorem wipeD_nil {α : Type} {env : List (Option α)} : wipeD env [] = env := rfl
@[simp] theorem wipeD_cons {α : Type} {env : List (Option α)} {v : Nat} {vs : List Nat} : wipeD env (v :: vs) = (wipeD env vs).set v none := rfl
end
/-- a comprehension whose parts are told -/
theorem lcD_told {p : Pat} {wt : WT} {we : WE} {env : DEnv} {Q : List O → Prop} (c : D → Bool) (f : D → O) : ∀ (ds : List D) (acc : List O), (∀ d ∈ ds, ∀ (R : O → Prop) (R' : Prop), (if c d = true then R (f d) else R') → ∃ env', p.bind id d env = some env' ∧ wt env' (fun b => if b = true then we env' R NoX else R') NoX) →
    acc.length + ds.length ≤ sizeLine → Q (acc ++ (ds.filter c).map f) → lcD p wt we env ds acc Q
  | [], acc, _, _, hq => by simpa using hq
  | d :: ds, acc, h, hl, hq => by
    rw [lcD_cons]
    simp only [List.length_cons] at hl
    have ih := fun acc' => lcD_told (p := p) (wt := wt) (we := we) (env := env) (Q := Q) c f ds acc' fun d hd => h d (List.mem_cons_of_mem _ hd)
    refine h d (List.mem_cons_self ..) _ _ ?_
    cases hc : c d with
    | true =>
      rw [if_pos rfl]
      rw [List.filter_cons_of_pos hc] at hq
      refine ⟨by omega, ih _ (by simp; omega) (by simpa using hq)⟩
    | false =>
      rw [if_neg (by decide)]
      rw [List.filter_cons_of_neg (by simp [hc])] at hq
      exact ih _ (by omega) hq

class Enc (α : Type) where
  enc : α → D
  dep : Nat
  ok : ∀ a, okD dep (enc a) = true
  inj : ∀ a b, eqB (enc a) (enc b) = true ↔ a = b

/-- one statement told, the rest after it -/
theorem seq_to {s1 s2 : WS} {env env' : SEnv} {De : DEnds} {Ee : SEX} (h : ∀ D' : DEnds, D'.nx env' → s1 env D' Ee) (k : s2 env' De Ee) : sSeq s1 s2 env De Ee := h { De with nx := fun e => s2 e De Ee } k
theorem seq_all {s1 s2 : WS} {env : SEnv} {De : DEnds} {Ee : SEX} (P : SEnv → Prop) (h : ∀ D' : DEnds, (∀ e, P e → D'.nx e) → s1 env D' Ee) (k : ∀ e, P e → s2 e De Ee) : sSeq s1 s2 env De Ee := h { De with nx := fun e => s2 e De Ee } k
end DL
/-! DTyp -/
namespace DL
open PySem PySem.Spec PyProof.Rows L2

mutual
theorem okD_mono : ∀ (d : D) (n m : Nat), okD n d = true → n ≤ m → okD m d = true
  | .non, _, _, _, _ => by simp
  | .bl _, _, _, _, _ => by simp
  | .int _, _, _, _, _ => by simp
  | .str _, n, m, h, _ => by simpa using h
  | .tup xs, 0, _, h, _ => by simp [okD] at h
  | .tup xs, n + 1, 0, _, l => absurd l (by omega)
  | .tup xs, n + 1, m + 1, h, l => by
    rw [okD_tup] at h ⊢
    exact okDs_mono xs n m h (by omega)
  | .lst xs, 0, _, h, _ => by simp [okD] at h
  | .lst xs, n + 1, 0, _, l => absurd l (by omega)
  | .lst xs, n + 1, m + 1, h, l => by
    rw [okD_lst] at h ⊢
    exact okDs_mono xs n m h (by omega)
  | .dct _ _, n, _, h, _ => by cases n <;> simp [okD] at h
  | .src, n, _, h, _ => by cases n <;> simp [okD] at h
  | .scr _, n, _, h, _ => by cases n <;> simp [okD] at h
theorem okDs_mono : ∀ (ds : List D) (n m : Nat), okDs n ds = true → n ≤ m → okDs m ds = true
  | [], _, _, _, _ => by simp
  | x :: xs, n, m, h, l => by
    have h' := Bool.and_eq_true_iff.mp (by simpa using h)
    simp only [okDs_cons, Bool.and_eq_true]
    exact ⟨okD_mono x n m h'.1 l, okDs_mono xs n m h'.2 l⟩
end
def eqBs : List D → List D → Bool
  | [], [] => true
  | x :: xs, y :: ys => eqB x y && eqBs xs ys
  | _, _ => false
theorem eqBs_py : ∀ xs ys : List D, PyData.eqvAll (toPys xs) (toPys ys) = eqBs xs ys
  | [], [] => by simp [toPys, PyData.eqvAll, eqBs]
  | x :: xs, y :: ys => by simp [toPys, PyData.eqvAll, eqBs, eqB, eqBs_py xs ys]
  | [], y :: ys => by simp [toPys, PyData.eqvAll, eqBs]
  | x :: xs, [] => by simp [toPys, PyData.eqvAll, eqBs]
@[simp] theorem eqB_int (i j : Int) : eqB (.int i) (.int j) = decide (i = j) := by
  unfold eqB; simp only [toPy, PyData.eqv]
  by_cases h : i = j <;> simp [h]
@[simp] theorem eqB_bl (i j : Bool) : eqB (.bl i) (.bl j) = decide (i = j) := by
  unfold eqB; simp only [toPy, PyData.eqv]
  cases i <;> cases j <;> rfl
@[simp] theorem eqB_str (i j : Str) : eqB (.str i) (.str j) = decide (i = j) := by
  unfold eqB; simp only [toPy, PyData.eqv]
  by_cases h : i = j <;> simp [h]
@[simp] theorem eqB_tup (xs ys : List D) : eqB (.tup xs) (.tup ys) = eqBs xs ys := by
  unfold eqB; simp only [toPy, PyData.eqv]; exact eqBs_py xs ys
@[simp] theorem eqB_lst (xs ys : List D) : eqB (.lst xs) (.lst ys) = eqBs xs ys := by
  unfold eqB; simp only [toPy, PyData.eqv]; exact eqBs_py xs ys
@[simp] theorem eqB_lt (xs ys : List D) : eqB (.lst xs) (.tup ys) = false := by
  unfold eqB; simp only [toPy, PyData.eqv]
@[simp] theorem eqB_tl (xs ys : List D) : eqB (.tup xs) (.lst ys) = false := by
  unfold eqB; simp only [toPy, PyData.eqv]
@[simp] theorem eqBs_nn : eqBs [] [] = true := rfl
@[simp] theorem eqBs_nc (y : D) (ys : List D) : eqBs [] (y :: ys) = false := rfl
@[simp] theorem eqBs_cn (y : D) (ys : List D) : eqBs (y :: ys) [] = false := rfl
@[simp] theorem eqBs_cc (x y : D) (xs ys : List D) : eqBs (x :: xs) (y :: ys) = (eqB x y && eqBs xs ys) := rfl
theorem eqBs_map {α : Type} {e : α → D} (h : ∀ a b, eqB (e a) (e b) = true ↔ a = b) : ∀ a b : List α, eqBs (a.map e) (b.map e) = true ↔ a = b
  | [], [] => by simp
  | [], b :: bs => by simp
  | a :: as, [] => by simp
  | a :: as, b :: bs => by simp [h, eqBs_map h as bs]
theorem okDs_map {α : Type} {e : α → D} {n : Nat} (h : ∀ a, okD n (e a) = true) (l : List α) : okDs n (l.map e) = true := by
  rw [okDs_iff]
  intro x hx
  obtain ⟨a, _, rfl⟩ := List.mem_map.mp hx
  exact h a

abbrev en {α : Type} [Enc α] (a : α) : D := Enc.enc a
/-- a tuple, a list, an own list of things -/
def T {α : Type} [Enc α] (l : List α) : D := .tup (l.map Enc.enc)
def L {α : Type} [Enc α] (l : List α) : D := .lst (l.map Enc.enc)
def Ow {α : Type} [Enc α] (l : List α) : O := .lst (l.map fun a => .val (Enc.enc a))
instance : Enc Int := ⟨.int, 0, fun a => by simp, fun a b => by simp⟩
instance : Enc Bool := ⟨.bl, 0, fun a => by simp, fun a b => by simp⟩
instance {α : Type} [Enc α] : Enc (List α) := ⟨T, Enc.dep α + 1, fun a => by
  show okD (Enc.dep α + 1) (.tup _) = true
  rw [okD_tup]
  exact okDs_map Enc.ok a, fun a b => by
  show eqB (.tup _) (.tup _) = true ↔ _
  rw [eqB_tup]
  exact eqBs_map Enc.inj a b⟩
/-- a list among the data -/
structure PL (α : Type) where
  l : List α
instance {α : Type} [Enc α] : Enc (PL α) := ⟨fun a => L a.l, Enc.dep α + 1, fun a => by
  show okD (Enc.dep α + 1) (.lst _) = true
  rw [okD_lst]
  exact okDs_map Enc.ok a.l, fun a b => by
  show eqB (.lst _) (.lst _) = true ↔ _
  rw [eqB_lst, eqBs_map Enc.inj a.l b.l]
  cases a; cases b; simp⟩
instance {α β : Type} [Enc α] [Enc β] : Enc (α × β) := ⟨fun a => .tup [Enc.enc a.1, Enc.enc a.2], max (Enc.dep α) (Enc.dep β) + 1, fun a => by
  rw [okD_tup]
  simp only [okDs_cons, okDs_nil, Bool.and_true, Bool.and_eq_true]
  exact ⟨okD_mono _ _ _ (Enc.ok a.1) (Nat.le_max_left ..), okD_mono _ _ _ (Enc.ok a.2) (Nat.le_max_right ..)⟩, fun a b => by
  rw [eqB_tup]
  simp only [eqBs_cc, eqBs_nn, Bool.and_true, Bool.and_eq_true, Enc.inj]
  exact ⟨fun ⟨h1, h2⟩ => Prod.ext h1 h2, fun h => by rw [h]; exact ⟨rfl, rfl⟩⟩⟩
section
variable {α β : Type} [Enc α] [Enc β] {Q : O → Prop} {E : EX}
@[simp] theorem en_int (i : Int) : Enc.enc i = D.int i := rfl
@[simp] theorem en_bool (i : Bool) : Enc.enc i = D.bl i := rfl
@[simp] theorem en_list (l : List α) : Enc.enc l = T l := rfl
@[simp] theorem en_PL (l : PL α) : Enc.enc l = L l.l := rfl
@[simp] theorem en_prod (a : α × β) : Enc.enc a = D.tup [Enc.enc a.1, Enc.enc a.2] := rfl
@[simp] theorem dep_int : Enc.dep Int = 0 := rfl
@[simp] theorem dep_bool : Enc.dep Bool = 0 := rfl
@[simp] theorem dep_list : Enc.dep (List α) = Enc.dep α + 1 := rfl
@[simp] theorem dep_PL : Enc.dep (PL α) = Enc.dep α + 1 := rfl
@[simp] theorem dep_prod : Enc.dep (α × β) = max (Enc.dep α) (Enc.dep β) + 1 := rfl
theorem T_def (l : List α) : T l = .tup (l.map Enc.enc) := rfl
theorem L_def (l : List α) : L l = .lst (l.map Enc.enc) := rfl
theorem Ow_def (l : List α) : Ow l = .lst (l.map fun a => .val (Enc.enc a)) := rfl
theorem ds_Ow (l : List α) : O.ds (l.map fun a => .val (Enc.enc a)) = l.map Enc.enc := by
  rw [O.ds_map, List.map_map]
  rfl
@[simp] theorem Ow_d (l : List α) : (Ow l).d = L l := by rw [Ow_def, O.d_lst, ds_Ow]; rfl
@[simp] theorem lenD_T {l : List α} : lenD [T l] Q = Q (.val (.int l.length)) := by rw [T_def, lenD_tup, List.length_map]
@[simp] theorem lenD_L {l : List α} : lenD [L l] Q = Q (.val (.int l.length)) := by rw [L_def, lenD_lst, List.length_map]
@[simp] theorem tupleD_T {l : List α} : tupleD [T l] Q = Q (.val (T l)) := rfl
@[simp] theorem tupleD_L {l : List α} : tupleD [L l] Q = Q (.val (T l)) := rfl
theorem lstval {l : List α} : O.lst ((l.map Enc.enc).map O.val) = Ow l := by rw [List.map_map]; rfl
@[simp] theorem listD_T {l : List α} : listD [T l] Q = Q (Ow l) := by rw [T_def, listD_tup, lstval]
@[simp] theorem listD_L {l : List α} : listD [L l] Q = Q (Ow l) := by rw [L_def, listD_lst, lstval]
@[simp] theorem itemsD_T {l : List α} {Q : List D → Prop} : itemsD (T l) Q = Q (l.map Enc.enc) := rfl
@[simp] theorem itemsD_L {l : List α} {Q : List D → Prop} : itemsD (L l) Q = Q (l.map Enc.enc) := rfl
theorem atI_map {γ δ : Type} {f : γ → δ} {l : List γ} {i : Int} : atI (l.map f) i = (atI l i).map f := by
  unfold atI
  rw [List.length_map]
  cases ixN l.length i <;> simp
@[simp] theorem ixD_T {l : List α} {i : Int} : ixD (T l) (.int i) Q = ∃ x, atI l i = some x ∧ Q (.val (Enc.enc x)) := by
  rw [T_def, ixD_tup, atI_map]
  cases atI l i <;> simp
@[simp] theorem ixD_L {l : List α} {i : Int} : ixD (L l) (.int i) Q = ∃ x, atI l i = some x ∧ Q (.val (Enc.enc x)) := by
  rw [L_def, ixD_lst, atI_map]
  cases atI l i <;> simp
@[simp] theorem addD_T {a b : List α} : addD (T a) (T b) Q = (a.length + b.length ≤ sizeLine ∧ Q (.val (T (a ++ b)))) := by
  rw [T_def, T_def, addD_tup, List.length_map, List.length_map, ← List.map_append]; rfl
@[simp] theorem addD_L {a b : List α} : addD (L a) (L b) Q = (a.length + b.length ≤ sizeLine ∧ Q (Ow (a ++ b))) := by
  rw [L_def, L_def, addD_lst, List.length_map, List.length_map, ← List.map_append, lstval]
theorem cut_map {γ δ : Type} {f : γ → δ} {l : List γ} {lo hi : Option Int} : cut (l.map f) lo hi = (cut l lo hi).map f := by
  unfold cut
  rw [List.length_map, List.map_take, List.map_drop]
@[simp] theorem sliceD_T {l : List α} {lo hi : Option Int} : sliceD (T l) lo hi Q = Q (.val (T (cut l lo hi))) := by
  rw [T_def, sliceD_tup, cut_map]; rfl
@[simp] theorem sliceD_L {l : List α} {lo hi : Option Int} : sliceD (L l) lo hi Q = Q (Ow (cut l lo hi)) := by
  rw [L_def, sliceD_lst, cut_map, lstval]
@[simp] theorem revD_T {l : List α} : revD (T l) Q = Q (.val (T l.reverse)) := by
  rw [T_def, revD_tup, ← List.map_reverse]; rfl
@[simp] theorem revD_L {l : List α} : revD (L l) Q = Q (Ow l.reverse) := by
  rw [L_def, revD_lst, ← List.map_reverse, lstval]
theorem flat_rep {γ δ : Type} {f : γ → δ} {l : List γ} {n : Nat} : (List.replicate n (l.map f)).flatten = ((List.replicate n l).flatten).map f := by
  rw [List.map_flatten, List.map_replicate]
@[simp] theorem mulA_T {l : List α} {k : Int} : mulA (T l) (.int k) Q = ((-(2 ^ 63) ≤ k ∧ k ≤ 1000 ∧ l.length ≤ 1000) ∧ Q (.val (T (List.replicate k.toNat l).flatten))) := by
  rw [T_def, mulA_tup, List.length_map, flat_rep]; rfl
@[simp] theorem mulA_L {l : List α} {k : Int} : mulA (L l) (.int k) Q = ((-(2 ^ 63) ≤ k ∧ k < 2 ^ 63 ∧ l.length * k.toNat ≤ sizeLine) ∧ Q (Ow (List.replicate k.toNat l).flatten)) := by
  rw [L_def, mulA_lst, List.length_map, flat_rep, lstval]
@[simp] theorem truD_T {l : List α} {Q : Bool → Prop} : truD Q (T l) = Q (!l.isEmpty) := by rw [T_def, truD_tup]; cases l <;> rfl
@[simp] theorem truD_L {l : List α} {Q : Bool → Prop} : truD Q (L l) = Q (!l.isEmpty) := by rw [L_def, truD_lst]; cases l <;> rfl
theorem eqB_dec [DecidableEq α] (a b : α) : eqB (Enc.enc a) (Enc.enc b) = decide (a = b) := by
  by_cases h : a = b
  · rw [(Enc.inj a b).mpr h, decide_eq_true h]
  · rw [decide_eq_false h, Bool.eq_false_iff]
    exact fun e => h ((Enc.inj a b).mp e)
@[simp] theorem eqB_T [DecidableEq α] (a b : List α) : eqB (T a) (T b) = decide (a = b) := eqB_dec (α := List α) a b
@[simp] theorem eqB_L [DecidableEq α] (a b : List α) : eqB (L a) (L b) = decide (a = b) := by
  have := eqB_dec (α := List α) a b
  rw [en_list, en_list, T_def, T_def, eqB_tup] at this
  rw [L_def, L_def, eqB_lst]
  exact this
@[simp] theorem eqB_T0 (a : List α) : eqB (T a) (.tup []) = a.isEmpty := by cases a <;> simp [T_def]
@[simp] theorem eqB_0T (a : List α) : eqB (.tup []) (T a) = a.isEmpty := by cases a <;> simp [T_def]
@[simp] theorem eqB_L0 (a : List α) : eqB (L a) (.lst []) = a.isEmpty := by cases a <;> simp [L_def]
@[simp] theorem eqB_0L (a : List α) : eqB (.lst []) (L a) = a.isEmpty := by cases a <;> simp [L_def]
@[simp] theorem okE_int (i : Int) : okE (.int i) := okD_int 8 i
@[simp] theorem okE_bl (i : Bool) : okE (.bl i) := okD_bl 8 i
@[simp] theorem okE_non : okE .non := okD_non 8
theorem okE_enc (a : α) (h : Enc.dep α ≤ 8) : okE (Enc.enc a) := okD_mono _ _ _ (Enc.ok a) h
@[simp] theorem okE_T (l : List α) (h : Enc.dep α < 8) : okE (T l) := okE_enc l h
@[simp] theorem okE_L (l : List α) (h : Enc.dep α < 8) : okE (L l) := okE_enc (PL.mk l) h
@[simp] theorem okE_tup (ds : List D) : okE (.tup ds) ↔ okDs 7 ds = true := by simp [okE]
@[simp] theorem okE_lst (ds : List D) : okE (.lst ds) ↔ okDs 7 ds = true := by simp [okE]
@[simp] theorem okD_T (l : List α) (n : Nat) (h : Enc.dep α < n) : okD n (T l) = true := okD_mono _ _ _ (Enc.ok l) h
@[simp] theorem okD_L (l : List α) (n : Nat) (h : Enc.dep α < n) : okD n (L l) = true := okD_mono _ _ _ (Enc.ok (PL.mk l)) h
@[simp] theorem view_Ow {l : List α} {r : SEnv} : view (some (Ow l) :: r) = some (L l) :: view r := by rw [view_some, Ow_d]
@[simp] theorem vview_Ow {l : List α} {r : SEnv} : vview (some (Ow l) :: r) = none :: vview r := rfl
/-- no lists inside -/
class Flat (α : Type) [Enc α] : Prop where
  flat : ∀ a : α, noLst (Enc.enc a) = true
instance : Flat Int := ⟨fun a => by simp⟩
instance : Flat Bool := ⟨fun a => by simp⟩
instance {α : Type} [Enc α] [Flat α] : Flat (List α) := ⟨fun l => by
  rw [en_list, T_def, noLst_tup, noLsts_iff]
  intro x hx
  obtain ⟨a, _, rfl⟩ := List.mem_map.mp hx
  exact Flat.flat a⟩
instance {α β : Type} [Enc α] [Enc β] [Flat α] [Flat β] : Flat (α × β) := ⟨fun a => by simp [Flat.flat]⟩
@[simp] theorem noLst_T [Flat α] (l : List α) : noLst (T l) = true := Flat.flat l
@[simp] theorem noLst_enc [Flat α] (l : α) : noLst (Enc.enc l) = true := Flat.flat l
@[simp] theorem clean_Ow [Flat α] (l : List α) : (Ow l).clean = true := by
  rw [Ow_def, O.clean_lst, O.cleans_iff]
  intro x hx
  obtain ⟨a, _, rfl⟩ := List.mem_map.mp hx
  simp
/-- own lists, by type -/
theorem Ow_get {env : SEnv} {i : Nat} {l : List α} (h : env[i]? = some (some (Ow l))) : env[i]? = some (some (.lst (l.map fun a => .val (Enc.enc a)))) := h
def snocO (l : List α) (o : O) : O := .lst ((l.map fun a => .val (Enc.enc a)) ++ [o])
@[simp] theorem snocO_int (l : List Int) (x : Int) : snocO l (.val (.int x)) = Ow (l ++ [x]) := by
  rw [snocO, Ow_def, List.map_append]; rfl
@[simp] theorem snocO_bl (l : List Bool) (x : Bool) : snocO l (.val (.bl x)) = Ow (l ++ [x]) := by
  rw [snocO, Ow_def, List.map_append]; rfl
@[simp] theorem snocO_T (l : List (List α)) (x : List α) : snocO l (.val (T x)) = Ow (l ++ [x]) := by
  rw [snocO, Ow_def, List.map_append]; rfl
theorem app_Ow {env : SEnv} {De : DEnds} {Ee : SEX} {w : WE} {i : Nat} (l : List α) (h : env[i]? = some (some (Ow l))) : sApp i w env De Ee = w (view env) (fun o => o.clean = true ∧ l.length < sizeLine ∧ De.nx (env.set i (some (snocO l o)))) (fun x => x.clean = true ∧ Ee x env) := by
  rw [sApp_v (Ow_get h)]
  simp only [List.length_map, snocO]
theorem appS_Ow {env : SEnv} {De : DEnds} {Ee : SEX} {w : WE} {i : Nat} (l : List α) (h : env[i]? = some (some (Ow l))) : sAppS i w env De Ee = w (vview env) (fun o => l.length < sizeLine ∧ De.nx (env.set i (some (snocO l o)))) (fun x => Ee x env) := by
  rw [sAppS_v (Ow_get h)]
  simp only [List.length_map, snocO]
theorem pop_Ow {env : SEnv} {De : DEnds} {Ee : SEX} {i : Nat} (l : List α) (h : env[i]? = some (some (Ow l))) : sPop i env De Ee = (l ≠ [] ∧ De.nx (env.set i (some (Ow l.dropLast)))) := by
  rw [sPop_v (Ow_get h), ← List.map_dropLast]
  simp only [ne_eq, List.map_eq_nil_iff]
  rfl
@[simp] theorem lst0_Ow : O.lst [] = Ow ([] : List α) := rfl
end
@[simp] theorem startD_1 {a : D} {N : List Str} : startD N [a] = some (.val a) :: List.replicate (N.length - 1) none := rfl
@[simp] theorem startD_2 {a b : D} {N : List Str} : startD N [a, b] = some (.val a) :: some (.val b) :: List.replicate (N.length - 2) none := rfl
@[simp] theorem startD_3 {a b c : D} {N : List Str} : startD N [a, b, c] = some (.val a) :: some (.val b) :: some (.val c) :: List.replicate (N.length - 3) none := rfl
@[simp] theorem startD_4 {a b c d : D} {N : List Str} : startD N [a, b, c, d] = some (.val a) :: some (.val b) :: some (.val c) :: some (.val d) :: List.replicate (N.length - 4) none := rfl
/-- ranges -/
theorem in62_of {i : Int} (h0 : -4611686018427387904 ≤ i) (h1 : i < 4611686018427387904) : in62 i := ⟨by omega, by omega⟩
def rngI (lo hi : Int) : List Int := (List.range (hi - lo).toNat).map fun k => lo + (k : Nat)
theorem rng_I (lo hi : Int) : rng lo hi = (rngI lo hi).map Enc.enc := by
  unfold rng rngI
  rw [List.map_map]
  rfl
theorem mem_rngI {lo hi x : Int} : x ∈ rngI lo hi ↔ lo ≤ x ∧ x < hi := by
  unfold rngI
  simp only [List.mem_map, List.mem_range]
  constructor
  · rintro ⟨k, h, rfl⟩
    omega
  · rintro ⟨h1, h2⟩
    exact ⟨(x - lo).toNat, by omega, by omega⟩
@[simp] theorem rngI_length (lo hi : Int) : (rngI lo hi).length = (hi - lo).toNat := by simp [rngI]
@[simp] theorem filter_tt {α : Type} (l : List α) : l.filter (fun _ => true) = l := List.filter_eq_self.mpr fun _ _ => rfl
/-- a comprehension of told things -/
theorem lcD_typed {α β : Type} [Enc α] [Enc β] {p : Pat} {wt : WT} {we : WE} {env : DEnv} {Q : List O → Prop} (c : α → Bool) (f : α → β) : ∀ (l : List α) (acc : List β), (∀ a ∈ l, ∀ (R : O → Prop) (R' : Prop), (if c a = true then R (.val (Enc.enc (f a))) else R') → ∃ env', p.bind id (Enc.enc a) env = some env' ∧ wt env' (fun b => if b = true then we env' R NoX else R') NoX) →
    acc.length + l.length ≤ sizeLine → (∀ os, O.lst os = Ow (acc ++ (l.filter c).map f) → D.tup (O.ds os) = T (acc ++ (l.filter c).map f) → D.lst (O.ds os) = L (acc ++ (l.filter c).map f) → O.ds os = (acc ++ (l.filter c).map f).map Enc.enc → (Flat β → O.cleans os = true) → Q os) → lcD p wt we env (l.map Enc.enc) (acc.map fun b => .val (Enc.enc b)) Q
  | [], acc, _, _, hq => hq _ (by simp [Ow_def]) (by rw [ds_Ow]; simp [T_def]) (by rw [ds_Ow]; simp [L_def]) (by rw [ds_Ow]; simp) (fun _ => clean_Ow acc)
  | d :: ds, acc, h, hl, hq => by
    rw [List.map_cons, lcD_cons]
    simp only [List.length_cons] at hl
    have ih := fun acc' => lcD_typed (p := p) (wt := wt) (we := we) (env := env) (Q := Q) c f ds acc' fun d hd => h d (List.mem_cons_of_mem _ hd)
    refine h d (List.mem_cons_self ..) _ _ ?_
    cases hc : c d with
    | true =>
      rw [if_pos rfl]
      rw [List.filter_cons_of_pos hc] at hq
      refine ⟨by simp; omega, ?_⟩
      have := ih (acc ++ [f d]) (by simp; omega) (by simpa using hq)
      rw [List.map_append] at this
      exact this
    | false =>
      rw [if_neg (by decide)]
      rw [List.filter_cons_of_neg (by simp [hc])] at hq
      exact ih _ (by omega) hq
theorem lcD_type {α β : Type} [Enc α] [Enc β] {p : Pat} {wt : WT} {we : WE} {env : DEnv} {Q : O → Prop} (c : α → Bool) (f : α → β) (l : List α) (h : ∀ a ∈ l, ∀ (R : O → Prop) (R' : Prop), (if c a = true then R (.val (Enc.enc (f a))) else R') → ∃ env', p.bind id (Enc.enc a) env = some env' ∧ wt env' (fun b => if b = true then we env' R NoX else R') NoX)
    (hl : l.length ≤ sizeLine) (hq : Q (Ow ((l.filter c).map f))) : lcD p wt we env (l.map Enc.enc) [] (fun os => Q (.lst os)) :=
  lcD_typed (Q := fun os => Q (.lst os)) c f l [] h (by simpa using hl) fun os e _ _ _ _ => by rw [e]; simpa using hq
@[simp] theorem atI_last {α : Type} (l : List α) (x : α) : atI (l ++ [x]) (-1) = some x := by
  unfold atI ixN
  rw [if_neg (by decide), if_pos (by simp; omega)]
  rw [Option.bind_some, show ((-1 : Int) + ((l ++ [x]).length : Nat)).toNat = l.length by simp; omega]
  simp
theorem atI_pos {α : Type} (l : List α) {i : Int} (h : 0 ≤ i) : atI l i = l[i.toNat]? := by
  unfold atI ixN
  rw [if_pos h]
  by_cases q : i < l.length
  · rw [if_pos q]; rfl
  · rw [if_neg q, List.getElem?_eq_none (by omega)]; rfl
@[simp] theorem atI_nat {α : Type} (l : List α) (i : Nat) : atI l (i : Int) = l[i]? := by
  rw [atI_pos l (by omega)]; simp
@[simp] theorem T_inj {α : Type} [Enc α] (a b : List α) : T a = T b ↔ a = b := by
  constructor
  · intro h
    refine (Enc.inj a b).mp ?_
    rw [en_list, en_list, h, ← en_list]
    exact (Enc.inj b b).mpr rfl
  · intro h; rw [h]
@[simp] theorem fPick_v {n : Int} {Q : O → Prop} {E : EX} : fPick [.src, .int n] Q E ↔ n.natAbs.log2 < 9000 ∧ ∀ r : Int, 0 ≤ r → r < max 1 n → Q (.val (.int r)) := by
  constructor
  · rintro ⟨m, e, h⟩
    simp only [List.cons.injEq, D.int.injEq, true_and, and_true] at e
    subst e
    exact h
  · exact fun h => ⟨n, rfl, h⟩
theorem log9 {n : Int} (h0 : -18446744073709551616 < n) (h1 : n < 18446744073709551616) : n.natAbs.log2 < 9000 := by
  have : n.natAbs < 2 ^ 64 := by omega
  by_cases z : n.natAbs = 0
  · rw [z]; decide
  · have := (Nat.log2_lt z).mpr this
    omega
/-- what a draw tells -/
theorem pick_of {n : Int} {Q : O → Prop} {E : EX} (h0 : -18446744073709551616 < n) (h1 : n < 18446744073709551616) (h : ∀ r : Int, 0 ≤ r → r < max 1 n → Q (.val (.int r))) : fPick [.src, .int n] Q E := fPick_v.mpr ⟨log9 h0 h1, h⟩
abbrev fs__law_pick : FSp := fPick
abbrev fs__law_source : FSp := fSrc
theorem cut_lo {α : Type} (l : List α) {i : Int} (h : 0 ≤ i) : cut l none (some i) = l.take i.toNat := by
  show (l.drop 0).take ((if i < 0 then (i + (l.length : Int)).toNat else min i.toNat l.length) - 0) = _
  rw [if_neg (by omega), List.drop_zero, Nat.sub_zero]
  by_cases q : i.toNat ≤ l.length
  · rw [Nat.min_eq_left q]
  · rw [Nat.min_eq_right (by omega), List.take_of_length_le (Nat.le_refl _), List.take_of_length_le (by omega)]
theorem cut_hi {α : Type} (l : List α) {i : Int} (h : 0 ≤ i) : cut l (some i) none = l.drop i.toNat := by
  show (l.drop (if i < 0 then (i + (l.length : Int)).toNat else min i.toNat l.length)).take (l.length - (if i < 0 then (i + (l.length : Int)).toNat else min i.toNat l.length)) = _
  rw [if_neg (by omega), ← List.length_drop, List.take_of_length_le (Nat.le_refl _)]
  by_cases q : i.toNat ≤ l.length
  · rw [Nat.min_eq_left q]
  · rw [Nat.min_eq_right (by omega), List.drop_of_length_le (Nat.le_refl _), List.drop_of_length_le (by omega)]
end DL
/-! DRep -/
namespace DL
open PySem PySem.Spec PyProof.Rows L2
abbrev sOk (x : Str) : Prop := PyData.strOk x = true
theorem sOk_iff (x : Str) : sOk x ↔ ∀ c ∈ x.cps.toList, c < 1114112 := by
  show PyData.strOk x = true ↔ _
  unfold PyData.strOk
  rw [← Array.all_toList, List.all_eq_true]
  simp
theorem sOk_app {x y : Str} (h : sOk x) (h' : sOk y) : sOk (x ++ y) := by
  rw [sOk_iff] at *
  intro c hc
  have e : (x ++ y).cps = x.cps ++ y.cps := rfl
  rw [e, Array.toList_append, List.mem_append] at hc
  exact hc.elim (h c) (h' c)
theorem sOk_of (s : String) : sOk (Str.ofString s) := by
  rw [sOk_iff, Str.ofString_eq_toList]
  intro c hc
  obtain ⟨d, _, rfl⟩ := List.mem_map.mp (by simpa using hc)
  have := d.valid
  rcases this with h | ⟨_, h⟩
  · have : d.val.toNat < 55296 := h
    show d.val.toNat < _
    omega
  · exact h
theorem sOk_join {s : Str} (hs : sOk s) : ∀ {l : List Str}, (∀ x ∈ l, sOk x) → sOk (Str.join s l)
  | [], _ => sOk_of ""
  | [x], h => h x (by simp)
  | x :: y :: r, h => sOk_app (sOk_app (h x (by simp)) hs) (sOk_join hs fun z hz => h z (List.mem_cons_of_mem _ hz))
theorem sOk_from : ∀ {l : List Str} {k : Nat} {acc : Str}, sOk acc → (∀ x ∈ l, sOk x) → sOk (textFrom k acc l)
  | [], _, _, h, _ => h
  | x :: r, k, acc, h, hl => by
    unfold textFrom
    exact sOk_from (sOk_app (sOk_app h (sOk_of _)) (hl x (by simp))) fun z hz => hl z (List.mem_cons_of_mem _ hz)
theorem sOk_list {l : List Str} (h : ∀ x ∈ l, sOk x) : sOk (listText l) := sOk_app (sOk_from (sOk_of _) h) (sOk_of _)
theorem sOk_tup {l : List Str} (h : ∀ x ∈ l, sOk x) : sOk (tupleText l) := sOk_app (sOk_app (sOk_of _) (sOk_join (sOk_of _) h)) (sOk_of _)
theorem rc_ok {q c x : Nat} (hc : c < 1114112) (h : x ∈ Builtin.Str.reprChar q c) : x < 1114112 := by
  have hx : ∀ (w : Nat), x ∈ List.replicate (w - ((Nat.toDigits 16 c).map Char.toNat).length) 48 ++ (Nat.toDigits 16 c).map Char.toNat → x < 1114112 := fun w h => by
    rcases List.mem_append.mp h with h | h
    · rw [(List.mem_replicate.mp h).2]; decide
    · obtain ⟨d, _, rfl⟩ := List.mem_map.mp h
      rcases d.valid with h | ⟨_, h⟩
      · have : d.val.toNat < 55296 := h
        show d.val.toNat < _
        omega
      · exact h
  unfold Builtin.Str.reprChar at h
  dsimp only at h
  split at h
  · simp at h; omega
  split at h
  · simp at h; omega
  split at h
  · simp at h; omega
  split at h
  · simp at h; omega
  split at h
  · simp at h; omega
  split at h
  · rcases List.mem_append.mp h with h | h
    · simp at h; omega
    · exact hx _ h
  split at h
  · rcases List.mem_append.mp h with h | h
    · simp at h; omega
    · exact hx _ h
  · rcases List.mem_append.mp h with h | h
    · simp at h; omega
    · exact hx _ h
theorem rt_fold {q : Nat} : ∀ {l : List Nat} {acc : Array Nat}, (∀ c ∈ acc.toList, c < 1114112) → (∀ c ∈ l, c < 1114112) → ∀ c ∈ (l.foldl (fun out c => out ++ (Builtin.Str.reprChar q c).toArray) acc).toList, c < 1114112
  | [], _, h, _ => h
  | x :: r, acc, h, hl => by
    refine rt_fold (l := r) (fun c hc => ?_) fun c hc => hl c (List.mem_cons_of_mem _ hc)
    rw [Array.toList_append, List.mem_append] at hc
    exact hc.elim (h c) fun hc => rc_ok (hl x (by simp)) hc
theorem sOk_repr {x : Str} (h : sOk x) : sOk (reprText x) := by
  have hq : reprQuote x < 1114112 := by
    unfold reprQuote
    split <;> decide
  rw [sOk_iff] at *
  intro c hc
  unfold reprText at hc
  simp only [Array.toList_push, List.mem_append, List.mem_singleton] at hc
  rcases hc with hc | rfl
  · rw [← Array.foldl_toList] at hc
    exact rt_fold (l := x.cps.toList) (by simpa using hq) h c hc
  · exact hq
mutual
theorem sOk_shown : ∀ (d : D) (n : Nat), okD n d = true → sOk (toPy d).shown
  | .non, _, _ => by simp only [toPy, PyData.shown]; exact sOk_of _
  | .bl b, _, _ => by simp only [toPy, PyData.shown]; cases b <;> exact sOk_of _
  | .int i, _, _ => by simp only [toPy, PyData.shown]; exact sOk_of _
  | .str x, _, h => by simp only [toPy, PyData.shown]; exact sOk_repr (by simpa using h)
  | .tup xs, 0, h => by simp [okD] at h
  | .tup xs, n + 1, h => by simp only [toPy, PyData.shown]; exact sOk_tup (sOk_showns xs n (by simpa using h))
  | .lst xs, 0, h => by simp [okD] at h
  | .lst xs, n + 1, h => by simp only [toPy, PyData.shown]; exact sOk_list (sOk_showns xs n (by simpa using h))
  | .dct _ _, n, h => by cases n <;> simp [okD] at h
  | .src, n, h => by cases n <;> simp [okD] at h
  | .scr _, n, h => by cases n <;> simp [okD] at h
theorem sOk_showns : ∀ (ds : List D) (n : Nat), okDs n ds = true → ∀ x ∈ PyData.shownAll (toPys ds), sOk x
  | [], _, _ => by simp [toPys, PyData.shownAll]
  | d :: ds, n, h => by
    have h' := Bool.and_eq_true_iff.mp (by simpa using h)
    simp only [toPys, PyData.shownAll, List.mem_cons]
    rintro x (rfl | hx)
    · exact sOk_shown d n h'.1
    · exact sOk_showns ds n h'.2 x hx
end
theorem okE_shown {d : D} (h : okE d) : okE (.str (shown d)) := by
  show okD 8 _ = true
  rw [okD_str]
  exact sOk_shown d 8 h
@[simp] theorem okE_sh (d : D) (h : okE d) : okE (.str (shown d)) := okE_shown h
theorem tup0 : D.tup [] = T ([] : List Int) := rfl
theorem tup2 (a b : Int) : D.tup [.int a, .int b] = T [a, b] := rfl
theorem tup3 (a b c : Int) : D.tup [.int a, .int b, .int c] = T [a, b, c] := rfl
theorem tup4 (a b c d : Int) : D.tup [.int a, .int b, .int c, .int d] = T [a, b, c, d] := rfl
@[simp] theorem atI_zero {α : Type} (x : α) (l : List α) : atI (x :: l) 0 = some x := by
  rw [atI_pos _ (by decide)]; rfl
theorem lst1 (a : Int) : D.lst [.int a] = L [a] := rfl
theorem filter_one {n c : Int} (h0 : 0 ≤ c) (h1 : c < n) : (rngI 0 n).filter (fun m => decide (m = c)) = [c] := by
  have key : ∀ k : Nat, ((List.range k).map fun (i : Nat) => (0 : Int) + (i : Int)).filter (fun m => decide (m = c)) = if c.toNat < k then [c] else [] := by
    intro k
    induction k with
    | zero => simp
    | succ k ih =>
      have e1 : [(0 : Int) + (k : Int)].filter (fun m => decide (m = c)) = if (0 : Int) + k = c then [c] else [] := by
        by_cases h : (0 : Int) + k = c
        · simp [h]
        · have h' : ¬ (k : Int) = c := by omega
          simp [h']
      rw [List.range_succ, List.map_append, List.filter_append, ih, List.map_cons, List.map_nil, e1]
      by_cases q : c.toNat < k
      · rw [if_pos q, if_neg (show ¬ (0 : Int) + k = c by omega), if_pos (show c.toNat < k + 1 by omega)]
        rfl
      · by_cases q2 : c.toNat = k
        · rw [if_neg q, if_pos (show (0 : Int) + k = c by omega), if_pos (show c.toNat < k + 1 by omega)]
          rfl
        · rw [if_neg q, if_neg (show ¬ (0 : Int) + k = c by omega), if_neg (show ¬ c.toNat < k + 1 by omega)]
          rfl
  unfold rngI
  rw [Int.sub_zero, key, if_pos (by omega)]
@[simp] theorem fSrc_v {ns : List Int} {Q : O → Prop} {E : EX} : fSrc [.scr ns] Q E ↔ ns.length ≤ sizeLine ∧ Q (.val .src) := by
  constructor
  · rintro ⟨m, e, h⟩
    simp only [List.cons.injEq, D.scr.injEq, and_true] at e
    subst e
    exact h
  · exact fun h => ⟨ns, rfl, h⟩
/-- a comprehension of things not told, but of a kind -/
theorem lcD_any {α β : Type} [Enc α] [Enc β] {p : Pat} {we : WE} {env : DEnv} {Q : List O → Prop} (P : β → Prop) : ∀ (l : List α) (acc : List β), (∀ b ∈ acc, P b) → (∀ a ∈ l, ∀ R : O → Prop, (∀ b : β, P b → R (.val (Enc.enc b))) → ∃ env', p.bind id (Enc.enc a) env = some env' ∧ we env' R NoX) → acc.length + l.length ≤ sizeLine →
    (∀ (r : List β) os, r.length = acc.length + l.length → (∀ b ∈ r, P b) → O.lst os = Ow r → D.tup (O.ds os) = T r → D.lst (O.ds os) = L r → O.ds os = r.map Enc.enc → (Flat β → O.cleans os = true) → Q os) → lcD p wYes we env (l.map Enc.enc) (acc.map fun b => .val (Enc.enc b)) Q
  | [], acc, ha, _, _, hq => hq acc _ (by simp) ha (by simp [Ow_def]) (by rw [ds_Ow]; simp [T_def]) (by rw [ds_Ow]; simp [L_def]) (by rw [ds_Ow]) (fun _ => clean_Ow acc)
  | d :: ds, acc, ha, h, hl, hq => by
    rw [List.map_cons, lcD_cons]
    simp only [List.length_cons] at hl hq
    obtain ⟨env', h1, h2⟩ := h d (List.mem_cons_self ..) (fun o => acc.length < sizeLine ∧ lcD p wYes we env (ds.map Enc.enc) ((acc.map fun b => .val (Enc.enc b)) ++ [o]) Q) fun b hb => by
      refine ⟨by omega, ?_⟩
      have := lcD_any (p := p) (we := we) (env := env) (Q := Q) P ds (acc ++ [b]) (fun c hc => by
        rcases List.mem_append.mp hc with hc | hc
        · exact ha c hc
        · obtain rfl := List.mem_singleton.mp hc
          exact hb) (fun d hd => h d (List.mem_cons_of_mem _ hd)) (by simp; omega) fun r os hr => hq r os (by simp at hr; omega)
      rw [List.map_append] at this
      exact this
    refine ⟨env', h1, ?_⟩
    simp only [wYes_v, if_pos, List.length_map]
    exact h2
theorem noLsts_of {β : Type} [Enc β] [Flat β] {r : List β} {ds : List D} (e : ds = r.map Enc.enc) : noLsts ds = true := by
  rw [e]
  have := noLst_T r
  rwa [T_def, noLst_tup] at this
theorem tup1 (a : Int) : D.tup [.int a] = T [a] := rfl
theorem cut_mid {α : Type} (l : List α) {i j : Int} (h0 : 0 ≤ i) (h1 : i ≤ j) (h2 : j ≤ l.length) : cut l (some i) (some j) = (l.drop i.toNat).take (j - i).toNat := by
  show (l.drop (if i < 0 then (i + (l.length : Int)).toNat else min i.toNat l.length)).take ((if j < 0 then (j + (l.length : Int)).toNat else min j.toNat l.length) - (if i < 0 then (i + (l.length : Int)).toNat else min i.toNat l.length)) = _
  rw [if_neg (by omega), if_neg (by omega), Nat.min_eq_left (by omega), Nat.min_eq_left (by omega)]
  congr 1
  omega
/-- a test told -/
theorem sIf_run {t : WT} {s1 s2 : WS} {env : SEnv} {De : DEnds} {Ee : SEX} (b : Bool) (h : ∀ Q : Bool → Prop, Q b → t (view env) Q (fun x => x.clean = true ∧ Ee x env)) (k : if b = true then s1 env De Ee else s2 env De Ee) : sIf t s1 s2 env De Ee := h _ k
end DL
/-! DRep2 -/
namespace DL
open PySem PySem.Spec PyProof.Rows L2
section
variable {α β : Type} [Enc α] [Enc β] {env : DEnv} {Q : O → Prop} {E : EX} {w wa wb : WE}
@[simp] theorem iEnD_v {Q : List D → Prop} : iEnD w env Q E = w env (fun o => itemsD o.d fun ds => Q (enumF 0 ds)) E := rfl
@[simp] theorem iZs_v {Q : List D → Prop} : iZs wa wb env Q E = wa env (fun o => wb env (fun u => seqQ (fun ds => seqQ (fun es => ds.length = es.length ∧ Q (zipF ds es)) u.d) o.d) E) E := rfl
@[simp] theorem seqQ_T {Q : List D → Prop} {l : List α} : seqQ Q (T l) = Q (l.map Enc.enc) := rfl
@[simp] theorem seqQ_L {Q : List D → Prop} {l : List α} : seqQ Q (L l) = Q (l.map Enc.enc) := rfl
@[simp] theorem seqQ_tup {Q : List D → Prop} {l : List D} : seqQ Q (.tup l) = Q l := rfl
@[simp] theorem seqQ_lst {Q : List D → Prop} {l : List D} : seqQ Q (.lst l) = Q l := rfl
def enumI : Int → List α → List (Int × α)
  | _, [] => []
  | i, a :: as => (i, a) :: enumI (i + 1) as
@[simp] theorem enumF_enc (l : List α) (k : Int) : enumF k (l.map Enc.enc) = (enumI k l).map Enc.enc := by
  induction l generalizing k with
  | nil => rfl
  | cons a l ih => simp only [List.map_cons, enumF, enumI, ih]; rfl
@[simp] theorem enumI_length (l : List α) (k : Int) : (enumI k l).length = l.length := by
  induction l generalizing k with
  | nil => rfl
  | cons a l ih => simp [enumI, ih]
@[simp] theorem zipF_enc (a : List α) (b : List β) : zipF (a.map Enc.enc) (b.map Enc.enc) = (a.zip b).map Enc.enc := by
  induction a generalizing b with
  | nil => simp [zipF]
  | cons x a ih =>
    cases b with
    | nil => simp [zipF]
    | cons y b => simp only [List.map_cons, zipF, List.zip_cons_cons, ih]; rfl
theorem map_int_inj : ∀ {a b : List Int}, a.map Enc.enc = b.map D.int → a = b
  | [], [], _ => rfl
  | [], _ :: _, h => by simp at h
  | _ :: _, [], h => by simp at h
  | x :: a, y :: b, h => by
    simp only [List.map_cons, List.cons.injEq, en_int, D.int.injEq] at h
    rw [h.1, map_int_inj h.2]
theorem map_bl_inj : ∀ {a b : List Bool}, a.map Enc.enc = b.map D.bl → a = b
  | [], [], _ => rfl
  | [], _ :: _, h => by simp at h
  | _ :: _, [], h => by simp at h
  | x :: a, y :: b, h => by
    simp only [List.map_cons, List.cons.injEq, en_bool, D.bl.injEq] at h
    rw [h.1, map_bl_inj h.2]
@[simp] theorem sumD_L {l : List Int} : sumD [L l] Q ↔ Q (.val (.int l.sum)) :=
  ⟨fun ⟨ns, e, q⟩ => by rw [map_int_inj e]; exact q, fun q => ⟨l, rfl, q⟩⟩
@[simp] theorem maxLD_L {l : List Int} : maxLD [L l] Q ↔ 0 < l.length ∧ ∀ m, m ∈ l → (∀ y, y ∈ l → y ≤ m) → Q (.val (.int m)) :=
  ⟨fun ⟨ns, e, q⟩ => by rw [map_int_inj e]; exact q, fun q => ⟨l, rfl, q⟩⟩
@[simp] theorem minLD_L {l : List Int} : minLD [L l] Q ↔ 0 < l.length ∧ ∀ m, m ∈ l → (∀ y, y ∈ l → m ≤ y) → Q (.val (.int m)) :=
  ⟨fun ⟨ns, e, q⟩ => by rw [map_int_inj e]; exact q, fun q => ⟨l, rfl, q⟩⟩
@[simp] theorem allD_L {l : List Bool} : allD [L l] Q ↔ Q (.val (.bl (l.all id))) :=
  ⟨fun ⟨ns, e, q⟩ => by rw [map_bl_inj e]; exact q, fun q => ⟨l, rfl, q⟩⟩
@[simp] theorem anyD_L {l : List Bool} : anyD [L l] Q ↔ Q (.val (.bl (l.any id))) :=
  ⟨fun ⟨ns, e, q⟩ => by rw [map_bl_inj e]; exact q, fun q => ⟨l, rfl, q⟩⟩
@[simp] theorem sortedD_L {l : List Int} : sortedD [L l] Q ↔ ∀ ns : List Int, ns.Perm l → ns.Pairwise (· ≤ ·) → Q (Ow ns) := by
  have e : ∀ ns : List Int, O.lst ((ns.map D.int).map O.val) = Ow ns := fun ns => by rw [List.map_map]; rfl
  constructor
  · rintro ⟨ns, h, q⟩ ns' h1 h2
    rw [map_int_inj h] at h1
    have := q ns' h1 h2
    rwa [e] at this
  · intro q
    refine ⟨l, rfl, fun ns' h1 h2 => ?_⟩
    rw [e]
    exact q ns' h1 h2
@[simp] theorem intQ_v {Q : Int → Prop} {i : Int} : intQ Q (.int i) = Q i := rfl
@[simp] theorem rg1_v {Q : Int → Int → Prop} : rg1 wa env Q E = wa env (fun o => intQ (fun n => Q 0 n) o.d) E := rfl
@[simp] theorem rg2_v {Q : Int → Int → Prop} : rg2 wa wb env Q E = wa env (fun o => intQ (fun i => wb env (fun u => intQ (fun j => Q i j) u.d) E) o.d) E := rfl
theorem rng_Ow (i j : Int) : O.lst ((rng i j).map .val) = Ow (rngI i j) := by rw [rng_I, lstval]
theorem rng_T (i j : Int) : D.tup (rng i j) = T (rngI i j) := by rw [rng_I]; rfl
@[simp] theorem eLstRg_v {w : WR} : eLstRg w env Q E = w env (fun i j => RgOk i j ∧ Q (Ow (rngI i j))) E := by
  unfold eLstRg
  simp only [rng_Ow]
@[simp] theorem eTupRg_v {w : WR} : eTupRg w env Q E = w env (fun i j => RgOk i j ∧ Q (.val (T (rngI i j)))) E := by
  unfold eTupRg
  simp only [rng_T]
end
/-- an own list with one thing set -/
def setO {α : Type} [Enc α] (l : List α) (j : Nat) (o : O) : O := .lst ((l.map fun a => .val (Enc.enc a)).set j o)
@[simp] theorem setO_int (l : List Int) (j : Nat) (x : Int) : setO l j (.val (.int x)) = Ow (l.set j x) := by
  rw [setO, Ow_def, List.map_set]; rfl
@[simp] theorem setO_T {α : Type} [Enc α] (l : List (List α)) (j : Nat) (x : List α) : setO l j (.val (T x)) = Ow (l.set j x) := by
  rw [setO, Ow_def, List.map_set]; rfl
section
variable {env : SEnv} {De : DEnds} {Ee : SEX} {wi we : WE} {i : Nat}
theorem ix_Ow {α : Type} [Enc α] (l : List α) (h : env[i]? = some (some (Ow l))) : sIx i wi we env De Ee = we (view env) (fun o => o.clean = true ∧ wi (view env) (fun k => k.clean = true ∧ ∃ n j, k.d = .int n ∧ ixN l.length n = some j ∧ De.nx (env.set i (some (setO l j o)))) (fun x => x.clean = true ∧ Ee x env)) (fun x => x.clean = true ∧ Ee x env) := by
  show ownD env[i]? _ = _
  rw [h]
  simp only [Ow_def, ownD, evC, List.length_map, setO]
theorem augIx_Ow (l : List Int) {f : D → D → PQ} (h : env[i]? = some (some (Ow l))) : sAugIx i f wi we env De Ee = wi (view env) (fun k => k.clean = true ∧ ∃ n j m, k.d = .int n ∧ ixN l.length n = some j ∧ l[j]? = some m ∧
    we (view env) (fun o => o.clean = true ∧ f (.int m) o.d fun z => ∃ e, z = .val e ∧ noLst e = true ∧ De.nx (env.set i (some (setO l j (.val e))))) (fun x => x.clean = true ∧ Ee x env)) (fun x => x.clean = true ∧ Ee x env) := by
  have key : ∀ j (m : Int), ((l.map fun a => O.val (Enc.enc a))[j]? = some (O.val (.int m))) = (l[j]? = some m) := fun j m => by
    rw [List.getElem?_map]
    cases l[j]? with
    | none => simp
    | some x => simp
  show ownD env[i]? _ = _
  rw [h]
  simp only [Ow_def, ownD, evC, List.length_map, setO, key]
@[simp] theorem sTry_v {tbl : List (Str × Bool)} {sb sh : WS} : sTry tbl sb sh env De Ee = sb env De (fun e env' => match tbl.lookup e.cls with | some true => sh env' De (fun _ _ => False) | some false => Ee e env' | none => False) := rfl
end
theorem ixN_nat {n i : Nat} (h : i < n) : ixN n (i : Int) = some i := by
  unfold ixN
  rw [if_pos (by omega), if_pos (by omega)]
  rfl
theorem ixN_pos {n : Nat} {i : Int} (h0 : 0 ≤ i) (h : i < n) : ixN n i = some i.toNat := by
  unfold ixN
  rw [if_pos h0, if_pos h]
theorem RgOk_of {i j : Int} (h0 : 0 ≤ i) (h1 : i ≤ 1000000) (h2 : j ≤ 1000000) (h3 : -1000000 ≤ j) : RgOk i j := ⟨by omega, by omega, by omega, by omega, by omega⟩
end DL
/-! Poly -/
namespace PO
/-- the number k of a polynomial -/
def cf (l : List Int) (k : Nat) : Int := l[k]?.getD 0
@[simp] theorem cf_nil (k : Nat) : cf [] k = 0 := rfl
@[simp] theorem cf_cons_zero (a : Int) (l : List Int) : cf (a :: l) 0 = a := rfl
@[simp] theorem cf_cons_succ (a : Int) (l : List Int) (k : Nat) : cf (a :: l) (k + 1) = cf l k := rfl
theorem cf_get {l : List Int} {k : Nat} (h : k < l.length) : cf l k = l[k] := by
  unfold cf
  rw [List.getElem?_eq_getElem h]
  rfl
theorem cf_some {l : List Int} {k : Nat} (h : k < l.length) : l[k]? = some (cf l k) := by
  rw [cf_get h]
  exact List.getElem?_eq_getElem h
theorem cf_out {l : List Int} {k : Nat} (h : l.length ≤ k) : cf l k = 0 := by
  unfold cf
  rw [List.getElem?_eq_none h]
  rfl
theorem cf_set {l : List Int} {i : Nat} {x : Int} (h : i < l.length) (k : Nat) : cf (l.set i x) k = if k = i then x else cf l k := by
  unfold cf
  rw [List.getElem?_set]
  by_cases q : i = k
  · subst q
    simp [h]
  · rw [if_neg q, if_neg (fun e => q e.symm)]
theorem cf_ext {a b : List Int} (hl : a.length = b.length) (h : ∀ k, cf a k = cf b k) : a = b := by
  apply List.ext_getElem hl
  intro k h1 h2
  have := h k
  rwa [cf_get h1, cf_get h2] at this
/-- the last ones that are 0 left out -/
def trm : List Int → List Int
  | [] => []
  | a :: l => match trm l with
    | [] => if a = 0 then [] else [a]
    | b :: t => a :: b :: t
/-- the last one is not 0 -/
def Tr (l : List Int) : Prop := ∀ k, k + 1 = l.length → cf l k ≠ 0
theorem cf_trm : ∀ (l : List Int) (k : Nat), cf (trm l) k = cf l k
  | [], _ => rfl
  | a :: l, k => by
    have ih := cf_trm l
    unfold trm
    cases e : trm l with
    | nil =>
      rw [e] at ih
      simp only
      split
      · rename_i h
        cases k with
        | zero => simp [h]
        | succ k => rw [cf_cons_succ, ← ih k]; rfl
      · cases k with
        | zero => rfl
        | succ k => rw [cf_cons_succ, cf_cons_succ, ← ih k]
    | cons b t =>
      rw [e] at ih
      simp only
      cases k with
      | zero => rfl
      | succ k => rw [cf_cons_succ, cf_cons_succ, ← ih k]
theorem tr_trm : ∀ l : List Int, Tr (trm l)
  | [] => fun k h => by simp [trm] at h
  | a :: l => by
    have ih := tr_trm l
    unfold trm
    cases e : trm l with
    | nil =>
      simp only
      split
      · exact fun k h => by simp at h
      · rename_i h
        intro k hk
        simp only [List.length_cons, List.length_nil] at hk
        have : k = 0 := by omega
        subst this
        exact h
    | cons b t =>
      rw [e] at ih
      simp only
      intro k hk
      simp only [List.length_cons] at hk
      cases k with
      | zero => omega
      | succ k => rw [cf_cons_succ]; exact ih k (by simp only [List.length_cons]; omega)
theorem trm_length_le : ∀ l : List Int, (trm l).length ≤ l.length
  | [] => Nat.le_refl _
  | a :: l => by
    have ih := trm_length_le l
    unfold trm
    cases e : trm l with
    | nil =>
      simp only
      split <;> simp
    | cons b t =>
      rw [e] at ih
      simp only [List.length_cons] at *
      omega
theorem tr_len {a b : List Int} (ha : Tr a) (h : ∀ k, cf a k = cf b k) : a.length ≤ b.length := by
  by_cases q : a.length ≤ b.length
  · exact q
  · have := ha (a.length - 1) (by omega)
    rw [h, cf_out (by omega)] at this
    exact absurd rfl this
theorem tr_ext {a b : List Int} (ha : Tr a) (hb : Tr b) (h : ∀ k, cf a k = cf b k) : a = b :=
  cf_ext (Nat.le_antisymm (tr_len ha h) (tr_len hb fun k => (h k).symm)) h
theorem trm_eq {a b : List Int} (hb : Tr b) (h : ∀ k, cf a k = cf b k) : trm a = b :=
  tr_ext (tr_trm a) hb fun k => by rw [cf_trm, h]
theorem trm_of {a : List Int} (h : Tr a) : trm a = a := trm_eq h fun _ => rfl
theorem trm_congr {a b : List Int} (h : ∀ k, cf a k = cf b k) : trm a = trm b :=
  trm_eq (tr_trm b) fun k => by rw [cf_trm, h]
theorem trm_drop {l : List Int} {n : Nat} (h : ∀ k, n ≤ k → cf l k = 0) : trm (l.take n) = trm l := by
  apply trm_congr
  intro k
  unfold cf
  rw [List.getElem?_take]
  split
  · rfl
  · exact (h k (by omega)).symm
theorem trm_take {l : List Int} {n : Nat} (hn : n ≤ l.length) (h : ∀ k, n ≤ k → cf l k = 0) (ht : ∀ k, k + 1 = n → cf l k ≠ 0) : l.take n = trm l := by
  refine tr_ext (fun k hk => ?_) (tr_trm l) fun k => ?_
  · rw [List.length_take] at hk
    have e : cf (l.take n) k = cf l k := by
      unfold cf
      rw [List.getElem?_take, if_pos (by omega)]
    rw [e]
    exact ht k (by omega)
  · rw [cf_trm, ← cf_trm (l.take n), trm_drop h, cf_trm]
/-- bounds -/
def Bd (B : Nat) (l : List Int) : Prop := ∀ k, (cf l k).natAbs ≤ B
theorem Bd.trm {B : Nat} {l : List Int} (h : Bd B l) : Bd B (trm l) := fun k => by rw [cf_trm]; exact h k
theorem Bd.mem {B : Nat} {l : List Int} (h : Bd B l) : ∀ x ∈ l, x.natAbs ≤ B := fun x hx => by
  obtain ⟨k, hk, rfl⟩ := List.getElem_of_mem hx
  rw [← cf_get hk]
  exact h k
theorem Bd.of {B : Nat} {l : List Int} (h : ∀ x ∈ l, x.natAbs ≤ B) : Bd B l := fun k => by
  by_cases q : k < l.length
  · rw [cf_get q]
    exact h _ (List.getElem_mem ..)
  · rw [cf_out (by omega)]
    exact Nat.zero_le _
/-- the numbers of a product -/
def pm : List Int → List Int → Nat → Int
  | [], _, _ => 0
  | a :: l, b, 0 => a * cf b 0
  | a :: l, b, k + 1 => a * cf b (k + 1) + pm l b k
@[simp] theorem pm_nil (b : List Int) (k : Nat) : pm [] b k = 0 := by unfold pm; rfl
theorem pm_zero (a : Int) (l b : List Int) : pm (a :: l) b 0 = a * cf b 0 := rfl
theorem pm_succ (a : Int) (l b : List Int) (k : Nat) : pm (a :: l) b (k + 1) = a * cf b (k + 1) + pm l b k := rfl
theorem pm_out : ∀ (l b : List Int) (k : Nat), l.length + b.length ≤ k + 1 → pm l b k = 0
  | [], b, k, _ => by simp
  | a :: l, b, 0, h => by
    simp only [List.length_cons] at h
    rw [pm_zero, cf_out (by omega), Int.mul_zero]
  | a :: l, b, k + 1, h => by
    simp only [List.length_cons] at h
    rw [pm_succ, cf_out (by omega), pm_out l b k (by omega), Int.mul_zero, Int.add_zero]
theorem pm_nil_right : ∀ (l : List Int) (k : Nat), pm l [] k = 0
  | [], k => by simp
  | a :: l, 0 => by rw [pm_zero]; simp
  | a :: l, k + 1 => by rw [pm_succ, pm_nil_right l k]; simp
theorem pm_top : ∀ (l b : List Int) (n m : Nat), l.length = n + 1 → b.length = m + 1 → pm l b (n + m) = cf l n * cf b m
  | [], b, n, m, h, _ => by simp at h
  | a :: l, b, 0, m, h, hb => by
    have : l = [] := List.length_eq_zero_iff.mp (by simpa using h)
    subst this
    rw [Nat.zero_add]
    cases m with
    | zero => rfl
    | succ m => rw [pm_succ]; simp
  | a :: l, b, n + 1, m, h, hb => by
    simp only [List.length_cons] at h
    rw [show n + 1 + m = n + m + 1 by omega, pm_succ, pm_top l b n m (by omega) hb, cf_out (by omega), cf_cons_succ]
    simp
theorem pm_congr (a b : List Int) : ∀ (l : List Int) (k : Nat), (∀ k, cf a k = cf b k) → pm l a k = pm l b k
  | [], k, _ => by simp
  | x :: l, 0, h => by rw [pm_zero, pm_zero, h]
  | x :: l, k + 1, h => by rw [pm_succ, pm_succ, h, pm_congr a b l k h]
theorem pm_zero_list (b : List Int) : ∀ (l : List Int) (k : Nat), (∀ k, cf l k = 0) → pm l b k = 0
  | [], k, _ => by simp
  | x :: l, 0, h => by rw [pm_zero, show x = 0 from h 0, Int.zero_mul]
  | x :: l, k + 1, h => by rw [pm_succ, show x = 0 from h 0, pm_zero_list b l k fun k => h (k + 1)]; simp
theorem pm_congr_l (b : List Int) : ∀ (l l' : List Int) (k : Nat), (∀ k, cf l k = cf l' k) → pm l b k = pm l' b k
  | [], l', k, h => by rw [pm_nil, pm_zero_list b l' k fun k => (h k).symm]
  | x :: l, [], k, h => by rw [pm_nil, pm_zero_list b (x :: l) k h]
  | x :: l, y :: l', 0, h => by rw [pm_zero, pm_zero, show x = y from h 0]
  | x :: l, y :: l', k + 1, h => by rw [pm_succ, pm_succ, show x = y from h 0, pm_congr_l b l l' k fun k => h (k + 1)]
theorem pm_bd {A B : Nat} : ∀ (l b : List Int) (k : Nat), Bd A l → Bd B b → (pm l b k).natAbs ≤ l.length * (A * B)
  | [], b, k, _, _ => by simp
  | a :: l, b, k, ha, hb => by
    have h0 : ∀ k, (a * cf b k).natAbs ≤ A * B := fun k => by
      rw [Int.natAbs_mul]
      exact Nat.mul_le_mul (ha 0) (hb k)
    rw [List.length_cons, Nat.succ_mul]
    cases k with
    | zero => exact Nat.le_trans (h0 0) (Nat.le_add_left _ _)
    | succ k =>
      rw [pm_succ]
      have := pm_bd l b k (fun k => ha (k + 1)) hb
      have := h0 (k + 1)
      have := Int.natAbs_add_le (a * cf b (k + 1)) (pm l b k)
      omega
/-- the product -/
def pml (a b : List Int) : List Int := trm ((List.range (a.length + b.length)).map (pm a b))
theorem cf_range (f : Nat → Int) (n k : Nat) : cf ((List.range n).map f) k = if k < n then f k else 0 := by
  unfold cf
  rw [List.getElem?_map]
  split
  · rename_i h
    rw [List.getElem?_range h]
    rfl
  · rename_i h
    rw [List.getElem?_eq_none (by rw [List.length_range]; omega)]
    rfl
theorem cf_pml (a b : List Int) (k : Nat) : cf (pml a b) k = pm a b k := by
  unfold pml
  rw [cf_trm, cf_range]
  split
  · rfl
  · exact (pm_out a b k (by omega)).symm
theorem tr_pml (a b : List Int) : Tr (pml a b) := tr_trm _
theorem pml_eq {a b l : List Int} (h : ∀ k, cf l k = pm a b k) : trm l = pml a b :=
  trm_eq (tr_pml a b) fun k => by rw [h, cf_pml]
theorem pml_len (a b : List Int) : (pml a b).length ≤ a.length + b.length := by
  refine Nat.le_trans (trm_length_le _) ?_
  simp
theorem pml_len' {a b : List Int} (ha : Tr a) (hb : Tr b) (h1 : a ≠ []) (h2 : b ≠ []) : (pml a b).length + 1 = a.length + b.length := by
  have l1 := List.length_pos_iff.mpr h1
  have l2 := List.length_pos_iff.mpr h2
  have t := pm_top a b (a.length - 1) (b.length - 1) (by omega) (by omega)
  have n1 := ha (a.length - 1) (by omega)
  have n2 := hb (b.length - 1) (by omega)
  have e1 : (pml a b).length ≤ a.length + b.length - 1 := by
    have := tr_len (tr_pml a b) (b := (List.range (a.length + b.length - 1)).map (pm a b)) fun k => by
      rw [cf_pml, cf_range]
      split
      · rfl
      · exact pm_out a b k (by omega)
    simpa using this
  have e2 : a.length - 1 + (b.length - 1) < (pml a b).length := by
    by_cases q : a.length - 1 + (b.length - 1) < (pml a b).length
    · exact q
    · have := cf_out (l := pml a b) (k := a.length - 1 + (b.length - 1)) (by omega)
      rw [cf_pml, t] at this
      exact absurd this (Int.mul_ne_zero n1 n2)
  omega
/-- the worth -/
def ev : List Int → Int → Int
  | [], _ => 0
  | a :: l, u => a + u * ev l u
@[simp] theorem ev_nil (u : Int) : ev [] u = 0 := rfl
theorem ev_cons (a : Int) (l : List Int) (u : Int) : ev (a :: l) u = a + u * ev l u := rfl
theorem ev_bd {A U : Nat} {u : Int} (hu : u.natAbs ≤ U) : ∀ l : List Int, Bd A l → (ev l u).natAbs ≤ A * (U + 1) ^ l.length
  | [], _ => by simp
  | a :: l, h => by
    have ih := ev_bd hu l fun k => h (k + 1)
    rw [ev_cons, List.length_cons, Nat.pow_succ]
    have h0 : a.natAbs ≤ A := h 0
    have h1 := Int.natAbs_add_le a (u * ev l u)
    rw [Int.natAbs_mul] at h1
    have h2 := Nat.mul_le_mul hu ih
    have h3 : A ≤ A * (U + 1) ^ l.length := Nat.le_mul_of_pos_right _ (Nat.pow_pos (Nat.succ_pos _))
    have h4 : A * ((U + 1) ^ l.length * (U + 1)) = U * (A * (U + 1) ^ l.length) + A * (U + 1) ^ l.length := by
      rw [← Nat.mul_assoc, Nat.mul_comm _ (U + 1), Nat.succ_mul]
    omega
end PO
/-! Poly2 -/
namespace PO
theorem pm_snoc (b : List Int) (x : Int) : ∀ (l : List Int) (k : Nat), pm (l ++ [x]) b k = pm l b k + if l.length ≤ k then x * cf b (k - l.length) else 0
  | [], 0 => by simp [pm_zero]
  | [], k + 1 => by rw [List.nil_append, pm_succ]; simp
  | a :: l, 0 => by simp [pm_zero]
  | a :: l, k + 1 => by
    rw [List.cons_append, pm_succ, pm_succ, pm_snoc b x l k, Int.add_assoc, List.length_cons, Nat.add_sub_add_right]
    simp only [Nat.add_le_add_iff_right]
theorem pm_take (b : List Int) : ∀ (a : List Int) (n k : Nat), k < n → pm (a.take n) b k = pm a b k
  | [], n, k, _ => by simp
  | x :: a, 0, k, h => by omega
  | x :: a, n + 1, 0, h => by rw [List.take_succ_cons, pm_zero, pm_zero]
  | x :: a, n + 1, k + 1, h => by rw [List.take_succ_cons, pm_succ, pm_succ, pm_take b a n k (by omega)]
/-- the first numbers of a polynomial divided by another one -/
def qn (one other : List Int) : Nat → List Int
  | 0 => []
  | n + 1 => qn one other n ++ [(cf one n - pm (qn one other n) other n) * cf other 0]
@[simp] theorem qn_zero (one other : List Int) : qn one other 0 = [] := rfl
theorem qn_succ (one other : List Int) (n : Nat) : qn one other (n + 1) = qn one other n ++ [(cf one n - pm (qn one other n) other n) * cf other 0] := rfl
@[simp] theorem qn_length (one other : List Int) : ∀ n, (qn one other n).length = n
  | 0 => rfl
  | n + 1 => by rw [qn_succ, List.length_append, qn_length one other n]; rfl
/-- how many laps there are -/
def lp (one other : List Int) : Nat := one.length + 1 - other.length
def dv (one other : List Int) : Option (List Int) := if pml (qn one other (lp one other)) other = one then some (trm (qn one other (lp one other))) else none
theorem qn_whole {a b : List Int} (h0 : cf b 0 * cf b 0 = 1) : ∀ n, n ≤ a.length → qn (pml a b) b n = a.take n
  | 0, _ => by simp
  | n + 1, h => by
    have e1 := pm_take b a (n + 1) n (by omega)
    rw [List.take_succ_eq_append_getElem (by omega), pm_snoc, List.length_take, Nat.min_eq_left (by omega), if_pos (Nat.le_refl _), Nat.sub_self] at e1
    rw [qn_succ, qn_whole h0 n (by omega), cf_pml, List.take_succ_eq_append_getElem (by omega), ← e1]
    congr 2
    rw [show pm (a.take n) b n + a[n] * cf b 0 - pm (a.take n) b n = a[n] * cf b 0 by omega, Int.mul_assoc, h0, Int.mul_one]
theorem dv_whole {a b : List Int} (ha : Tr a) (hb : Tr b) (h0 : cf b 0 * cf b 0 = 1) : dv (pml a b) b = some a := by
  have nb : b ≠ [] := fun e => by rw [e] at h0; simp at h0
  have lb := List.length_pos_iff.mpr nb
  have e : qn (pml a b) b (lp (pml a b) b) = a := by
    by_cases q : a = []
    · subst q
      have : pml [] b = [] := by
        have := pml_eq (a := []) (b := b) (l := []) fun k => by simp
        rw [← this]; rfl
      have z : lp (pml [] b) b = 0 := by
        unfold lp
        rw [this]
        simp only [List.length_nil]
        omega
      rw [z, qn_zero]
    · have := pml_len' ha hb q nb
      rw [show lp (pml a b) b = a.length by unfold lp; omega, qn_whole h0 _ (Nat.le_refl _), List.take_length]
  unfold dv
  rw [e, if_pos rfl, trm_of ha]
theorem qn_bd {B D n : Nat} {one other : List Int} (h1 : Bd B one) (h2 : Bd D other) (h0 : (cf other 0).natAbs ≤ 1) : ∀ k, k ≤ n → Bd (B * (1 + n * D) ^ k) (qn one other k)
  | 0, _ => fun k => by simp
  | k + 1, h => by
    have ih := qn_bd (n := n) h1 h2 h0 k (by omega)
    have hp := pm_bd (qn one other k) other k ih h2
    rw [qn_length] at hp
    have hC : B ≤ B * (1 + n * D) ^ k := Nat.le_mul_of_pos_right _ (show 0 < (1 + n * D) ^ k from Nat.pow_pos (by omega))
    have hkn : k ≤ n := by omega
    have hk : k * (B * (1 + n * D) ^ k * D) ≤ n * (B * (1 + n * D) ^ k * D) := Nat.mul_le_mul_right _ hkn
    have hs : B * (1 + n * D) ^ (k + 1) = B * (1 + n * D) ^ k + n * (B * (1 + n * D) ^ k * D) := by
      rw [Nat.pow_succ, ← Nat.mul_assoc, Nat.mul_add, Nat.mul_one, Nat.mul_left_comm _ n D]
    refine Bd.of fun x hx => ?_
    rw [qn_succ, List.mem_append, List.mem_singleton] at hx
    rcases hx with hx | hx
    · have := ih.mem x hx
      omega
    · subst hx
      rw [Int.natAbs_mul]
      have h3 := h1 k
      have h4 := Int.natAbs_sub_le (cf one k) (pm (qn one other k) other k)
      have h5 := Nat.mul_le_mul_left (cf one k - pm (qn one other k) other k).natAbs h0
      omega
/-- a sum over a range -/
theorem pm_sum (b : List Int) : ∀ (l : List Int) (k : Nat), l.length ≤ k → pm l b k = ((List.range l.length).map fun j => cf l j * cf b (k - j)).sum
  | [], k, _ => by simp
  | a :: l, 0, h => by simp at h
  | a :: l, k + 1, h => by
    simp only [List.length_cons] at h
    rw [pm_succ, pm_sum b l k (by omega), List.length_cons, List.range_succ_eq_map, List.map_cons, List.sum_cons, List.map_map]
    congr 2
    apply List.map_congr_left
    intro j _
    simp

/-- worths of the last ones -/
def qs : List Int → Int → List Int
  | [], _ => []
  | y :: p, c => ev (y :: p) c :: qs p c
@[simp] theorem qs_nil (c : Int) : qs [] c = [] := rfl
theorem qs_cons (y : Int) (p : List Int) (c : Int) : qs (y :: p) c = ev (y :: p) c :: qs p c := rfl
/-- divided by the unknown less a number -/
def ql (p : List Int) (c : Int) : List Int := qs p.tail c
theorem qs_tail (p : List Int) (c : Int) : (qs p c).tail = qs p.tail c := by
  cases p with
  | nil => rfl
  | cons y p => rfl
@[simp] theorem qs_length (p : List Int) (c : Int) : (qs p c).length = p.length := by
  induction p with
  | nil => rfl
  | cons y p ih => rw [qs_cons, List.length_cons, ih, List.length_cons]
theorem ql_length (p : List Int) (c : Int) : (ql p c).length = p.length - 1 := by
  unfold ql
  rw [qs_length, List.length_tail]
theorem ev_qs (p : List Int) (a b : Int) : b * ev p b - a * ev p a = (b - a) * ev (qs p a) b := by
  induction p with
  | nil => simp
  | cons z p ih =>
    simp only [qs_cons, ev_cons]
    grind
theorem qs_sym (p : List Int) (a b : Int) : ev (qs p a) b = ev (qs p b) a := by
  induction p with
  | nil => rfl
  | cons y p ih =>
    have h1 := ev_qs p a b
    simp only [qs_cons, ev_cons]
    grind
theorem qs_comm (p : List Int) (a b : Int) : qs (qs p a) b = qs (qs p b) a := by
  induction p with
  | nil => rfl
  | cons y p ih =>
    have := qs_sym (y :: p) a b
    rw [qs_cons, qs_cons] at *
    rw [qs_cons, qs_cons, this, ih]
theorem ql_sym (p : List Int) (a b : Int) : ev (ql p a) b = ev (ql p b) a := qs_sym _ _ _
theorem ql_comm (p : List Int) (a b : Int) : ql (ql p a) b = ql (ql p b) a := by
  unfold ql
  rw [qs_tail, qs_tail, qs_comm]
theorem ev_ql (p : List Int) (a b : Int) : ev p b - ev p a = (b - a) * ev (ql p a) b := by
  unfold ql
  cases p with
  | nil => simp
  | cons z p =>
    have := ev_qs p a b
    rw [ev_cons, ev_cons, List.tail_cons]
    omega
theorem cf_ql (p : List Int) (c : Int) : ∀ j, cf p (j + 1) = cf (ql p c) j - c * cf (ql p c) (j + 1) := by
  have h : ∀ (p : List Int) (j : Nat), cf p j = cf (qs p c) j - c * cf (qs p c) (j + 1) := by
    intro p
    induction p with
    | nil => intro j; simp
    | cons y p ih =>
      intro j
      cases j with
      | zero =>
        rw [qs_cons, cf_cons_zero, cf_cons_zero, cf_cons_succ]
        cases p with
        | nil => simp [ev_cons]
        | cons z p =>
          rw [qs_cons, cf_cons_zero]
          conv => rhs; rw [ev_cons]
          omega
      | succ j => rw [qs_cons, cf_cons_succ, cf_cons_succ, cf_cons_succ, ih j]
  intro j
  unfold ql
  rw [← h]
  cases p with
  | nil => rfl
  | cons y p => rfl
theorem cf_ql0 (p : List Int) (c : Int) : cf p 0 = ev p c - c * cf (ql p c) 0 := by
  cases p with
  | nil => simp [ql]
  | cons y p =>
    unfold ql
    rw [List.tail_cons, ev_cons, cf_cons_zero]
    cases p with
    | nil => simp
    | cons z p => rw [qs_cons, cf_cons_zero]; omega
/-- divided by the unknown less i, i + 1, and so on -/
def dd (p : List Int) (i : Int) : Nat → List Int
  | 0 => p
  | k + 1 => ql (dd p i k) (i + k)
@[simp] theorem dd_zero (p : List Int) (i : Int) : dd p i 0 = p := rfl
theorem dd_succ (p : List Int) (i : Int) (k : Nat) : dd p i (k + 1) = ql (dd p i k) (i + k) := rfl
theorem dd_succ' (p : List Int) (i : Int) : ∀ k, dd p i (k + 1) = ql (dd p (i + 1) k) i
  | 0 => by rw [dd_succ]; simp
  | k + 1 => by
    rw [dd_succ, dd_succ' p i k, dd_succ p (i + 1) k, ql_comm, show i + 1 + (k : Int) = i + ((k + 1 : Nat) : Int) by omega]
theorem dd_length (p : List Int) (i : Int) : ∀ k, (dd p i k).length = p.length - k
  | 0 => rfl
  | k + 1 => by rw [dd_succ, ql_length, dd_length p i k]; omega
/-- a line of differences of differences -/
def dl (p : List Int) (k : Nat) (i : Int) : Int := ev (dd p i k) (i + k)
theorem dl_shift (p : List Int) (i : Int) : ∀ k, dl p k i = ev (dd p (i + 1) k) i
  | 0 => by unfold dl; simp
  | k + 1 => by
    unfold dl
    rw [dd_succ', dd_succ, ql_sym, show i + 1 + (k : Int) = i + ((k + 1 : Nat) : Int) by omega]
theorem dl_step (p : List Int) (k : Nat) (i : Int) : dl p k (i + 1) - dl p k i = (k + 1) * dl p (k + 1) i := by
  rw [dl_shift p i k]
  unfold dl
  rw [ev_ql, dd_succ', show i + 1 + (k : Int) - i = k + 1 by omega, show i + 1 + (k : Int) = i + ((k + 1 : Nat) : Int) by omega]
theorem dl_div (p : List Int) (k : Nat) (i : Int) : (dl p k (i + 1) - dl p k i) / (k + 1) = dl p (k + 1) i := by
  rw [dl_step, Int.mul_ediv_cancel_left _ (by omega)]
/-- put back -/
def bk (h : Int) (k : Int) (f : List Int) : List Int := (List.range (f.length + 1)).map fun j => (if j = 0 then h else cf f (j - 1)) - k * cf f j
theorem cf_bk (h k : Int) (f : List Int) (j : Nat) : cf (bk h k f) j = (if j = 0 then h else cf f (j - 1)) - k * cf f j := by
  unfold bk
  rw [cf_range]
  split
  · rfl
  · rename_i q
    rw [if_neg (by omega), cf_out (by omega), cf_out (by omega)]
    simp
theorem bk_dd {p f : List Int} {k : Nat} (h : ∀ j, cf f j = cf (dd p 0 (k + 1)) j) (j : Nat) : cf (bk (dl p k 0) k f) j = cf (dd p 0 k) j := by
  rw [cf_bk]
  rw [dd_succ, Int.zero_add] at h
  cases j with
  | zero =>
    rw [if_pos rfl, h, cf_ql0 (dd p 0 k) k]
    unfold dl
    rw [Int.zero_add]
  | succ j =>
    rw [if_neg (by omega), h, Nat.add_sub_cancel, h, cf_ql (dd p 0 k) k]
end PO
/-! PolyD -/
namespace DL
open PySem PySem.Spec PyProof.Rows L2
def fsTrm : FSp := fun ds Q _ => ∃ l : List Int, (ds = [T l] ∨ ds = [L l]) ∧ l.length ≤ 1000 ∧ Q (.val (T (PO.trm l)))
theorem Linj {a b : List Int} (h : L a = L b) : a = b := by
  rw [L_def, L_def] at h
  exact (T_inj a b).mp (by rw [T_def, T_def]; exact congrArg D.tup (D.lst.inj h))
theorem fsTrm_T {l : List Int} {Q : O → Prop} {E : EX} : fsTrm [T l] Q E ↔ l.length ≤ 1000 ∧ Q (.val (T (PO.trm l))) := by
  constructor
  · rintro ⟨a, e | e, h⟩
    · simp only [List.cons.injEq, T_inj, and_true] at e
      rw [e]
      exact h
    · simp only [List.cons.injEq, T_def, L_def, and_true] at e
      cases e
  · exact fun h => ⟨_, .inl rfl, h⟩
theorem fsTrm_L {l : List Int} {Q : O → Prop} {E : EX} : fsTrm [L l] Q E ↔ l.length ≤ 1000 ∧ Q (.val (T (PO.trm l))) := by
  constructor
  · rintro ⟨a, e | e, h⟩
    · simp only [List.cons.injEq, T_def, L_def, and_true] at e
      cases e
    · simp only [List.cons.injEq, and_true] at e
      rw [Linj e]
      exact h
  · exact fun h => ⟨_, .inr rfl, h⟩
theorem rep_Ow (n : Nat) (x : Int) : O.lst (List.replicate n (O.val (D.int x))) = Ow (List.replicate n x) := by
  rw [Ow_def, List.map_replicate]; rfl
theorem rep_cl (n : Nat) (x : Int) : O.cleans (List.replicate n (O.val (D.int x))) = true := by
  have h := clean_Ow (List.replicate n x)
  rw [← rep_Ow] at h
  exact h
theorem rngI_cons {lo hi : Int} (h : lo < hi) : rngI lo hi = lo :: rngI (lo + 1) hi := by
  unfold rngI
  rw [show (hi - lo).toNat = (hi - (lo + 1)).toNat + 1 by omega, List.range_succ_eq_map, List.map_cons, List.map_map]
  congr 1
  · simp
  · apply List.map_congr_left
    intro i _
    simp
    omega
theorem rngI_nil {lo hi : Int} (h : hi ≤ lo) : rngI lo hi = [] := by
  unfold rngI
  rw [show (hi - lo).toNat = 0 by omega]
  rfl
def optD : Option (List Int) → D
  | some q => T q
  | none => .non
theorem sum_filter {α : Type} (c : α → Bool) (f : α → Int) : ∀ l : List α, (∀ a ∈ l, c a = false → f a = 0) → ((l.filter c).map f).sum = (l.map f).sum
  | [], _ => rfl
  | a :: l, h => by
    have ih := sum_filter c f l fun a ha => h a (List.mem_cons_of_mem _ ha)
    cases q : c a with
    | true => rw [List.filter_cons_of_pos q, List.map_cons, List.map_cons, List.sum_cons, List.sum_cons, ih]
    | false => rw [List.filter_cons_of_neg (by simp [q]), ih, List.map_cons, List.sum_cons, h a (List.mem_cons_self ..) q, Int.zero_add]
theorem shw_B {l : List Int} {B : Nat} (h : PO.Bd B l) (hB : B < 2 ^ 250) : shw (T l) = true := by
  rw [T_def, shw_tup, shws_iff]
  intro x hx
  obtain ⟨i, hi, rfl⟩ := List.mem_map.mp hx
  rw [en_int, shw_int, decide_eq_true_eq]
  have := h.mem i hi
  by_cases q : i.natAbs = 0
  · rw [q]; decide
  · have : i.natAbs < 2 ^ 1920 := Nat.lt_of_le_of_lt this (Nat.lt_trans hB (by decide))
    exact (Nat.log2_lt q).mpr this
theorem cost_B (l : List Int) : cost (T l) ≤ l.length * 1923 + 3 := by
  rw [T_def, cost_tup]
  have := costs_le (m := 1921) (xs := l.map Enc.enc) fun x hx => by
    obtain ⟨i, hi, rfl⟩ := List.mem_map.mp hx
    exact cost_int_le i
  rw [List.length_map] at this
  omega
theorem shw_I {i : Int} (h : i.natAbs < 2 ^ 250) : shw (.int i) = true := by
  rw [shw_int, decide_eq_true_eq]
  by_cases q : i.natAbs = 0
  · rw [q]; decide
  · exact (Nat.log2_lt q).mpr (Nat.lt_trans h (by decide))
theorem cut_init {α : Type} (l : List α) (x : α) : cut (l ++ [x]) none (some (-1)) = l := by
  show ((l ++ [x]).drop 0).take (((if (-1 : Int) < 0 then (-1 + ((l ++ [x]).length : Int)).toNat else min (-1 : Int).toNat (l ++ [x]).length)) - 0) = l
  rw [if_pos (by decide), List.drop_zero, Nat.sub_zero, List.length_append, List.length_singleton, show (-1 + ((l.length + 1 : Nat) : Int)).toNat = l.length by omega, List.take_left' rfl]
end DL
namespace DL
open PySem PySem.Spec PyProof.Rows L2
open PO
open PO
def fs__law_of : FSp := fun ds Q _ => ∃ xs : List D, ds = [.src, .lst xs] ∧ xs ≠ [] ∧ xs.length ≤ 1000000 ∧ ∀ x ∈ xs, Q (.val x)
@[simp] theorem law_of_v {xs : List D} {Q : O → Prop} {E : EX} : fs__law_of [.src, .lst xs] Q E ↔ xs ≠ [] ∧ xs.length ≤ 1000000 ∧ ∀ x ∈ xs, Q (.val x) := by
  constructor
  · rintro ⟨a, e, h⟩
    simp only [List.cons.injEq, D.lst.injEq, true_and, and_true] at e
    rw [e]
    exact h
  · exact fun h => ⟨_, rfl, h⟩
@[simp] theorem law_of_L {α : Type} [Enc α] {l : List α} {Q : O → Prop} {E : EX} : fs__law_of [.src, L l] Q E ↔ l ≠ [] ∧ l.length ≤ 1000000 ∧ ∀ x ∈ l, Q (.val (Enc.enc x)) := by
  rw [L_def, law_of_v]
  simp
theorem len__law_of : ∀ ds Q E, fs__law_of ds Q E → ds.length = 2 := by rintro _ _ _ ⟨_, rfl, _⟩; rfl
def fs__law_trim : FSp := fsTrm
@[simp] theorem law_trim_T {l : List Int} {Q : O → Prop} {E : EX} : fs__law_trim [T l] Q E ↔ l.length ≤ 1000 ∧ Q (.val (T (PO.trm l))) := fsTrm_T
@[simp] theorem law_trim_L {l : List Int} {Q : O → Prop} {E : EX} : fs__law_trim [L l] Q E ↔ l.length ≤ 1000 ∧ Q (.val (T (PO.trm l))) := fsTrm_L
theorem len__law_trim : ∀ ds Q E, fs__law_trim ds Q E → ds.length = 1 := by rintro _ _ _ ⟨_, rfl | rfl, _⟩ <;> rfl
def fs__law_poly : FSp := fun ds Q _ => ∃ m : Int, ds = [.src, .int m] ∧ 0 ≤ m ∧ m ≤ 900 ∧ ∀ l : List Int, l.length ≤ m.toNat → PO.Tr l → PO.Bd 1000 l → Q (.val (T l))
@[simp] theorem law_poly_v {m : Int} {Q : O → Prop} {E : EX} : fs__law_poly [.src, .int m] Q E ↔ 0 ≤ m ∧ m ≤ 900 ∧ ∀ l : List Int, l.length ≤ m.toNat → PO.Tr l → PO.Bd 1000 l → Q (.val (T l)) := by
  constructor
  · rintro ⟨a, e, h⟩
    simp only [List.cons.injEq, D.int.injEq, true_and, and_true] at e
    rw [e]
    exact h
  · exact fun h => ⟨_, rfl, h⟩
theorem len__law_poly : ∀ ds Q E, fs__law_poly ds Q E → ds.length = 2 := by rintro _ _ _ ⟨_, rfl, _⟩; rfl
def fs__law_poly_times : FSp := fun ds Q _ => ∃ a b : List Int, (ds = [T a, T b] ∨ ds = [L a, T b]) ∧ a.length ≤ 400 ∧ b.length ≤ 400 ∧ PO.Bd 1000000000000 b ∧ Q (.val (T (PO.pml a b)))
@[simp] theorem law_poly_times_T {a b : List Int} {Q : O → Prop} {E : EX} : fs__law_poly_times [T a, T b] Q E ↔ a.length ≤ 400 ∧ b.length ≤ 400 ∧ PO.Bd 1000000000000 b ∧ Q (.val (T (PO.pml a b))) := by
  constructor
  · rintro ⟨a', b', e | e, h⟩
    · simp only [List.cons.injEq, T_inj, and_true] at e
      rw [e.1, e.2]
      exact h
    · simp only [List.cons.injEq, T_def, L_def, and_true] at e
      cases e.1
  · exact fun h => ⟨_, _, .inl rfl, h⟩
@[simp] theorem law_poly_times_L {a b : List Int} {Q : O → Prop} {E : EX} : fs__law_poly_times [L a, T b] Q E ↔ a.length ≤ 400 ∧ b.length ≤ 400 ∧ PO.Bd 1000000000000 b ∧ Q (.val (T (PO.pml a b))) := by
  constructor
  · rintro ⟨a', b', e | e, h⟩
    · simp only [List.cons.injEq, T_def, L_def, and_true] at e
      cases e.1
    · simp only [List.cons.injEq, T_inj, and_true] at e
      rw [Linj e.1, e.2]
      exact h
  · exact fun h => ⟨_, _, .inr rfl, h⟩
theorem len__law_poly_times : ∀ ds Q E, fs__law_poly_times ds Q E → ds.length = 2 := by rintro _ _ _ ⟨_, _, rfl | rfl, _⟩ <;> rfl
def fs_polynomial_worth : FSp := fun ds Q _ => ∃ (l : List Int) (u : Int), ds = [T l, .int u] ∧ l.length ≤ 1000 ∧ u.natAbs ≤ 1000000 ∧ Q (.val (.int (PO.ev l u)))
@[simp] theorem polynomial_worth_v {l : List Int} {u : Int} {Q : O → Prop} {E : EX} : fs_polynomial_worth [T l, .int u] Q E ↔ l.length ≤ 1000 ∧ u.natAbs ≤ 1000000 ∧ Q (.val (.int (PO.ev l u))) := by
  constructor
  · rintro ⟨a, b, e, h⟩
    simp only [List.cons.injEq, T_inj, D.int.injEq, and_true] at e
    rw [e.1, e.2]
    exact h
  · exact fun h => ⟨_, _, rfl, h⟩
theorem len_polynomial_worth : ∀ ds Q E, fs_polynomial_worth ds Q E → ds.length = 2 := by rintro _ _ _ ⟨_, _, rfl, _⟩; rfl
def fs_trimmed : FSp := fsTrm
@[simp] theorem trimmed_T {l : List Int} {Q : O → Prop} {E : EX} : fs_trimmed [T l] Q E ↔ l.length ≤ 1000 ∧ Q (.val (T (PO.trm l))) := fsTrm_T
@[simp] theorem trimmed_L {l : List Int} {Q : O → Prop} {E : EX} : fs_trimmed [L l] Q E ↔ l.length ≤ 1000 ∧ Q (.val (T (PO.trm l))) := fsTrm_L
theorem len_trimmed : ∀ ds Q E, fs_trimmed ds Q E → ds.length = 1 := by rintro _ _ _ ⟨_, rfl | rfl, _⟩ <;> rfl
def fs_polynomial_times : FSp := fun ds Q _ => ∃ a b : List Int, ds = [T a, T b] ∧ a.length ≤ 400 ∧ b.length ≤ 400 ∧ PO.Bd 1000000000000 b ∧ Q (.val (T (PO.pml a b)))
@[simp] theorem polynomial_times_v {a b : List Int} {Q : O → Prop} {E : EX} : fs_polynomial_times [T a, T b] Q E ↔ a.length ≤ 400 ∧ b.length ≤ 400 ∧ PO.Bd 1000000000000 b ∧ Q (.val (T (PO.pml a b))) := by
  constructor
  · rintro ⟨a', b', e, h⟩
    simp only [List.cons.injEq, T_inj, and_true] at e
    rw [e.1, e.2]
    exact h
  · exact fun h => ⟨_, _, rfl, h⟩
theorem len_polynomial_times : ∀ ds Q E, fs_polynomial_times ds Q E → ds.length = 2 := by rintro _ _ _ ⟨_, _, rfl, _⟩; rfl
def fs__law_worth : FSp := fun ds Q _ => ∃ (l : List Int) (u : Int), ds = [T l, .int u] ∧ l.length ≤ 1000 ∧ u.natAbs ≤ 1000000 ∧ Q (.val (.int (PO.ev l u)))
@[simp] theorem law_worth_v {l : List Int} {u : Int} {Q : O → Prop} {E : EX} : fs__law_worth [T l, .int u] Q E ↔ l.length ≤ 1000 ∧ u.natAbs ≤ 1000000 ∧ Q (.val (.int (PO.ev l u))) := by
  constructor
  · rintro ⟨a, b, e, h⟩
    simp only [List.cons.injEq, T_inj, D.int.injEq, and_true] at e
    rw [e.1, e.2]
    exact h
  · exact fun h => ⟨_, _, rfl, h⟩
theorem len__law_worth : ∀ ds Q E, fs__law_worth ds Q E → ds.length = 2 := by rintro _ _ _ ⟨_, _, rfl, _⟩; rfl
def fs_polynomial_slope : FSp := fun ds Q _ => ∃ l : List Int, ds = [T l] ∧ l.length ≤ 900 ∧ Q (.val (T (PO.trm (((enumI 0 l).map fun p => p.1 * p.2).drop 1))))
theorem slope_eq (l : List Int) : ((enumI 0 l).map fun p => p.1 * p.2).drop 1 = (rngI 1 l.length).map fun k => k * PO.cf l k.toNat := by
  have h : ∀ (l : List Int) (i : Nat) (f : Int → Int), (∀ j, j < l.length → f (i + j) = PO.cf l j) → (enumI i l).map (fun p => p.1 * p.2) = (rngI i (i + l.length)).map fun k => k * f k := by
    intro l
    induction l with
    | nil => intro i f _; rw [rngI_nil (by simp)]; rfl
    | cons a l ih =>
      intro i f hf
      have := hf 0 (by simp)
      rw [Int.natCast_zero, Int.add_zero, PO.cf_cons_zero] at this
      rw [rngI_cons (by simp; omega), enumI, List.map_cons, List.map_cons, this]
      congr 1
      have e := ih (i + 1) f fun j hj => by
        have := hf (j + 1) (by simp; omega)
        rw [PO.cf_cons_succ] at this
        rw [← this]
        congr 1
        omega
      have r : rngI ((i : Int) + 1) (i + ((a :: l).length : Nat)) = rngI ((i + 1 : Nat) : Int) ((i + 1 : Nat) + (l.length : Int)) := by
        congr 1
        simp
        omega
      rw [r]
      exact e
  cases l with
  | nil => rfl
  | cons a l =>
    rw [enumI, List.map_cons, List.drop_succ_cons, List.drop_zero]
    have := h l 1 (fun k => PO.cf (a :: l) k.toNat) fun j hj => by
      show PO.cf (a :: l) (((1 : Nat) : Int) + j).toNat = _
      rw [show (((1 : Nat) : Int) + j).toNat = j + 1 by omega, PO.cf_cons_succ]
    rw [show ((1 : Nat) : Int) + (l.length : Int) = ((a :: l).length : Nat) by simp; omega] at this
    exact this
def slp (l : List Int) : List Int := PO.trm ((rngI 1 l.length).map fun k => k * PO.cf l k.toNat)
@[simp] theorem polynomial_slope_v {l : List Int} {Q : O → Prop} {E : EX} : fs_polynomial_slope [T l] Q E ↔ l.length ≤ 900 ∧ Q (.val (T (slp l))) := by
  unfold slp
  rw [← slope_eq]
  constructor
  · rintro ⟨a, e, h⟩
    simp only [List.cons.injEq, T_inj, and_true] at e
    rw [e]
    exact h
  · exact fun h => ⟨_, rfl, h⟩
theorem len_polynomial_slope : ∀ ds Q E, fs_polynomial_slope ds Q E → ds.length = 1 := by rintro _ _ _ ⟨_, rfl, _⟩; rfl
def fs_polynomial_divided : FSp := fun ds Q E => ∃ a b : List Int, ds = [T a, T b] ∧ a.length ≤ 400 ∧ b.length ≤ 400 ∧ b ≠ [] ∧ PO.Tr a ∧ PO.Bd 1000000000000 b ∧ match PO.dv a b with | some q => Q (.val (T q)) | none => E ⟨"NotOfIt", []⟩
@[simp] theorem polynomial_divided_v {a b : List Int} {Q : O → Prop} {E : EX} : fs_polynomial_divided [T a, T b] Q E ↔ a.length ≤ 400 ∧ b.length ≤ 400 ∧ b ≠ [] ∧ PO.Tr a ∧ PO.Bd 1000000000000 b ∧ match PO.dv a b with | some q => Q (.val (T q)) | none => E ⟨"NotOfIt", []⟩ := by
  constructor
  · rintro ⟨a', b', e, h⟩
    simp only [List.cons.injEq, T_inj, and_true] at e
    rw [e.1, e.2]
    exact h
  · exact fun h => ⟨_, _, rfl, h⟩
theorem len_polynomial_divided : ∀ ds Q E, fs_polynomial_divided ds Q E → ds.length = 2 := by rintro _ _ _ ⟨_, _, rfl, _⟩; rfl
def fs__law_told : FSp := fun ds Q E => ∃ a b : List Int, ds = [T a, T b] ∧ a.length ≤ 400 ∧ b.length ≤ 400 ∧ b ≠ [] ∧ PO.Tr a ∧ PO.Bd 1000000000000 b ∧ Q (.val (optD (PO.dv a b)))
@[simp] theorem law_told_v {a b : List Int} {Q : O → Prop} {E : EX} : fs__law_told [T a, T b] Q E ↔ a.length ≤ 400 ∧ b.length ≤ 400 ∧ b ≠ [] ∧ PO.Tr a ∧ PO.Bd 1000000000000 b ∧ Q (.val (optD (PO.dv a b))) := by
  constructor
  · rintro ⟨a', b', e, h⟩
    simp only [List.cons.injEq, T_inj, and_true] at e
    rw [e.1, e.2]
    exact h
  · exact fun h => ⟨_, _, rfl, h⟩
theorem len__law_told : ∀ ds Q E, fs__law_told ds Q E → ds.length = 2 := by rintro _ _ _ ⟨_, _, rfl, _⟩; rfl
def fs__law_quotient : FSp := fun ds Q E => ∃ a b : List Int, ds = [T a, T b] ∧ a.length ≤ 390 ∧ b.length ≤ 390 ∧ b ≠ [] ∧ PO.Tr a ∧ PO.Bd 1000000000000 b ∧ Q (.val (optD (PO.dv a b)))
@[simp] theorem law_quotient_v {a b : List Int} {Q : O → Prop} {E : EX} : fs__law_quotient [T a, T b] Q E ↔ a.length ≤ 390 ∧ b.length ≤ 390 ∧ b ≠ [] ∧ PO.Tr a ∧ PO.Bd 1000000000000 b ∧ Q (.val (optD (PO.dv a b))) := by
  constructor
  · rintro ⟨a', b', e, h⟩
    simp only [List.cons.injEq, T_inj, and_true] at e
    rw [e.1, e.2]
    exact h
  · exact fun h => ⟨_, _, rfl, h⟩
theorem len__law_quotient : ∀ ds Q E, fs__law_quotient ds Q E → ds.length = 2 := by rintro _ _ _ ⟨_, _, rfl, _⟩; rfl
def wos (p : List Int) (n : Nat) : List Int := (List.range n).map fun i : Nat => PO.ev p (i : Int)
def fs_polynomial_by_worths : FSp := fun ds Q _ => ∃ (p : List Int) (n : Nat), ds = [T (wos p n)] ∧ p.length ≤ n ∧ n ≤ 400 ∧ PO.Tr p ∧ Q (.val (T p))
theorem by_worths_of {p : List Int} {n : Nat} {Q : O → Prop} {E : EX} (h1 : p.length ≤ n) (h2 : n ≤ 400) (h3 : PO.Tr p) (h : Q (.val (T p))) : fs_polynomial_by_worths [T (wos p n)] Q E := ⟨p, n, rfl, h1, h2, h3, h⟩
theorem len_polynomial_by_worths : ∀ ds Q E, fs_polynomial_by_worths ds Q E → ds.length = 1 := by rintro _ _ _ ⟨_, _, rfl, _⟩; rfl
def fs_law : FSp := fun ds Q _ => ∃ ns : List Int, ds = [.scr ns] ∧ ns.length ≤ 63 ∧ Q (.val (.bl true))
theorem len_law : ∀ ds Q E, fs_law ds Q E → ds.length = 1 := by rintro _ _ _ ⟨_, rfl, _⟩; rfl
def tb_NotOfIt : List (Str × Bool) := [("NotOfIt", true)]
/-- _law_of(source, some); slots: 0 source, 1 some -/
def w__law_of : WS := sRet (eBin ixD (eVar 1) (eCall fs__law_pick (aCons (eVar 0) (aCons (eB lenD (aCons (eVar 1) (aNil))) (aNil)))))
def N__law_of : List Str := ["source", "some"]
/-- _law_trim(numbers); slots: 0 numbers, 1 found -/
def b0__law_trim : WS := sSet 1 (eSl (eVar 1) (oNo) (oSo (eUn negD (eC (.int 1)))))
theorem b0__law_trim_v {env : SEnv} {De : DEnds} {Ee : SEX} : b0__law_trim env De Ee = (sSet 1 (eSl (eVar 1) (oNo) (oSo (eUn negD (eC (.int 1)))))) env De Ee := rfl
def w__law_trim : WS := sSeq (sSet 1 (eB listD (aCons (eVar 0) (aNil))))
  (sSeq (sWhile (wAnd (tBl (eBin neD (eVar 1) (eLst (aNil)))) (tBl (eBin eqD (eBin ixD (eVar 1) (eUn negD (eC (.int 1)))) (eC (.int 0))))) (b0__law_trim))
  (sRet (eB tupleD (aCons (eVar 1) (aNil)))))
def N__law_trim : List Str := ["numbers", "found"]
/-- _law_poly(source, most); slots: 0 source, 1 most, 2 far, 3 found, 4 k -/
def b0__law_poly : WS := sApp 3 (eBin mulA (eBin subD (eCall fs__law_pick (aCons (eVar 0) (aCons (eBin addD (eBin mulA (eC (.int 2)) (eVar 2)) (eC (.int 1))) (aNil)))) (eVar 2)) (eCall fs__law_pick (aCons (eVar 0) (aCons (eC (.int 2)) (aNil)))))
theorem b0__law_poly_v {env : SEnv} {De : DEnds} {Ee : SEX} : b0__law_poly env De Ee = (sApp 3 (eBin mulA (eBin subD (eCall fs__law_pick (aCons (eVar 0) (aCons (eBin addD (eBin mulA (eC (.int 2)) (eVar 2)) (eC (.int 1))) (aNil)))) (eVar 2)) (eCall fs__law_pick (aCons (eVar 0) (aCons (eC (.int 2)) (aNil)))))) env De Ee := rfl
def w__law_poly : WS := sSeq (sPar [2, 3] (aCons (eCall fs__law_of (aCons (eVar 0) (aCons (eLst (aCons (eC (.int 1)) (aCons (eC (.int 3)) (aCons (eC (.int 1000)) (aNil))))) (aNil)))) (aCons (eLst (aNil)) (aNil))))
  (sSeq (sForR (iRg rg1D (aCons (eCall fs__law_pick (aCons (eVar 0) (aCons (eBin addD (eVar 1) (eC (.int 1))) (aNil)))) (aNil))) (.nm 4) (b0__law_poly))
  (sRet (eCall fs__law_trim (aCons (eVar 3) (aNil)))))
def N__law_poly : List Str := ["source", "most", "far", "found", "k"]
/-- _law_poly_times(one, other); slots: 0 one, 1 other, 2 found, 3 i, 4 a, 5 j, 6 b -/
def b0__law_poly_times : WS := sIx 2 (eBin addD (eVar 3) (eVar 5)) (eBin addD (eBin ixD (eVar 2) (eBin addD (eVar 3) (eVar 5))) (eBin mulA (eVar 4) (eVar 6)))
theorem b0__law_poly_times_v {env : SEnv} {De : DEnds} {Ee : SEX} : b0__law_poly_times env De Ee = (sIx 2 (eBin addD (eVar 3) (eVar 5)) (eBin addD (eBin ixD (eVar 2) (eBin addD (eVar 3) (eVar 5))) (eBin mulA (eVar 4) (eVar 6)))) env De Ee := rfl
def b1__law_poly_times : WS := sFor (iEnD (eVar 1)) (.tp [(.nm 5), (.nm 6)]) (b0__law_poly_times)
theorem b1__law_poly_times_v {env : SEnv} {De : DEnds} {Ee : SEX} : b1__law_poly_times env De Ee = (sFor (iEnD (eVar 1)) (.tp [(.nm 5), (.nm 6)]) (b0__law_poly_times)) env De Ee := rfl
def w__law_poly_times : WS := sSeq (sSet 2 (eBin mulA (eLst (aCons (eC (.int 0)) (aNil))) (eBin addD (eB lenD (aCons (eVar 0) (aNil))) (eB lenD (aCons (eVar 1) (aNil))))))
  (sSeq (sFor (iEnD (eVar 0)) (.tp [(.nm 3), (.nm 4)]) (b1__law_poly_times))
  (sRet (eCall fs__law_trim (aCons (eVar 2) (aNil)))))
def N__law_poly_times : List Str := ["one", "other", "found", "i", "a", "j", "b"]
/-- polynomial_worth(poly, u); slots: 0 poly, 1 u, 2 found, 3 number -/
def b0_polynomial_worth : WS := sSet 2 (eBin addD (eBin mulA (eVar 2) (eVar 1)) (eVar 3))
theorem b0_polynomial_worth_v {env : SEnv} {De : DEnds} {Ee : SEX} : b0_polynomial_worth env De Ee = (sSet 2 (eBin addD (eBin mulA (eVar 2) (eVar 1)) (eVar 3))) env De Ee := rfl
def w_polynomial_worth : WS := sSeq (sSet 2 (eC (.int 0)))
  (sSeq (sFor (iRevD (eVar 0)) (.nm 3) (b0_polynomial_worth))
  (sRet (eVar 2)))
def N_polynomial_worth : List Str := ["poly", "u", "found", "number"]
/-- trimmed(numbers); slots: 0 numbers, 1 many -/
def b0_trimmed : WS := sAug 1 (fI fun i j => .int (i - j)) (eC (.int 1))
theorem b0_trimmed_v {env : SEnv} {De : DEnds} {Ee : SEX} : b0_trimmed env De Ee = (sAug 1 (fI fun i j => .int (i - j)) (eC (.int 1))) env De Ee := rfl
def w_trimmed : WS := sSeq (sSet 1 (eB lenD (aCons (eVar 0) (aNil))))
  (sSeq (sWhile (wAnd (tBl (eBin gtD (eVar 1) (eC (.int 0)))) (tBl (eBin eqD (eBin ixD (eVar 0) (eBin subD (eVar 1) (eC (.int 1)))) (eC (.int 0))))) (b0_trimmed))
  (sRet (eB tupleD (aCons (eSl (eVar 0) (oNo) (oSo (eVar 1))) (aNil)))))
def N_trimmed : List Str := ["numbers", "many"]
/-- polynomial_times(one, other); slots: 0 one, 1 other, 2 found, 3 i, 4 a, 5 j, 6 b -/
def b0_polynomial_times : WS := sAugIx 2 (fI fun i j => .int (i + j)) (eBin addD (eVar 3) (eVar 5)) (eBin mulA (eVar 4) (eVar 6))
theorem b0_polynomial_times_v {env : SEnv} {De : DEnds} {Ee : SEX} : b0_polynomial_times env De Ee = (sAugIx 2 (fI fun i j => .int (i + j)) (eBin addD (eVar 3) (eVar 5)) (eBin mulA (eVar 4) (eVar 6))) env De Ee := rfl
def b1_polynomial_times : WS := sFor (iEnD (eVar 1)) (.tp [(.nm 5), (.nm 6)]) (b0_polynomial_times)
theorem b1_polynomial_times_v {env : SEnv} {De : DEnds} {Ee : SEX} : b1_polynomial_times env De Ee = (sFor (iEnD (eVar 1)) (.tp [(.nm 5), (.nm 6)]) (b0_polynomial_times)) env De Ee := rfl
def w_polynomial_times : WS := sSeq (sSet 2 (eBin mulA (eLst (aCons (eC (.int 0)) (aNil))) (eB max2D (aCons (eC (.int 0)) (aCons (eBin subD (eBin addD (eB lenD (aCons (eVar 0) (aNil))) (eB lenD (aCons (eVar 1) (aNil)))) (eC (.int 1))) (aNil))))))
  (sSeq (sFor (iEnD (eVar 0)) (.tp [(.nm 3), (.nm 4)]) (b1_polynomial_times))
  (sRet (eCall fs_trimmed (aCons (eVar 2) (aNil)))))
def N_polynomial_times : List Str := ["one", "other", "found", "i", "a", "j", "b"]
/-- _law_worth(poly, u); slots: 0 poly, 1 u, 2 found, 3 number -/
def b0__law_worth : WS := sSet 2 (eBin addD (eBin mulA (eVar 2) (eVar 1)) (eVar 3))
theorem b0__law_worth_v {env : SEnv} {De : DEnds} {Ee : SEX} : b0__law_worth env De Ee = (sSet 2 (eBin addD (eBin mulA (eVar 2) (eVar 1)) (eVar 3))) env De Ee := rfl
def w__law_worth : WS := sSeq (sSet 2 (eC (.int 0)))
  (sSeq (sFor (iSeq (eUn revD (eVar 0))) (.nm 3) (b0__law_worth))
  (sRet (eVar 2)))
def N__law_worth : List Str := ["poly", "u", "found", "number"]
/-- polynomial_slope(poly); slots: 0 poly, 1 k, 2 number -/
def w_polynomial_slope : WS := sRet (eCall fs_trimmed (aCons (eSl (eLc (iEnD (eVar 0)) (.tp [(.nm 1), (.nm 2)]) (wYes) (eBin mulA (eVar 1) (eVar 2)) [1, 2]) (oSo (eC (.int 1))) (oNo)) (aNil)))
def N_polynomial_slope : List Str := ["poly", "k", "number"]
/-- polynomial_divided(one, other); slots: 0 one, 1 other, 2 left, 3 found, 4 k, 5 number, 6 j, 7 b -/
def b0_polynomial_divided : WS := sAugIx 2 (fI fun i j => .int (i - j)) (eBin addD (eVar 4) (eVar 6)) (eBin mulA (eVar 5) (eVar 7))
theorem b0_polynomial_divided_v {env : SEnv} {De : DEnds} {Ee : SEX} : b0_polynomial_divided env De Ee = (sAugIx 2 (fI fun i j => .int (i - j)) (eBin addD (eVar 4) (eVar 6)) (eBin mulA (eVar 5) (eVar 7))) env De Ee := rfl
def b1_polynomial_divided : WS := sSeq (sSet 5 (eBin mulA (eBin ixD (eVar 2) (eVar 4)) (eBin ixD (eVar 1) (eC (.int 0)))))
  (sSeq (sApp 3 (eVar 5))
  (sFor (iEnD (eVar 1)) (.tp [(.nm 6), (.nm 7)]) (b0_polynomial_divided)))
theorem b1_polynomial_divided_v {env : SEnv} {De : DEnds} {Ee : SEX} : b1_polynomial_divided env De Ee = (sSeq (sSet 5 (eBin mulA (eBin ixD (eVar 2) (eVar 4)) (eBin ixD (eVar 1) (eC (.int 0)))))
  (sSeq (sApp 3 (eVar 5))
  (sFor (iEnD (eVar 1)) (.tp [(.nm 6), (.nm 7)]) (b0_polynomial_divided)))) env De Ee := rfl
def w_polynomial_divided : WS := sSeq (sPar [2, 3] (aCons (eB listD (aCons (eVar 0) (aNil))) (aCons (eLst (aNil)) (aNil))))
  (sSeq (sForR (iRg rg1D (aCons (eBin addD (eBin subD (eB lenD (aCons (eVar 0) (aNil))) (eB lenD (aCons (eVar 1) (aNil)))) (eC (.int 1))) (aNil))) (.nm 4) (b1_polynomial_divided))
  (sSeq (sIf (tBl (eBin neD (eLc (iSeq (eVar 2)) (.nm 5) (tBl (eBin neD (eVar 5) (eC (.int 0)))) (eVar 5) [5]) (eLst (aNil)))) (sRaise "NotOfIt") (sNil))
  (sRet (eCall fs_trimmed (aCons (eVar 3) (aNil))))))
def N_polynomial_divided : List Str := ["one", "other", "left", "found", "k", "number", "j", "b"]
/-- _law_told(one, other); slots: 0 one, 1 other -/
def w__law_told : WS := sTry tb_NotOfIt (sRet (eCall fs_polynomial_divided (aCons (eVar 0) (aCons (eVar 1) (aNil))))) (sRet (eC .non))
def N__law_told : List Str := ["one", "other"]
/-- _law_quotient(one, other); slots: 0 one, 1 other, 2 found, 3 k, 4 less, 5 j -/
def b0__law_quotient : WS := sSeq (sSet 4 (eB sumD (aCons (eLc (iRg rg1D (aCons (eVar 3) (aNil))) (.nm 5) (tBl (eBin ltD (eBin subD (eVar 3) (eVar 5)) (eB lenD (aCons (eVar 1) (aNil))))) (eBin mulA (eBin ixD (eVar 2) (eVar 5)) (eBin ixD (eVar 1) (eBin subD (eVar 3) (eVar 5)))) [5]) (aNil))))
  (sApp 2 (eBin mulA (eBin subD (eBin ixD (eVar 0) (eVar 3)) (eVar 4)) (eBin ixD (eVar 1) (eC (.int 0)))))
theorem b0__law_quotient_v {env : SEnv} {De : DEnds} {Ee : SEX} : b0__law_quotient env De Ee = (sSeq (sSet 4 (eB sumD (aCons (eLc (iRg rg1D (aCons (eVar 3) (aNil))) (.nm 5) (tBl (eBin ltD (eBin subD (eVar 3) (eVar 5)) (eB lenD (aCons (eVar 1) (aNil))))) (eBin mulA (eBin ixD (eVar 2) (eVar 5)) (eBin ixD (eVar 1) (eBin subD (eVar 3) (eVar 5)))) [5]) (aNil))))
  (sApp 2 (eBin mulA (eBin subD (eBin ixD (eVar 0) (eVar 3)) (eVar 4)) (eBin ixD (eVar 1) (eC (.int 0)))))) env De Ee := rfl
def w__law_quotient : WS := sSeq (sSet 2 (eLst (aNil)))
  (sSeq (sForR (iRg rg1D (aCons (eB max2D (aCons (eC (.int 0)) (aCons (eBin addD (eBin subD (eB lenD (aCons (eVar 0) (aNil))) (eB lenD (aCons (eVar 1) (aNil)))) (eC (.int 1))) (aNil)))) (aNil))) (.nm 3) (b0__law_quotient))
  (sRet (eIf (tBl (eBin eqD (eCall fs__law_poly_times (aCons (eVar 2) (aCons (eVar 1) (aNil)))) (eB tupleD (aCons (eVar 0) (aNil))))) (eCall fs__law_trim (aCons (eVar 2) (aNil))) (eC .non))))
def N__law_quotient : List Str := ["one", "other", "found", "k", "less", "j"]
/-- polynomial_by_worths(worths); slots: 0 worths, 1 line, 2 heads, 3 k, 4 found, 5 late, 6 j, 7 number, 8 a, 9 b -/
def b0_polynomial_by_worths : WS := sSeq (sApp 2 (eBin ixD (eVar 1) (eC (.int 0))))
  (sSet 1 (eLc (iZs (eSl (eVar 1) (oNo) (oSo (eUn negD (eC (.int 1))))) (eSl (eVar 1) (oSo (eC (.int 1))) (oNo))) (.tp [(.nm 8), (.nm 9)]) (wYes) (eBin fdivWD (eBin subD (eVar 9) (eVar 8)) (eBin addD (eVar 3) (eC (.int 1)))) [8, 9]))
theorem b0_polynomial_by_worths_v {env : SEnv} {De : DEnds} {Ee : SEX} : b0_polynomial_by_worths env De Ee = (sSeq (sApp 2 (eBin ixD (eVar 1) (eC (.int 0))))
  (sSet 1 (eLc (iZs (eSl (eVar 1) (oNo) (oSo (eUn negD (eC (.int 1))))) (eSl (eVar 1) (oSo (eC (.int 1))) (oNo))) (.tp [(.nm 8), (.nm 9)]) (wYes) (eBin fdivWD (eBin subD (eVar 9) (eVar 8)) (eBin addD (eVar 3) (eC (.int 1)))) [8, 9]))) env De Ee := rfl
def b1_polynomial_by_worths : WS := sAugIx 5 (fI fun i j => .int (i - j)) (eVar 6) (eBin mulA (eVar 3) (eVar 7))
theorem b1_polynomial_by_worths_v {env : SEnv} {De : DEnds} {Ee : SEX} : b1_polynomial_by_worths env De Ee = (sAugIx 5 (fI fun i j => .int (i - j)) (eVar 6) (eBin mulA (eVar 3) (eVar 7))) env De Ee := rfl
def b2_polynomial_by_worths : WS := sSeq (sSet 5 (eLst (aCons (eC (.int 0)) (aStar (eVar 4) (aNil)))))
  (sSeq (sFor (iEnD (eVar 4)) (.tp [(.nm 6), (.nm 7)]) (b1_polynomial_by_worths))
  (sSeq (sAugIx 5 (fI fun i j => .int (i + j)) (eC (.int 0)) (eBin ixD (eVar 2) (eVar 3)))
  (sSet 4 (eB tupleD (aCons (eVar 5) (aNil))))))
theorem b2_polynomial_by_worths_v {env : SEnv} {De : DEnds} {Ee : SEX} : b2_polynomial_by_worths env De Ee = (sSeq (sSet 5 (eLst (aCons (eC (.int 0)) (aStar (eVar 4) (aNil)))))
  (sSeq (sFor (iEnD (eVar 4)) (.tp [(.nm 6), (.nm 7)]) (b1_polynomial_by_worths))
  (sSeq (sAugIx 5 (fI fun i j => .int (i + j)) (eC (.int 0)) (eBin ixD (eVar 2) (eVar 3)))
  (sSet 4 (eB tupleD (aCons (eVar 5) (aNil))))))) env De Ee := rfl
def w_polynomial_by_worths : WS := sSeq (sPar [1, 2] (aCons (eB listD (aCons (eVar 0) (aNil))) (aCons (eLst (aNil)) (aNil))))
  (sSeq (sForR (iRg rg1D (aCons (eB lenD (aCons (eVar 0) (aNil))) (aNil))) (.nm 3) (b0_polynomial_by_worths))
  (sSeq (sSet 4 (eTup (aNil)))
  (sSeq (sForR (iRg rg3D (aCons (eBin subD (eB lenD (aCons (eVar 2) (aNil))) (eC (.int 1))) (aCons (eUn negD (eC (.int 1))) (aCons (eUn negD (eC (.int 1))) (aNil))))) (.nm 3) (b2_polynomial_by_worths))
  (sRet (eCall fs_trimmed (aCons (eVar 4) (aNil)))))))
def N_polynomial_by_worths : List Str := ["worths", "line", "heads", "k", "found", "late", "j", "number", "a", "b"]
/-- law(script); slots: 0 script, 1 source, 2 lap, 3 one, 4 other, 5 by, 6 kept, 7 u, 8 product, 9 whole, 10 more, 11 late, 12 k, 13 number, 14 some, 15 worths -/
def b0_law : WS := sIx 11 (eVar 12) (eBin addD (eBin ixD (eVar 11) (eVar 12)) (eVar 13))
theorem b0_law_v {env : SEnv} {De : DEnds} {Ee : SEX} : b0_law env De Ee = (sIx 11 (eVar 12) (eBin addD (eBin ixD (eVar 11) (eVar 12)) (eVar 13))) env De Ee := rfl
def b1_law : WS := sIx 11 (eVar 12) (eBin addD (eBin ixD (eVar 11) (eVar 12)) (eVar 13))
theorem b1_law_v {env : SEnv} {De : DEnds} {Ee : SEX} : b1_law env De Ee = (sIx 11 (eVar 12) (eBin addD (eBin ixD (eVar 11) (eVar 12)) (eVar 13))) env De Ee := rfl
def b2_law : WS := sIf (tBl (eBin neD (eB reprD (aCons (eCall fs__law_told (aCons (eVar 14) (aCons (eVar 5) (aNil)))) (aNil))) (eB reprD (aCons (eCall fs__law_quotient (aCons (eVar 14) (aCons (eVar 5) (aNil)))) (aNil))))) (sRet (eC (.bl false))) (sNil)
theorem b2_law_v {env : SEnv} {De : DEnds} {Ee : SEX} : b2_law env De Ee = (sIf (tBl (eBin neD (eB reprD (aCons (eCall fs__law_told (aCons (eVar 14) (aCons (eVar 5) (aNil)))) (aNil))) (eB reprD (aCons (eCall fs__law_quotient (aCons (eVar 14) (aCons (eVar 5) (aNil)))) (aNil))))) (sRet (eC (.bl false))) (sNil)) env De Ee := rfl
def b3_law : WS := sSeq (sPar [3, 4] (aCons (eCall fs__law_poly (aCons (eVar 1) (aCons (eC (.int 8)) (aNil)))) (aCons (eCall fs__law_poly (aCons (eVar 1) (aCons (eC (.int 6)) (aNil)))) (aNil))))
  (sSeq (sSet 5 (eBin addD (eTup (aCons (eCall fs__law_of (aCons (eVar 1) (aCons (eLst (aCons (eC (.int 1)) (aCons (eUn negD (eC (.int 1))) (aNil)))) (aNil)))) (aNil))) (eSl (eVar 4) (oSo (eC (.int 1))) (oNo))))
  (sSeq (sPar [5, 6, 7] (aCons (eCall fs__law_trim (aCons (eVar 5) (aNil))) (aCons (eB reprD (aCons (eLst (aCons (eVar 3) (aCons (eVar 4) (aNil)))) (aNil))) (aCons (eBin subD (eCall fs__law_pick (aCons (eVar 1) (aCons (eC (.int 41)) (aNil)))) (eC (.int 20))) (aNil)))))
  (sSeq (sSet 8 (eCall fs__law_poly_times (aCons (eVar 3) (aCons (eVar 4) (aNil)))))
  (sSeq (sIf (tBl (eBin neD (eB reprD (aCons (eLst (aCons (eCall fs_polynomial_times (aCons (eVar 3) (aCons (eVar 4) (aNil)))) (aCons (eCall fs_polynomial_worth (aCons (eVar 3) (aCons (eVar 7) (aNil)))) (aNil)))) (aNil))) (eB reprD (aCons (eLst (aCons (eVar 8) (aCons (eCall fs__law_worth (aCons (eVar 3) (aCons (eVar 7) (aNil)))) (aNil)))) (aNil))))) (sRet (eC (.bl false))) (sNil))
  (sSeq (sIf (tBl (eBin neD (eB reprD (aCons (eCall fs_polynomial_slope (aCons (eVar 3) (aNil))) (aNil))) (eB reprD (aCons (eCall fs__law_trim (aCons (eLc (iRg rg2D (aCons (eC (.int 1)) (aCons (eB lenD (aCons (eVar 3) (aNil))) (aNil)))) (.nm 12) (wYes) (eBin mulA (eVar 12) (eBin ixD (eVar 3) (eVar 12))) [12]) (aNil))) (aNil))))) (sRet (eC (.bl false))) (sNil))
  (sSeq (sSet 9 (eCall fs__law_poly_times (aCons (eVar 3) (aCons (eVar 5) (aNil)))))
  (sSeq (sIf (tBl (eBin neD (eB reprD (aCons (eCall fs_polynomial_divided (aCons (eVar 9) (aCons (eVar 5) (aNil)))) (aNil))) (eB reprD (aCons (eVar 3) (aNil))))) (sRet (eC (.bl false))) (sNil))
  (sSeq (sSet 10 (eBin ixD (eLst (aCons (eTup (aCons (eC (.int 1)) (aNil))) (aCons (eTup (aCons (eC (.int 0)) (aCons (eC (.int 1)) (aNil)))) (aCons (eTup (aCons (eC (.int 0)) (aCons (eC (.int 0)) (aCons (eC (.int 2)) (aNil))))) (aCons (eTup (aCons (eUn negD (eC (.int 1))) (aNil))) (aNil)))))) (eCall fs__law_pick (aCons (eVar 1) (aCons (eC (.int 4)) (aNil))))))
  (sSeq (sSet 11 (eBin mulA (eLst (aCons (eC (.int 0)) (aNil))) (eB max2D (aCons (eB lenD (aCons (eVar 9) (aNil))) (aCons (eB lenD (aCons (eVar 10) (aNil))) (aNil))))))
  (sSeq (sFor (iEnD (eVar 9)) (.tp [(.nm 12), (.nm 13)]) (b0_law))
  (sSeq (sFor (iEnD (eVar 10)) (.tp [(.nm 12), (.nm 13)]) (b1_law))
  (sSeq (sSet 11 (eCall fs__law_trim (aCons (eVar 11) (aNil))))
  (sSeq (sFor (iSeq (eTup (aCons (eVar 11) (aCons (eVar 3) (aCons (eVar 8) (aNil)))))) (.nm 14) (b2_law))
  (sSeq (sSet 15 (eB tupleD (aCons (eLc (iRg rg1D (aCons (eBin addD (eB lenD (aCons (eVar 3) (aNil))) (eCall fs__law_pick (aCons (eVar 1) (aCons (eC (.int 3)) (aNil))))) (aNil))) (.nm 12) (wYes) (eCall fs__law_worth (aCons (eVar 3) (aCons (eVar 12) (aNil)))) [12]) (aNil))))
  (sIf (wOr (tBl (eBin neD (eB reprD (aCons (eCall fs_polynomial_by_worths (aCons (eVar 15) (aNil))) (aNil))) (eB reprD (aCons (eVar 3) (aNil))))) (tBl (eBin neD (eB reprD (aCons (eLst (aCons (eVar 3) (aCons (eVar 4) (aNil)))) (aNil))) (eVar 6)))) (sRet (eC (.bl false))) (sNil))))))))))))))))
theorem b3_law_v {env : SEnv} {De : DEnds} {Ee : SEX} : b3_law env De Ee = (sSeq (sPar [3, 4] (aCons (eCall fs__law_poly (aCons (eVar 1) (aCons (eC (.int 8)) (aNil)))) (aCons (eCall fs__law_poly (aCons (eVar 1) (aCons (eC (.int 6)) (aNil)))) (aNil))))
  (sSeq (sSet 5 (eBin addD (eTup (aCons (eCall fs__law_of (aCons (eVar 1) (aCons (eLst (aCons (eC (.int 1)) (aCons (eUn negD (eC (.int 1))) (aNil)))) (aNil)))) (aNil))) (eSl (eVar 4) (oSo (eC (.int 1))) (oNo))))
  (sSeq (sPar [5, 6, 7] (aCons (eCall fs__law_trim (aCons (eVar 5) (aNil))) (aCons (eB reprD (aCons (eLst (aCons (eVar 3) (aCons (eVar 4) (aNil)))) (aNil))) (aCons (eBin subD (eCall fs__law_pick (aCons (eVar 1) (aCons (eC (.int 41)) (aNil)))) (eC (.int 20))) (aNil)))))
  (sSeq (sSet 8 (eCall fs__law_poly_times (aCons (eVar 3) (aCons (eVar 4) (aNil)))))
  (sSeq (sIf (tBl (eBin neD (eB reprD (aCons (eLst (aCons (eCall fs_polynomial_times (aCons (eVar 3) (aCons (eVar 4) (aNil)))) (aCons (eCall fs_polynomial_worth (aCons (eVar 3) (aCons (eVar 7) (aNil)))) (aNil)))) (aNil))) (eB reprD (aCons (eLst (aCons (eVar 8) (aCons (eCall fs__law_worth (aCons (eVar 3) (aCons (eVar 7) (aNil)))) (aNil)))) (aNil))))) (sRet (eC (.bl false))) (sNil))
  (sSeq (sIf (tBl (eBin neD (eB reprD (aCons (eCall fs_polynomial_slope (aCons (eVar 3) (aNil))) (aNil))) (eB reprD (aCons (eCall fs__law_trim (aCons (eLc (iRg rg2D (aCons (eC (.int 1)) (aCons (eB lenD (aCons (eVar 3) (aNil))) (aNil)))) (.nm 12) (wYes) (eBin mulA (eVar 12) (eBin ixD (eVar 3) (eVar 12))) [12]) (aNil))) (aNil))))) (sRet (eC (.bl false))) (sNil))
  (sSeq (sSet 9 (eCall fs__law_poly_times (aCons (eVar 3) (aCons (eVar 5) (aNil)))))
  (sSeq (sIf (tBl (eBin neD (eB reprD (aCons (eCall fs_polynomial_divided (aCons (eVar 9) (aCons (eVar 5) (aNil)))) (aNil))) (eB reprD (aCons (eVar 3) (aNil))))) (sRet (eC (.bl false))) (sNil))
  (sSeq (sSet 10 (eBin ixD (eLst (aCons (eTup (aCons (eC (.int 1)) (aNil))) (aCons (eTup (aCons (eC (.int 0)) (aCons (eC (.int 1)) (aNil)))) (aCons (eTup (aCons (eC (.int 0)) (aCons (eC (.int 0)) (aCons (eC (.int 2)) (aNil))))) (aCons (eTup (aCons (eUn negD (eC (.int 1))) (aNil))) (aNil)))))) (eCall fs__law_pick (aCons (eVar 1) (aCons (eC (.int 4)) (aNil))))))
  (sSeq (sSet 11 (eBin mulA (eLst (aCons (eC (.int 0)) (aNil))) (eB max2D (aCons (eB lenD (aCons (eVar 9) (aNil))) (aCons (eB lenD (aCons (eVar 10) (aNil))) (aNil))))))
  (sSeq (sFor (iEnD (eVar 9)) (.tp [(.nm 12), (.nm 13)]) (b0_law))
  (sSeq (sFor (iEnD (eVar 10)) (.tp [(.nm 12), (.nm 13)]) (b1_law))
  (sSeq (sSet 11 (eCall fs__law_trim (aCons (eVar 11) (aNil))))
  (sSeq (sFor (iSeq (eTup (aCons (eVar 11) (aCons (eVar 3) (aCons (eVar 8) (aNil)))))) (.nm 14) (b2_law))
  (sSeq (sSet 15 (eB tupleD (aCons (eLc (iRg rg1D (aCons (eBin addD (eB lenD (aCons (eVar 3) (aNil))) (eCall fs__law_pick (aCons (eVar 1) (aCons (eC (.int 3)) (aNil))))) (aNil))) (.nm 12) (wYes) (eCall fs__law_worth (aCons (eVar 3) (aCons (eVar 12) (aNil)))) [12]) (aNil))))
  (sIf (wOr (tBl (eBin neD (eB reprD (aCons (eCall fs_polynomial_by_worths (aCons (eVar 15) (aNil))) (aNil))) (eB reprD (aCons (eVar 3) (aNil))))) (tBl (eBin neD (eB reprD (aCons (eLst (aCons (eVar 3) (aCons (eVar 4) (aNil)))) (aNil))) (eVar 6)))) (sRet (eC (.bl false))) (sNil))))))))))))))))) env De Ee := rfl
def w_law : WS := sSeq (sSet 1 (eCall fs__law_source (aCons (eVar 0) (aNil))))
  (sSeq (sForR (iRg rg1D (aCons (eC (.int 6)) (aNil))) (.nm 2) (b3_law))
  (sRet (eBin eqD (eCall fs_polynomial_times (aCons (eTup (aCons (eC (.int 1)) (aCons (eUn negD (eC (.int 4))) (aCons (eC (.int 3)) (aNil))))) (aCons (eTup (aCons (eC (.int 1)) (aCons (eC (.int 0)) (aCons (eUn negD (eC (.int 1))) (aNil))))) (aNil)))) (eTup (aCons (eC (.int 1)) (aCons (eUn negD (eC (.int 4))) (aCons (eC (.int 2)) (aCons (eC (.int 4)) (aCons (eUn negD (eC (.int 3))) (aNil))))))))))
def N_law : List Str := ["script", "source", "lap", "one", "other", "by", "kept", "u", "product", "whole", "more", "late", "k", "number", "some", "worths"]
theorem run__law_of : ∀ ds Q E, fs__law_of ds Q E → w__law_of (startD N__law_of ds) { nx := fun _ => Q (.val .non), rt := Q } (fun x _ => E x) := by
  rintro _ Q E ⟨xs, rfl, hn, hl, hq⟩
  have := List.length_pos_iff.mpr hn
  simp [w__law_of, N__law_of]
  refine ⟨log9 (n := (xs.length : Int)) (by omega) (by omega), fun r r0 r1 => ?_⟩
  have h : r.toNat < xs.length := by omega
  refine ⟨xs[r.toNat], ?_, hq _ (List.getElem_mem ..)⟩
  rw [atI_pos xs r0]
  exact List.getElem?_eq_getElem h
theorem run__law_trim : ∀ ds Q E, fs__law_trim ds Q E → w__law_trim (startD N__law_trim ds) { nx := fun _ => Q (.val .non), rt := Q } (fun x _ => E x) := by
  rintro _ Q E ⟨l, hd, hl, hq⟩
  have go : ∀ d : D, d = T l ∨ d = L l → w__law_trim (startD N__law_trim [d]) { nx := fun _ => Q (.val .non), rt := Q } (fun x _ => E x) := by
    intro d hd
    have k1 : ∀ Q, listD [d] Q = Q (Ow l) := fun Q => by rcases hd with rfl | rfl <;> simp
    simp [w__law_trim, N__law_trim, k1]
    refine ⟨fun m env => ∃ u : List Int, m = u.length ∧ u.length ≤ l.length ∧ (∀ k, PO.cf u k = PO.cf l k) ∧ env = [some (.val d), some (Ow u)], ⟨l.length, l, rfl, Nat.le_refl _, fun _ => rfl, rfl⟩, ?_⟩
    rintro m _ ⟨u, rfl, hu, hz, rfl⟩
    have fin : PO.Tr u → Q (.val (T u)) := fun h => by
      rw [PO.trm_eq h fun k => (hz k).symm] at hq
      exact hq
    rcases List.eq_nil_or_concat u with rfl | ⟨t, x, rfl⟩
    · simp [b0__law_trim_v]
      exact fin fun k h => by simp at h
    · rw [List.concat_eq_append] at *
      simp [b0__law_trim_v]
      have ex : PO.cf (t ++ [x]) t.length = x := by unfold PO.cf; simp
      split
      · rename_i h
        rw [cut_init]
        refine ⟨t.length, by omega, t, rfl, by simp at hu; omega, fun k => ?_, rfl⟩
        rw [← hz k]
        by_cases q : k < t.length
        · unfold PO.cf
          rw [List.getElem?_append_left q]
        · rw [PO.cf_out (by omega)]
          by_cases q' : k = t.length
          · rw [q', ex, h]
          · rw [PO.cf_out (by simp; omega)]
      · rename_i h
        exact fin fun k hk => by
          rw [show k = t.length by simp at hk; omega, ex]
          exact h
  rcases hd with rfl | rfl
  · exact go _ (.inl rfl)
  · exact go _ (.inr rfl)
theorem loop__law_poly {De : DEnds} {Ee : SEX} {c1 : Option O} {far : Int} (h0 : 1 ≤ far) (h1 : far ≤ 1000) : ∀ (ds acc : List Int) (c4 : Option O), acc.length + ds.length ≤ 900 → (∀ x ∈ acc, x.natAbs ≤ 1000) → (∀ (l : List Int) c4, l.length = acc.length + ds.length → (∀ x ∈ l, x.natAbs ≤ 1000) → De.nx [some (.val .src), c1, some (.val (.int far)), some (Ow l), c4]) →
    loopD (.nm 4) b0__law_poly De Ee (ds.map Enc.enc) [some (.val .src), c1, some (.val (.int far)), some (Ow acc), c4]
  | [], acc, c4, _, ha, h => by simpa using h acc c4 (by simp) ha
  | x :: ds, acc, c4, hl, ha, h => by
    simp only [List.length_cons] at hl h
    rw [List.map_cons, loopD_cons]
    simp [b0__law_poly_v]
    rw [app_Ow acc rfl]
    simp
    refine ⟨.inl (.inl (by decide)), log9 (by omega) (by omega), fun r r0 r1 => ⟨by decide, fun s s0 s1 => ⟨.inl (.inr (by omega)), by rw [sizeLine_eq]; omega, ?_⟩⟩⟩
    refine loop__law_poly h0 h1 ds _ _ (by simp; omega) (fun y hy => ?_) fun l c4 hl' => h l c4 (by simp at hl'; omega)
    rw [List.mem_append, List.mem_singleton] at hy
    rcases hy with hy | rfl
    · exact ha y hy
    · have : s = 0 ∨ s = 1 := by omega
      rcases this with rfl | rfl <;> omega
theorem run__law_poly : ∀ ds Q E, fs__law_poly ds Q E → w__law_poly (startD N__law_poly ds) { nx := fun _ => Q (.val .non), rt := Q } (fun x _ => E x) := by
  rintro _ Q E ⟨m, rfl, m0, m1, hq⟩
  simp [w__law_poly, N__law_poly, rng_I]
  have key : ∀ far : Int, 1 ≤ far → far ≤ 1000 → (m + 1).natAbs.log2 < 9000 ∧ ∀ (r : Int), 0 ≤ r → r < max 1 (m + 1) → in62 r ∧ loopD (.nm 4) b0__law_poly { nx := fun env' => eVar 3 (view env') (fun o => fs__law_trim [o.d] Q fun x => x.clean = true ∧ E x) fun x => x.clean = true ∧ E x, rt := Q } (fun x _ => E x) (List.map Enc.enc (rngI 0 r)) [some (.val .src), some (.val (.int m)), some (.val (.int far)), some (Ow ([] : List Int)), none] := by
    intro far f0 f1
    refine ⟨log9 (by omega) (by omega), fun r r0 r1 => ⟨in62_of (by omega) (by omega), ?_⟩⟩
    refine loop__law_poly f0 f1 _ [] none (by simp; omega) (fun x hx => by simp at hx) fun l c4 hl hb => ?_
    simp at hl
    simp
    refine ⟨by omega, hq _ (Nat.le_trans (PO.trm_length_le l) (by omega)) (PO.tr_trm l) (PO.Bd.of hb).trm⟩
  exact ⟨by rw [sizeLine_eq]; omega, key 1 (by decide) (by decide), key 3 (by decide) (by decide), key 1000 (by decide) (by decide)⟩
theorem in__law_poly_times {De : DEnds} {Ee : SEX} {c0 c1 : Option O} {i : Nat} {a : Int} (hi : i ≤ 400) : ∀ (ds : List Int) (j : Nat) (u : List Int) (c5 c6 : Option O), i + j + ds.length ≤ u.length → u.length ≤ 1000 → (∀ x ∈ ds, x.natAbs ≤ 1000000000000) →
    (∀ (u' : List Int) c5 c6, u'.length = u.length → (∀ k, PO.cf u' k = PO.cf u k + if i + j ≤ k then a * PO.cf ds (k - (i + j)) else 0) → De.nx [c0, c1, some (Ow u'), some (.val (.int i)), some (.val (.int a)), c5, c6]) →
    loopD (.tp [.nm 5, .nm 6]) b0__law_poly_times De Ee ((enumI j ds).map Enc.enc) [c0, c1, some (Ow u), some (.val (.int i)), some (.val (.int a)), c5, c6]
  | [], j, u, c5, c6, _, _, _, h => by
    simp [enumI]
    exact h u c5 c6 rfl fun k => by simp
  | x :: ds, j, u, c5, c6, hl, hm, hb, h => by
    simp only [List.length_cons] at hl
    have hx := hb x (List.mem_cons_self ..)
    have hj : i + j < u.length := by omega
    rw [enumI, List.map_cons, loopD_cons]
    simp [b0__law_poly_times_v]
    rw [ix_Ow u rfl]
    simp
    refine ⟨PO.cf u (i + j), by rw [atI_pos u (by omega), show ((i : Int) + j).toNat = i + j by omega]; exact PO.cf_some (by omega), .inl (.inr (by omega)), _, ixN_pos (by omega) (by omega), ?_⟩
    rw [show ((i : Int) + j).toNat = i + j by omega]
    refine in__law_poly_times hi ds (j + 1) (u.set (i + j) (PO.cf u (i + j) + a * x)) _ _ (by rw [List.length_set]; omega) (by rw [List.length_set]; omega) (fun y hy => hb y (List.mem_cons_of_mem _ hy)) fun u' c5 c6 h1 h2 => h u' c5 c6 (by rw [h1, List.length_set]) fun k => ?_
    rw [h2, PO.cf_set hj]
    by_cases q : k = i + j
    · subst q
      rw [if_pos rfl, if_neg (by omega), if_pos (Nat.le_refl _), Nat.sub_self]
      simp
    · rw [if_neg q]
      by_cases q' : i + j ≤ k
      · rw [if_pos (by omega), if_pos q', show k - (i + j) = k - (i + (j + 1)) + 1 by omega, PO.cf_cons_succ]
      · rw [if_neg (by omega), if_neg q']
theorem out__law_poly_times {De : DEnds} {Ee : SEX} {c0 : Option O} {b : List Int} (hbl : b.length ≤ 400) (hb : PO.Bd 1000000000000 b) : ∀ (ds : List Int) (i : Nat) (u : List Int) (c3 c4 c5 c6 : Option O), i + ds.length ≤ 400 → (ds ≠ [] → i + ds.length + b.length ≤ u.length + 1) → u.length ≤ 1000 →
    (∀ (u' : List Int) c3 c4 c5 c6, u'.length = u.length → (∀ k, PO.cf u' k = PO.cf u k + if i ≤ k then PO.pm ds b (k - i) else 0) → De.nx [c0, some (.val (T b)), some (Ow u'), c3, c4, c5, c6]) →
    loopD (.tp [.nm 3, .nm 4]) b1__law_poly_times De Ee ((enumI i ds).map Enc.enc) [c0, some (.val (T b)), some (Ow u), c3, c4, c5, c6]
  | [], i, u, c3, c4, c5, c6, _, _, _, h => by
    simp [enumI]
    exact h u c3 c4 c5 c6 rfl fun k => by simp
  | x :: ds, i, u, c3, c4, c5, c6, hi, hl, hm, h => by
    have hl := hl (by simp)
    simp only [List.length_cons] at hl hi
    rw [enumI, List.map_cons, loopD_cons]
    simp [b1__law_poly_times_v]
    refine in__law_poly_times (by omega) b 0 u c5 c6 (by omega) hm hb.mem fun u1 c5 c6 h1 h2 => ?_
    refine out__law_poly_times hbl hb ds (i + 1) u1 _ _ _ _ (by omega) (fun _ => by omega) (by omega) fun u' c3 c4 c5 c6 h3 h4 => h u' c3 c4 c5 c6 (by omega) fun k => ?_
    rw [h4, h2, Nat.add_zero]
    by_cases q : i ≤ k
    · rw [if_pos q, if_pos q]
      by_cases q' : k = i
      · subst q'
        rw [if_neg (by omega), Nat.sub_self, PO.pm_zero, Int.add_zero]
      · rw [if_pos (by omega), show k - i = k - (i + 1) + 1 by omega, PO.pm_succ, Int.add_assoc]
    · rw [if_neg q, if_neg q, if_neg (by omega), Int.add_zero]
theorem run__law_poly_times : ∀ ds Q E, fs__law_poly_times ds Q E → w__law_poly_times (startD N__law_poly_times ds) { nx := fun _ => Q (.val .non), rt := Q } (fun x _ => E x) := by
  rintro _ Q E ⟨a, b, hd, ha, hb, hB, hq⟩
  have go : ∀ d : D, d = T a ∨ d = L a → w__law_poly_times (startD N__law_poly_times [d, T b]) { nx := fun _ => Q (.val .non), rt := Q } (fun x _ => E x) := by
    intro d hd
    have k1 : ∀ Q, lenD [d] Q = Q (.val (.int a.length)) := fun Q => by rcases hd with rfl | rfl <;> simp
    have k2 : ∀ Q, itemsD d Q = Q (a.map Enc.enc) := fun Q => by rcases hd with rfl | rfl <;> simp
    have rep0 : ∀ n k, PO.cf (List.replicate n (0 : Int)) k = 0 := fun n k => by
      unfold PO.cf
      rw [List.getElem?_replicate]
      split <;> rfl
    simp [w__law_poly_times, N__law_poly_times, lst1, k1, k2]
    rw [rep_Ow, rep_cl]
    refine ⟨by rw [sizeLine_eq]; omega, by rw [sizeLine_eq]; omega, rfl, ?_⟩
    refine out__law_poly_times hb hB a 0 (List.replicate _ 0) none none none none (by omega) (fun hn => ?_) (by rw [List.length_replicate]; omega) fun u' c3 c4 c5 c6 h1 h2 => ?_
    · have := List.length_pos_iff.mpr hn
      rw [List.length_replicate]
      omega
    · rw [List.length_replicate] at h1
      simp
      refine ⟨by omega, ?_⟩
      rw [PO.pml_eq (a := a) (b := b) (fun k => by rw [h2, rep0]; simp)]
      exact hq
  rcases hd with rfl | rfl
  · exact go _ (.inl rfl)
  · exact go _ (.inr rfl)
theorem loop_polynomial_worth {De : DEnds} {Ee : SEX} {c0 : Option O} {u : Int} (hu : u.natAbs ≤ 1000000) : ∀ (ds acc : List Int) (c3 : Option O), (∀ c3, De.nx [c0, some (.val (.int u)), some (.val (.int (PO.ev (ds.reverse ++ acc) u))), c3]) →
    loopD (.nm 3) b0_polynomial_worth De Ee (ds.map Enc.enc) [c0, some (.val (.int u)), some (.val (.int (PO.ev acc u))), c3]
  | [], acc, c3, h => by simpa using h c3
  | x :: ds, acc, c3, h => by
    have ih := loop_polynomial_worth (De := De) (Ee := Ee) (c0 := c0) hu ds (x :: acc) (some (.val (.int x)))
    rw [List.map_cons, loopD_cons]
    simp [b0_polynomial_worth_v]
    refine ⟨.inl (.inr (by omega)), ?_⟩
    have e : PO.ev acc u * u + x = PO.ev (x :: acc) u := by rw [PO.ev_cons, Int.mul_comm, Int.add_comm]
    rw [e]
    exact ih (by simpa using h)
theorem run_polynomial_worth : ∀ ds Q E, fs_polynomial_worth ds Q E → w_polynomial_worth (startD N_polynomial_worth ds) { nx := fun _ => Q (.val .non), rt := Q } (fun x _ => E x) := by
  rintro _ Q E ⟨l, u, rfl, hl, hu, hq⟩
  simp [w_polynomial_worth, N_polynomial_worth]
  rw [← List.map_reverse]
  refine loop_polynomial_worth (c0 := some (.val (T l))) hu l.reverse [] none fun c3 => ?_
  simpa using hq
theorem run_trimmed : ∀ ds Q E, fs_trimmed ds Q E → w_trimmed (startD N_trimmed ds) { nx := fun _ => Q (.val .non), rt := Q } (fun x _ => E x) := by
  rintro _ Q E ⟨l, hd, hl, hq⟩
  have go : ∀ d : D, d = T l ∨ d = L l → w_trimmed (startD N_trimmed [d]) { nx := fun _ => Q (.val .non), rt := Q } (fun x _ => E x) := by
    intro d hd
    have k1 : ∀ Q, lenD [d] Q = Q (.val (.int l.length)) := fun Q => by rcases hd with rfl | rfl <;> simp
    have k2 : ∀ i Q, ixD d (.int i) Q = ∃ x, atI l i = some x ∧ Q (.val (.int x)) := fun i Q => by rcases hd with rfl | rfl <;> simp
    have k3 : ∀ lo hi Q, sliceD d lo hi (fun o => tupleD [o.d] Q) = Q (.val (T (cut l lo hi))) := fun lo hi Q => by rcases hd with rfl | rfl <;> simp
    simp [w_trimmed, N_trimmed, k1]
    refine ⟨fun m env => ∃ k : Nat, m = k ∧ k ≤ l.length ∧ (∀ j, k ≤ j → PO.cf l j = 0) ∧ env = [some (.val d), some (.val (.int k))], ⟨l.length, l.length, rfl, Nat.le_refl _, fun j h => PO.cf_out h, rfl⟩, ?_⟩
    rintro m _ ⟨k, rfl, hk, hz, rfl⟩
    have fin : (∀ j, j + 1 = m → PO.cf l j ≠ 0) → Q (.val (T (cut l none (some (m : Int))))) := fun h => by
      rw [cut_lo l (by omega), Int.toNat_natCast, PO.trm_take hk hz h]
      exact hq
    simp [b0_trimmed_v, k2, k3]
    by_cases h0 : 0 < m
    · rw [if_pos h0]
      refine ⟨PO.cf l (m - 1), by rw [atI_pos l (by omega), show ((m : Int) - 1).toNat = m - 1 by omega]; exact PO.cf_some (by omega), ?_⟩
      split
      · rename_i h1
        rw [sAug_v rfl]
        simp
        refine ⟨m - 1, by omega, by omega, fun j hj => ?_, by omega⟩
        by_cases q : j = m - 1
        · rw [q]; exact h1
        · exact hz j (by omega)
      · rename_i h1
        exact fin fun j hj => by rw [show j = m - 1 by omega]; exact h1
    · rw [if_neg h0]
      exact fin fun j hj => by omega
  rcases hd with rfl | rfl
  · exact go _ (.inl rfl)
  · exact go _ (.inr rfl)
theorem in_polynomial_times {De : DEnds} {Ee : SEX} {c0 c1 : Option O} {i : Nat} {a : Int} (hi : i ≤ 400) : ∀ (ds : List Int) (j : Nat) (u : List Int) (c5 c6 : Option O), i + j + ds.length ≤ u.length → u.length ≤ 1000 → (∀ x ∈ ds, x.natAbs ≤ 1000000000000) →
    (∀ (u' : List Int) c5 c6, u'.length = u.length → (∀ k, PO.cf u' k = PO.cf u k + if i + j ≤ k then a * PO.cf ds (k - (i + j)) else 0) → De.nx [c0, c1, some (Ow u'), some (.val (.int i)), some (.val (.int a)), c5, c6]) →
    loopD (.tp [.nm 5, .nm 6]) b0_polynomial_times De Ee ((enumI j ds).map Enc.enc) [c0, c1, some (Ow u), some (.val (.int i)), some (.val (.int a)), c5, c6]
  | [], j, u, c5, c6, _, _, _, h => by
    simp [enumI]
    exact h u c5 c6 rfl fun k => by simp
  | x :: ds, j, u, c5, c6, hl, hm, hb, h => by
    simp only [List.length_cons] at hl
    have hx := hb x (List.mem_cons_self ..)
    have hj : i + j < u.length := by omega
    rw [enumI, List.map_cons, loopD_cons]
    simp [b0_polynomial_times_v]
    rw [augIx_Ow u rfl]
    simp
    refine ⟨_, ixN_pos (by omega) (by omega), PO.cf u (i + j), by rw [show ((i : Int) + j).toNat = i + j by omega]; exact PO.cf_some (by omega), .inl (.inr (by omega)), ?_⟩
    rw [show ((i : Int) + j).toNat = i + j by omega]
    refine in_polynomial_times hi ds (j + 1) (u.set (i + j) (PO.cf u (i + j) + a * x)) _ _ (by rw [List.length_set]; omega) (by rw [List.length_set]; omega) (fun y hy => hb y (List.mem_cons_of_mem _ hy)) fun u' c5 c6 h1 h2 => h u' c5 c6 (by rw [h1, List.length_set]) fun k => ?_
    rw [h2, PO.cf_set hj]
    by_cases q : k = i + j
    · subst q
      rw [if_pos rfl, if_neg (by omega), if_pos (Nat.le_refl _), Nat.sub_self]
      simp
    · rw [if_neg q]
      by_cases q' : i + j ≤ k
      · rw [if_pos (by omega), if_pos q', show k - (i + j) = k - (i + (j + 1)) + 1 by omega, PO.cf_cons_succ]
      · rw [if_neg (by omega), if_neg q']
theorem out_polynomial_times {De : DEnds} {Ee : SEX} {c0 : Option O} {b : List Int} (hbl : b.length ≤ 400) (hb : PO.Bd 1000000000000 b) : ∀ (ds : List Int) (i : Nat) (u : List Int) (c3 c4 c5 c6 : Option O), i + ds.length ≤ 400 → (ds ≠ [] → i + ds.length + b.length ≤ u.length + 1) → u.length ≤ 1000 →
    (∀ (u' : List Int) c3 c4 c5 c6, u'.length = u.length → (∀ k, PO.cf u' k = PO.cf u k + if i ≤ k then PO.pm ds b (k - i) else 0) → De.nx [c0, some (.val (T b)), some (Ow u'), c3, c4, c5, c6]) →
    loopD (.tp [.nm 3, .nm 4]) b1_polynomial_times De Ee ((enumI i ds).map Enc.enc) [c0, some (.val (T b)), some (Ow u), c3, c4, c5, c6]
  | [], i, u, c3, c4, c5, c6, _, _, _, h => by
    simp [enumI]
    exact h u c3 c4 c5 c6 rfl fun k => by simp
  | x :: ds, i, u, c3, c4, c5, c6, hi, hl, hm, h => by
    have hl := hl (by simp)
    simp only [List.length_cons] at hl hi
    rw [enumI, List.map_cons, loopD_cons]
    simp [b1_polynomial_times_v]
    refine in_polynomial_times (by omega) b 0 u c5 c6 (by omega) hm hb.mem fun u1 c5 c6 h1 h2 => ?_
    refine out_polynomial_times hbl hb ds (i + 1) u1 _ _ _ _ (by omega) (fun _ => by omega) (by omega) fun u' c3 c4 c5 c6 h3 h4 => h u' c3 c4 c5 c6 (by omega) fun k => ?_
    rw [h4, h2, Nat.add_zero]
    by_cases q : i ≤ k
    · rw [if_pos q, if_pos q]
      by_cases q' : k = i
      · subst q'
        rw [if_neg (by omega), Nat.sub_self, PO.pm_zero, Int.add_zero]
      · rw [if_pos (by omega), show k - i = k - (i + 1) + 1 by omega, PO.pm_succ, Int.add_assoc]
    · rw [if_neg q, if_neg q, if_neg (by omega), Int.add_zero]
theorem run_polynomial_times : ∀ ds Q E, fs_polynomial_times ds Q E → w_polynomial_times (startD N_polynomial_times ds) { nx := fun _ => Q (.val .non), rt := Q } (fun x _ => E x) := by
  rintro _ Q E ⟨a, b, rfl, ha, hb, hB, hq⟩
  have rep0 : ∀ n k, PO.cf (List.replicate n (0 : Int)) k = 0 := fun n k => by
    unfold PO.cf
    rw [List.getElem?_replicate]
    split <;> rfl
  simp [w_polynomial_times, N_polynomial_times, lst1]
  rw [rep_Ow, rep_cl]
  refine ⟨by rw [sizeLine_eq]; omega, by rw [sizeLine_eq]; omega, rfl, ?_⟩
  refine out_polynomial_times hb hB a 0 (List.replicate _ 0) none none none none (by omega) (fun hn => ?_) (by rw [List.length_replicate]; omega) fun u' c3 c4 c5 c6 h1 h2 => ?_
  · have := List.length_pos_iff.mpr hn
    rw [List.length_replicate]
    omega
  · rw [List.length_replicate] at h1
    simp
    refine ⟨by omega, ?_⟩
    rw [PO.pml_eq (a := a) (b := b) (fun k => by rw [h2, rep0]; simp)]
    exact hq
theorem loop__law_worth {De : DEnds} {Ee : SEX} {c0 : Option O} {u : Int} (hu : u.natAbs ≤ 1000000) : ∀ (ds acc : List Int) (c3 : Option O), (∀ c3, De.nx [c0, some (.val (.int u)), some (.val (.int (PO.ev (ds.reverse ++ acc) u))), c3]) →
    loopD (.nm 3) b0__law_worth De Ee (ds.map Enc.enc) [c0, some (.val (.int u)), some (.val (.int (PO.ev acc u))), c3]
  | [], acc, c3, h => by simpa using h c3
  | x :: ds, acc, c3, h => by
    have ih := loop__law_worth (De := De) (Ee := Ee) (c0 := c0) hu ds (x :: acc) (some (.val (.int x)))
    rw [List.map_cons, loopD_cons]
    simp [b0__law_worth_v]
    refine ⟨.inl (.inr (by omega)), ?_⟩
    have e : PO.ev acc u * u + x = PO.ev (x :: acc) u := by rw [PO.ev_cons, Int.mul_comm, Int.add_comm]
    rw [e]
    exact ih (by simpa using h)
theorem run__law_worth : ∀ ds Q E, fs__law_worth ds Q E → w__law_worth (startD N__law_worth ds) { nx := fun _ => Q (.val .non), rt := Q } (fun x _ => E x) := by
  rintro _ Q E ⟨l, u, rfl, hl, hu, hq⟩
  simp [w__law_worth, N__law_worth]
  rw [← List.map_reverse]
  refine loop__law_worth (c0 := some (.val (T l))) hu l.reverse [] none fun c3 => ?_
  simpa using hq
theorem enumI_mem {l : List Int} {k : Int} {p : Int × Int} (h : p ∈ enumI k l) : k ≤ p.1 ∧ p.1 < k + l.length := by
  induction l generalizing k with
  | nil => simp [enumI] at h
  | cons a l ih =>
    simp only [enumI, List.mem_cons, List.length_cons] at h ⊢
    rcases h with rfl | h
    · simp
      omega
    · have := ih h
      omega
theorem run_polynomial_slope : ∀ ds Q E, fs_polynomial_slope ds Q E → w_polynomial_slope (startD N_polynomial_slope ds) { nx := fun _ => Q (.val .non), rt := Q } (fun x _ => E x) := by
  rintro _ Q E ⟨l, rfl, hl, hq⟩
  simp [w_polynomial_slope, N_polynomial_slope]
  refine lcD_typed (α := Int × Int) (β := Int) (fun _ => true) (fun p => p.1 * p.2) _ [] (fun p hp R R' h => ?_) (by simp; rw [sizeLine_eq]; omega) fun os e1 e2 e3 e4 e5 => ?_
  · have := enumI_mem hp
    simp at h ⊢
    exact ⟨.inl (.inl (by omega)), h⟩
  · rw [e4, cut_map, cut_hi _ (by decide), ← L_def]
    simp
    refine ⟨by omega, ?_⟩
    simpa using hq
theorem in_polynomial_divided {De : DEnds} {Ee : SEX} {c0 c1 c3 : Option O} {i : Nat} {a : Int} (hi : i ≤ 400) : ∀ (ds : List Int) (j : Nat) (u : List Int) (c6 c7 : Option O), i + j + ds.length ≤ u.length → u.length ≤ 1000 → (∀ x ∈ ds, x.natAbs ≤ 1000000000000) →
    (∀ (u' : List Int) c6 c7, u'.length = u.length → (∀ k, PO.cf u' k = PO.cf u k - if i + j ≤ k then a * PO.cf ds (k - (i + j)) else 0) → De.nx [c0, c1, some (Ow u'), c3, some (.val (.int i)), some (.val (.int a)), c6, c7]) →
    loopD (.tp [.nm 6, .nm 7]) b0_polynomial_divided De Ee ((enumI j ds).map Enc.enc) [c0, c1, some (Ow u), c3, some (.val (.int i)), some (.val (.int a)), c6, c7]
  | [], j, u, c6, c7, _, _, _, h => by
    simp [enumI]
    exact h u c6 c7 rfl fun k => by simp
  | x :: ds, j, u, c6, c7, hl, hm, hb, h => by
    simp only [List.length_cons] at hl
    have hx := hb x (List.mem_cons_self ..)
    have hj : i + j < u.length := by omega
    rw [enumI, List.map_cons, loopD_cons]
    simp [b0_polynomial_divided_v]
    rw [augIx_Ow u rfl]
    simp
    refine ⟨_, ixN_pos (by omega) (by omega), PO.cf u (i + j), by rw [show ((i : Int) + j).toNat = i + j by omega]; exact PO.cf_some (by omega), .inl (.inr (by omega)), ?_⟩
    rw [show ((i : Int) + j).toNat = i + j by omega]
    refine in_polynomial_divided hi ds (j + 1) (u.set (i + j) (PO.cf u (i + j) - a * x)) _ _ (by rw [List.length_set]; omega) (by rw [List.length_set]; omega) (fun y hy => hb y (List.mem_cons_of_mem _ hy)) fun u' c5 c6 h1 h2 => h u' c5 c6 (by rw [h1, List.length_set]) fun k => ?_
    rw [h2, PO.cf_set hj]
    by_cases q : k = i + j
    · subst q
      rw [if_pos rfl, if_neg (by omega), if_pos (Nat.le_refl _), Nat.sub_self]
      simp
    · rw [if_neg q]
      by_cases q' : i + j ≤ k
      · rw [if_pos (by omega), if_pos q', show k - (i + j) = k - (i + (j + 1)) + 1 by omega, PO.cf_cons_succ]
      · rw [if_neg (by omega), if_neg q']
theorem out_polynomial_divided {De : DEnds} {Ee : SEX} {a b : List Int} (ha : a.length ≤ 400) (hbl : b.length ≤ 400) (hb0 : b ≠ []) (hb : PO.Bd 1000000000000 b) : ∀ (n k : Nat) (u : List Int) (c4 c5 c6 c7 : Option O), k + n = PO.lp a b → u.length = a.length → (∀ i, i < a.length → PO.cf u i = PO.cf a i - PO.pm (PO.qn a b k) b i) →
    (∀ (u : List Int) c4 c5 c6 c7, u.length = a.length → (∀ i, i < a.length → PO.cf u i = PO.cf a i - PO.pm (PO.qn a b (k + n)) b i) → De.nx [some (.val (T a)), some (.val (T b)), some (Ow u), some (Ow (PO.qn a b (k + n))), c4, c5, c6, c7]) →
    loopD (.nm 4) b1_polynomial_divided De Ee ((rngI k (k + n)).map Enc.enc) [some (.val (T a)), some (.val (T b)), some (Ow u), some (Ow (PO.qn a b k)), c4, c5, c6, c7]
  | 0, k, u, c4, c5, c6, c7, _, hu, hi, h => by
    rw [rngI_nil (by omega)]
    simp
    exact h u c4 c5 c6 c7 hu hi
  | n + 1, k, u, c4, c5, c6, c7, hk, hu, hi, h => by
    have lb := List.length_pos_iff.mpr hb0
    have hlp : PO.lp a b = a.length + 1 - b.length := rfl
    have bb := hb 0
    rw [rngI_cons (by omega), List.map_cons, loopD_cons]
    simp [b1_polynomial_divided_v]
    refine ⟨PO.cf u k, PO.cf_some (by omega), PO.cf b 0, ?_, .inl (.inr (by omega)), ?_⟩
    · cases b with
      | nil => exact absurd rfl hb0
      | cons x b => exact atI_zero x b
    rw [app_Ow _ rfl]
    simp
    refine ⟨by rw [sizeLine_eq]; omega, ?_⟩
    refine in_polynomial_divided (by omega) b 0 u c6 c7 (by omega) (by omega) hb.mem fun u1 c6 c7 h1 h2 => ?_
    have e := hi k (by omega)
    have ih := out_polynomial_divided (De := De) (Ee := Ee) ha hbl hb0 hb n (k + 1) u1 (some (.val (.int k))) (some (.val (.int (PO.cf u k * PO.cf b 0)))) c6 c7 (by omega) (by omega) (fun i hi' => ?_) (by rw [show k + 1 + n = k + (n + 1) by omega]; exact h)
    · rw [PO.qn_succ, ← e] at ih
      have r : rngI ((k : Int) + 1) (k + (n + 1)) = rngI ((k + 1 : Nat) : Int) ((k + 1 : Nat) + (n : Int)) := by
        congr 1
        omega
      rw [r]
      exact ih
    · rw [h2, hi i hi', PO.qn_succ, PO.pm_snoc, PO.qn_length, ← e]
      simp
      omega
theorem run_polynomial_divided : ∀ ds Q E, fs_polynomial_divided ds Q E → w_polynomial_divided (startD N_polynomial_divided ds) { nx := fun _ => Q (.val .non), rt := Q } (fun x _ => E x) := by
  rintro _ Q E ⟨a, b, rfl, ha, hbl, hb0, htr, hb, hq⟩
  have lb := List.length_pos_iff.mpr hb0
  simp [w_polynomial_divided, N_polynomial_divided, rng_I]
  refine ⟨in62_of (by omega) (by omega), ?_⟩
  have hlp : PO.lp a b = a.length + 1 - b.length := rfl
  have er : rngI 0 ((a.length : Int) - b.length + 1) = rngI ((0 : Nat) : Int) ((0 : Nat) + (PO.lp a b : Nat)) := by
    unfold rngI
    congr 2
    omega
  rw [er, lst0_Ow (α := Int)]
  refine out_polynomial_divided ha hbl hb0 hb (PO.lp a b) 0 a none none none none (by omega) rfl (fun i _ => by simp) fun u c4 c5 c6 c7 hu hi => ?_
  rw [Nat.zero_add] at *
  have hz : ∀ i, a.length ≤ i → PO.pm (PO.qn a b (PO.lp a b)) b i = 0 := fun i h => by
    by_cases q : PO.lp a b = 0
    · rw [q, PO.qn_zero, PO.pm_nil]
    · refine PO.pm_out _ _ _ ?_
      rw [PO.qn_length]
      omega
  simp
  refine lcD_typed (α := Int) (β := Int) (fun x => decide (x ≠ 0)) (fun x => x) u [] (fun x hx R R' h => ?_) (by simp; rw [sizeLine_eq]; omega) fun os e1 e2 e3 e4 e5 => ?_
  · simp at h ⊢
    by_cases q : x = 0 <;> simp [q] at h ⊢ <;> exact h
  · rw [e4]
    simp only [List.nil_append, List.map_id']
    refine ⟨okDs_map (fun a => by simp) _, ?_⟩
    by_cases q : u.filter (fun x => decide (x ≠ 0)) = []
    · have e : PO.pml (PO.qn a b (PO.lp a b)) b = a := PO.tr_ext (PO.tr_pml _ _) htr fun k => by
        rw [PO.cf_pml]
        by_cases h : k < a.length
        · have h1 := hi k h
          have h2 : PO.cf u k = 0 := by
            rw [PO.cf_get (by omega)]
            have := List.filter_eq_nil_iff.mp q u[k] (List.getElem_mem ..)
            simpa using this
          omega
        · rw [hz k (by omega), PO.cf_out (by omega)]
      unfold PO.dv at hq
      rw [if_pos e] at hq
      rw [q]
      simp
      exact ⟨by omega, hq⟩
    · have e : ¬ PO.pml (PO.qn a b (PO.lp a b)) b = a := fun e => q (List.filter_eq_nil_iff.mpr fun x hx => by
        obtain ⟨k, hk, rfl⟩ := List.getElem_of_mem hx
        have h1 := hi k (by omega)
        rw [← PO.cf_pml, e, PO.cf_get hk] at h1
        simp
        omega)
      unfold PO.dv at hq
      rw [if_neg e] at hq
      have hne : eqBs (List.map Enc.enc (u.filter fun x => decide (x ≠ 0))) [] = false := by
        cases h : u.filter fun x => decide (x ≠ 0) with
        | nil => exact absurd h q
        | cons x l => rfl
      rw [hne, if_neg (by decide)]
      exact hq
theorem run__law_told : ∀ ds Q E, fs__law_told ds Q E → w__law_told (startD N__law_told ds) { nx := fun _ => Q (.val .non), rt := Q } (fun x _ => E x) := by
  rintro _ Q E ⟨a, b, rfl, ha, hbl, hb0, htr, hb, hq⟩
  simp [w__law_told, N__law_told]
  refine ⟨ha, hbl, hb0, htr, hb, ?_⟩
  cases h : PO.dv a b with
  | some q => rw [h] at hq; exact hq
  | none =>
    rw [h] at hq
    refine ⟨rfl, ?_⟩
    rw [show List.lookup (Str.ofString "NotOfIt") tb_NotOfIt = some true from rfl]
    exact hq
theorem loop__law_quotient {De : DEnds} {Ee : SEX} {a b : List Int} (ha : a.length ≤ 400) (hbl : b.length ≤ 400) (hb0 : b ≠ []) (hb : PO.Bd 1000000000000 b) : ∀ (n k : Nat) (c3 c4 c5 : Option O), k + n = PO.lp a b →
    (∀ c3 c4 c5, De.nx [some (.val (T a)), some (.val (T b)), some (Ow (PO.qn a b (k + n))), c3, c4, c5]) →
    loopD (.nm 3) b0__law_quotient De Ee ((rngI k (k + n)).map Enc.enc) [some (.val (T a)), some (.val (T b)), some (Ow (PO.qn a b k)), c3, c4, c5]
  | 0, k, c3, c4, c5, _, h => by
    rw [rngI_nil (by omega)]
    simp
    exact h c3 c4 c5
  | n + 1, k, c3, c4, c5, hk, h => by
    have lb := List.length_pos_iff.mpr hb0
    have hlp : PO.lp a b = a.length + 1 - b.length := rfl
    have bb := hb 0
    rw [rngI_cons (by omega), List.map_cons, loopD_cons]
    simp [b0__law_quotient_v, rng_I]
    refine ⟨in62_of (by omega) (by omega), ?_⟩
    refine lcD_typed (α := Int) (β := Int) (fun j => decide ((k : Int) - j < b.length)) (fun j => PO.cf (PO.qn a b k) j.toNat * PO.cf b ((k : Int) - j).toNat) _ [] (fun j hj R R' h => ?_) (by simp; rw [sizeLine_eq]; omega) fun os e1 e2 e3 e4 e5 => ?_
    · rw [mem_rngI] at hj
      have := hb ((k : Int) - j).toNat
      simp at h ⊢
      split
      · rename_i q
        rw [if_pos (by omega)] at h
        refine ⟨PO.cf (PO.qn a b k) j.toNat, ?_, PO.cf b ((k : Int) - j).toNat, ?_, .inl (.inr (by omega)), h⟩
        · rw [atI_pos _ hj.1]
          exact PO.cf_some (by rw [PO.qn_length]; omega)
        · rw [atI_pos _ (by omega)]
          exact PO.cf_some (by omega)
      · rename_i q
        rw [if_neg (by omega)] at h
        exact h
    · rw [e3]
      have es : (((rngI 0 (k : Int)).filter fun j => decide ((k : Int) - j < b.length)).map fun j => PO.cf (PO.qn a b k) j.toNat * PO.cf b ((k : Int) - j).toNat).sum = PO.pm (PO.qn a b k) b k := by
        rw [sum_filter _ _ _ (fun j hj h => by
          rw [mem_rngI] at hj
          simp at h
          rw [PO.cf_out (l := b) (by omega), Int.mul_zero]), PO.pm_sum _ _ _ (by rw [PO.qn_length]; omega), PO.qn_length]
        unfold rngI
        rw [List.map_map, Int.sub_zero, Int.toNat_natCast]
        congr 1
        apply List.map_congr_left
        intro j hj
        rw [List.mem_range] at hj
        show PO.cf _ (0 + (j : Int)).toNat * PO.cf b ((k : Int) - (0 + j)).toNat = _
        rw [show (0 + (j : Int)).toNat = j by omega, show ((k : Int) - (0 + j)).toNat = k - j by omega]
      simp [es]
      rw [app_Ow _ rfl]
      simp
      refine ⟨PO.cf a k, PO.cf_some (by omega), PO.cf b 0, ?_, .inl (.inr (by omega)), by rw [sizeLine_eq]; omega, ?_⟩
      · cases b with
        | nil => exact absurd rfl hb0
        | cons x b => exact atI_zero x b
      have r : rngI ((k : Int) + 1) (k + (n + 1)) = rngI ((k + 1 : Nat) : Int) ((k + 1 : Nat) + (n : Int)) := by
        congr 1
        omega
      rw [r]
      refine loop__law_quotient (De := De) (Ee := Ee) ha hbl hb0 hb n (k + 1) _ _ _ (by omega) ?_
      rw [show k + 1 + n = k + (n + 1) by omega]
      exact h
theorem run__law_quotient : ∀ ds Q E, fs__law_quotient ds Q E → w__law_quotient (startD N__law_quotient ds) { nx := fun _ => Q (.val .non), rt := Q } (fun x _ => E x) := by
  rintro _ Q E ⟨a, b, rfl, ha, hbl, hb0, htr, hb, hq⟩
  have lb := List.length_pos_iff.mpr hb0
  simp [w__law_quotient, N__law_quotient, rng_I]
  refine ⟨in62_of (by omega) (by omega), ?_⟩
  have hlp : PO.lp a b = a.length + 1 - b.length := rfl
  have er : rngI 0 (max 0 ((a.length : Int) - b.length + 1)) = rngI ((0 : Nat) : Int) ((0 : Nat) + (PO.lp a b : Nat)) := by
    unfold rngI
    congr 2
    omega
  rw [er, lst0_Ow (α := Int)]
  refine loop__law_quotient (by omega) (by omega) hb0 hb (PO.lp a b) 0 none none none (by omega) fun c3 c4 c5 => ?_
  rw [Nat.zero_add]
  simp
  refine ⟨by omega, by omega, hb, ?_⟩
  unfold PO.dv at hq
  split
  · rename_i q
    rw [if_pos q] at hq
    exact ⟨by omega, hq⟩
  · rename_i q
    rw [if_neg q] at hq
    exact hq
theorem lap_line (g : Nat → Int) (d : Int) (m : Nat) : (((cut ((List.range (m + 1)).map g) none (some (-1))).zip (cut ((List.range (m + 1)).map g) (some 1) none)).map fun q => (q.2 - q.1) / d) = (List.range m).map fun i => (g (i + 1) - g i) / d := by
  rw [cut_hi _ (by decide)]
  have e1 : (List.range (m + 1)).map g = (List.range m).map g ++ [g m] := by rw [List.range_succ, List.map_append]; rfl
  have e2 : (List.range (m + 1)).map g = g 0 :: (List.range m).map fun i => g (i + 1) := by rw [List.range_succ_eq_map, List.map_cons, List.map_map]; rfl
  conv => lhs; rw [e2]
  rw [← e2, e1, cut_init, ← e1, e2, show (1 : Int).toNat = 1 from rfl, List.drop_succ_cons, List.drop_zero, List.zip_map', List.map_map]
  rfl
def lin (p : List Int) (k m : Nat) : List Int := (List.range m).map fun i : Nat => PO.dl p k (i : Int)
def hds (p : List Int) (k : Nat) : List Int := (List.range k).map fun i : Nat => PO.dl p i 0
theorem lin_length (p : List Int) (k m : Nat) : (lin p k m).length = m := by simp [lin]
theorem hds_length (p : List Int) (k : Nat) : (hds p k).length = k := by simp [hds]
theorem lin_step (p : List Int) (k m : Nat) : (((cut (lin p k (m + 1)) none (some (-1))).zip (cut (lin p k (m + 1)) (some 1) none)).map fun q => (q.2 - q.1) / ((k : Int) + 1)) = lin p (k + 1) m := by
  unfold lin
  rw [lap_line]
  apply List.map_congr_left
  intro i _
  exact PO.dl_div p k i
theorem lin_zip (p : List Int) (k m : Nat) : (cut (lin p k (m + 1)) none (some (-1))).length = (cut (lin p k (m + 1)) (some 1) none).length ∧ (cut (lin p k (m + 1)) (some 1) none).length = m := by
  rw [cut_hi _ (by decide)]
  unfold lin
  rw [List.range_succ, List.map_append, List.map_singleton, cut_init]
  simp
theorem one_polynomial_by_worths {De : DEnds} {Ee : SEX} {p : List Int} {c0 c4 c5 c6 c7 : Option O} : ∀ (n k : Nat) (c3 c8 c9 : Option O), k + n ≤ 400 →
    (∀ (u : List Int) c3 c8 c9, De.nx [c0, some (Ow u), some (Ow (hds p (k + n))), c3, c4, c5, c6, c7, c8, c9]) →
    loopD (.nm 3) b0_polynomial_by_worths De Ee ((rngI k (k + n)).map Enc.enc) [c0, some (Ow (lin p k n)), some (Ow (hds p k)), c3, c4, c5, c6, c7, c8, c9]
  | 0, k, c3, c8, c9, _, h => by
    rw [rngI_nil (by omega)]
    simp
    exact h _ c3 c8 c9
  | n + 1, k, c3, c8, c9, hk, h => by
    obtain ⟨z1, z2⟩ := lin_zip p k n
    rw [rngI_cons (by omega), List.map_cons, loopD_cons]
    simp [b0_polynomial_by_worths_v]
    rw [app_Ow _ rfl]
    simp
    have e0 : lin p k (n + 1) = PO.dl p k 0 :: (List.range n).map fun i : Nat => PO.dl p k ((i + 1 : Nat) : Int) := by
      unfold lin
      rw [List.range_succ_eq_map, List.map_cons, List.map_map]
      rfl
    refine ⟨PO.dl p k 0, by rw [e0]; exact atI_zero _ _, by rw [hds_length, sizeLine_eq]; omega, z1, ?_⟩
    refine lcD_typed (α := Int × Int) (β := Int) (fun _ => true) (fun q => (q.2 - q.1) / ((k : Int) + 1)) _ [] (fun q hq R R' h => ?_) (by rw [List.length_nil, List.length_zip, z1, z2, sizeLine_eq]; omega) fun os e1 e2 e3 e4 e5 => ?_
    · simp at h ⊢
      first
        | exact ⟨log9 (n := (k : Int) + 1) (by omega) (by omega), h⟩
        | exact ⟨⟨by omega, log9 (n := (k : Int) + 1) (by omega) (by omega)⟩, h⟩
    · refine ⟨e5 inferInstance, ?_⟩
      rw [e1, List.nil_append, List.filter_eq_self.mpr (fun _ _ => rfl), lin_step]
      have eh : hds p k ++ [PO.dl p k 0] = hds p (k + 1) := by
        unfold hds
        rw [List.range_succ, List.map_append, List.map_singleton]
      have r : rngI ((k : Int) + 1) (k + (n + 1)) = rngI ((k + 1 : Nat) : Int) ((k + 1 : Nat) + (n : Int)) := by
        congr 1
        omega
      rw [eh, r]
      refine one_polynomial_by_worths n (k + 1) _ _ _ (by omega) ?_
      rw [show k + 1 + n = k + (n + 1) by omega]
      exact h
theorem in_polynomial_by_worths {De : DEnds} {Ee : SEX} {c0 c1 c2 c4 c8 c9 : Option O} {a : Nat} (hi : a ≤ 400) : ∀ (ds : List Int) (j : Nat) (u : List Int) (c6 c7 : Option O), j + ds.length ≤ u.length → u.length ≤ 1000 →
    (∀ (u' : List Int) c6 c7, u'.length = u.length → (∀ k, PO.cf u' k = PO.cf u k - if j ≤ k then a * PO.cf ds (k - j) else 0) → De.nx [c0, c1, c2, some (.val (.int a)), c4, some (Ow u'), c6, c7, c8, c9]) →
    loopD (.tp [.nm 6, .nm 7]) b1_polynomial_by_worths De Ee ((enumI j ds).map Enc.enc) [c0, c1, c2, some (.val (.int a)), c4, some (Ow u), c6, c7, c8, c9]
  | [], j, u, c6, c7, _, _, h => by
    simp [enumI]
    exact h u c6 c7 rfl fun k => by simp
  | x :: ds, j, u, c6, c7, hl, hm, h => by
    simp only [List.length_cons] at hl
    have hj : j < u.length := by omega
    rw [enumI, List.map_cons, loopD_cons]
    simp [b1_polynomial_by_worths_v]
    rw [augIx_Ow u rfl]
    simp
    refine ⟨_, ixN_pos (by omega) (by omega), PO.cf u j, by rw [Int.toNat_natCast]; exact PO.cf_some (by omega), .inl (.inl (by omega)), ?_⟩
    rw [Int.toNat_natCast]
    refine in_polynomial_by_worths hi ds (j + 1) (u.set j (PO.cf u j - a * x)) _ _ (by rw [List.length_set]; omega) (by rw [List.length_set]; omega) fun u' c5 c6 h1 h2 => h u' c5 c6 (by rw [h1, List.length_set]) fun k => ?_
    rw [h2, PO.cf_set hj]
    by_cases q : k = j
    · subst q
      rw [if_pos rfl, if_neg (by omega), if_pos (Nat.le_refl _), Nat.sub_self]
      simp
    · rw [if_neg q]
      by_cases q' : j ≤ k
      · rw [if_pos (by omega), if_pos q', show k - j = k - (j + 1) + 1 by omega, PO.cf_cons_succ]
      · rw [if_neg (by omega), if_neg q']
def dn (k : Nat) : List Int := (List.range k).map fun i : Nat => (k : Int) - 1 - i
theorem dn_succ (k : Nat) : dn (k + 1) = (k : Int) :: dn k := by
  unfold dn
  rw [List.range_succ_eq_map, List.map_cons, List.map_map]
  congr 1
  · simp
  · apply List.map_congr_left
    intro i _
    simp
    omega
theorem dn_rng (n : Nat) : rngDown ((n : Int) - 1) (-1) = (dn n).map Enc.enc := by
  unfold rngDown dn
  rw [show ((n : Int) - 1 - -1).toNat = n by omega, List.map_map]
  apply List.map_congr_left
  intro i _
  simp
  omega
theorem two_polynomial_by_worths {De : DEnds} {Ee : SEX} {p : List Int} {n : Nat} {c0 c1 : Option O} (hn : n ≤ 400) : ∀ (k : Nat) (f : List Int) (c3 c5 c6 c7 c8 c9 : Option O), k + f.length = n → (∀ j, PO.cf f j = PO.cf (PO.dd p 0 k) j) →
    (∀ (f : List Int) c3 c5 c6 c7 c8 c9, f.length = n → (∀ j, PO.cf f j = PO.cf p j) → De.nx [c0, c1, some (Ow (hds p n)), c3, some (.val (T f)), c5, c6, c7, c8, c9]) →
    loopD (.nm 3) b2_polynomial_by_worths De Ee ((dn k).map Enc.enc) [c0, c1, some (Ow (hds p n)), c3, some (.val (T f)), c5, c6, c7, c8, c9]
  | 0, f, c3, c5, c6, c7, c8, c9, hk, hf, h => by
    simp [dn]
    exact h f c3 c5 c6 c7 c8 c9 (by omega) hf
  | k + 1, f, c3, c5, c6, c7, c8, c9, hk, hf, h => by
    rw [dn_succ, List.map_cons, loopD_cons]
    simp [b2_polynomial_by_worths_v]
    have ec : O.lst (O.val (D.int 0) :: List.map (O.val ∘ Enc.enc) f) = Ow (0 :: f) := rfl
    rw [ec]
    refine ⟨by rw [sizeLine_eq]; omega, clean_Ow f, ?_⟩
    refine in_polynomial_by_worths (by omega) f 0 (0 :: f) c6 c7 (by simp) (by simp; omega) fun u c6 c7 h1 h2 => ?_
    simp only [List.length_cons] at h1
    dsimp only
    rw [augIx_Ow u rfl]
    simp
    refine ⟨_, ixN_pos (by omega) (by omega), PO.cf u 0, PO.cf_some (by omega), PO.dl p k 0, ?_, ?_⟩
    · unfold hds
      rw [List.getElem?_map, List.getElem?_range (by omega)]
      rfl
    refine two_polynomial_by_worths hn k _ _ _ _ _ _ _ (by simp; omega) (fun j => ?_) h
    rw [← PO.bk_dd hf, PO.cf_bk, show (0 : Int).toNat = 0 from rfl, PO.cf_set (by omega), h2, h2]
    cases j with
    | zero =>
      simp
      omega
    | succ j => simp
theorem run_polynomial_by_worths : ∀ ds Q E, fs_polynomial_by_worths ds Q E → w_polynomial_by_worths (startD N_polynomial_by_worths ds) { nx := fun _ => Q (.val .non), rt := Q } (fun x _ => E x) := by
  rintro _ Q E ⟨p, n, rfl, hp, hn, ht, hq⟩
  have ew : (wos p n).length = n := by simp [wos]
  simp [w_polynomial_by_worths, N_polynomial_by_worths, rng_I, ew]
  refine ⟨in62_of (by omega) (by omega), ?_⟩
  have e0 : wos p n = lin p 0 n := by
    unfold wos lin
    apply List.map_congr_left
    intro i _
    unfold PO.dl
    rw [PO.dd_zero]
    simp
  have er : rngI 0 (n : Int) = rngI ((0 : Nat) : Int) ((0 : Nat) + (n : Int)) := by
    congr 1
    omega
  rw [e0, er, lst0_Ow (α := Int)]
  refine one_polynomial_by_worths n 0 none none none (by omega) fun u c3 c8 c9 => ?_
  rw [Nat.zero_add]
  simp [hds_length, dn_rng]
  refine ⟨in62_of (by omega) (by omega), in62_of (by omega) (by omega), ?_⟩
  rw [tup0]
  refine two_polynomial_by_worths hn n [] c3 none none none c8 c9 (by simp) (fun j => ?_) fun f c3 c5 c6 c7 c8 c9 hl hf => ?_
  · rw [PO.cf_out (l := PO.dd p 0 n) (by rw [PO.dd_length]; omega)]
    rfl
  · simp
    refine ⟨by omega, ?_⟩
    rw [PO.trm_eq ht hf]
    exact hq
theorem dv_bd {a b q : List Int} (ha : PO.Bd 10000000 a) (hb : PO.Bd 1000 b) (h0 : (PO.cf b 0).natAbs ≤ 1) (hl : PO.lp a b ≤ 15) (h : PO.dv a b = some q) : PO.Bd (10000000 * (1 + 15 * 1000) ^ 15) q ∧ q.length ≤ 15 := by
  unfold PO.dv at h
  split at h
  · cases h
    have hq := PO.qn_bd (n := 15) ha hb h0 (PO.lp a b) hl
    refine ⟨fun k => ?_, Nat.le_trans (PO.trm_length_le _) (by rw [PO.qn_length]; exact hl)⟩
    have := hq.trm k
    exact Nat.le_trans this (Nat.mul_le_mul_left _ (Nat.pow_le_pow_right (by omega) hl))
  · cases h
theorem dv_shw {a b : List Int} (ha : PO.Bd 10000000 a) (hb : PO.Bd 1000 b) (h0 : (PO.cf b 0).natAbs ≤ 1) (hl : PO.lp a b ≤ 15) : okE (optD (PO.dv a b)) ∧ shw (optD (PO.dv a b)) = true ∧ cost (optD (PO.dv a b)) ≤ sizeLine := by
  cases h : PO.dv a b with
  | none => exact ⟨by simp [optD], by simp [optD], by simp [optD]; rw [sizeLine_eq]; omega⟩
  | some q =>
    have := dv_bd ha hb h0 hl h
    have c := cost_B q
    exact ⟨okE_T q (by decide), shw_B this.1 (by decide), by show cost (T q) ≤ _; rw [sizeLine_eq]; omega⟩
theorem loop_add {De : DEnds} {Ee : SEX} {c0 c1 c2 c3 c4 c5 c6 c7 c8 c9 c10 c14 c15 : Option O} : ∀ (ds : List Int) (j : Nat) (u : List Int) (c12 c13 : Option O), j + ds.length ≤ u.length → u.length ≤ 1000 →
    (∀ (u' : List Int) c12 c13, u'.length = u.length → (∀ k, PO.cf u' k = PO.cf u k + if j ≤ k then PO.cf ds (k - j) else 0) → De.nx [c0, c1, c2, c3, c4, c5, c6, c7, c8, c9, c10, some (Ow u'), c12, c13, c14, c15]) →
    loopD (.tp [.nm 12, .nm 13]) b0_law De Ee ((enumI j ds).map Enc.enc) [c0, c1, c2, c3, c4, c5, c6, c7, c8, c9, c10, some (Ow u), c12, c13, c14, c15]
  | [], j, u, c12, c13, _, _, h => by
    simp [enumI]
    exact h u c12 c13 rfl fun k => by simp
  | x :: ds, j, u, c12, c13, hl, hm, h => by
    simp only [List.length_cons] at hl
    have hj : j < u.length := by omega
    rw [enumI, List.map_cons, loopD_cons]
    simp [b0_law_v]
    rw [ix_Ow u rfl]
    simp
    refine ⟨PO.cf u j, PO.cf_some hj, _, ixN_pos (by omega) (by omega), ?_⟩
    rw [Int.toNat_natCast]
    refine loop_add ds (j + 1) (u.set j (PO.cf u j + x)) _ _ (by rw [List.length_set]; omega) (by rw [List.length_set]; omega) fun u' c5 c6 h1 h2 => h u' c5 c6 (by rw [h1, List.length_set]) fun k => ?_
    rw [h2, PO.cf_set hj]
    by_cases q : k = j
    · subst q
      rw [if_pos rfl, if_neg (by omega), if_pos (Nat.le_refl _), Nat.sub_self]
      simp
    · rw [if_neg q]
      by_cases q' : j ≤ k
      · rw [if_pos (by omega), if_pos q', show k - j = k - (j + 1) + 1 by omega, PO.cf_cons_succ]
      · rw [if_neg (by omega), if_neg q']
theorem b2_step {De : DEnds} {Ee : SEX} {some' by' : List Int} {c0 c1 c2 c3 c4 c6 c7 c8 c9 c10 c11 c12 c13 c15 : Option O} (yt : PO.Tr by') (yb : PO.Bd 1000 by') (yn : by' ≠ []) (ya : (PO.cf by' 0).natAbs ≤ 1) (yl : by'.length ≤ 6) (ht : PO.Tr some') (hb : PO.Bd 10000000 some') (hl : some'.length ≤ 14)
    (h : De.nx [c0, c1, c2, c3, c4, some (.val (T by')), c6, c7, c8, c9, c10, c11, c12, c13, some (.val (T some')), c15]) : b2_law [c0, c1, c2, c3, c4, some (.val (T by')), c6, c7, c8, c9, c10, c11, c12, c13, some (.val (T some')), c15] De Ee := by
  have yn' := List.length_pos_iff.mpr yn
  obtain ⟨k1, k2, k3⟩ := dv_shw hb yb ya (show PO.lp some' by' ≤ 15 by unfold PO.lp; omega)
  have big : PO.Bd 1000000000000 by' := fun k => Nat.le_trans (yb k) (by decide)
  simp [b2_law_v]
  refine ⟨by omega, by omega, yn, ht, big, k1, k2, k3, by omega, by omega, yn, ht, big, ?_⟩
  simp [k1, k2, k3]
  exact h
theorem loop_law {De : DEnds} {Ee : SEX} {ns : D} (h : ∀ c2 c3 c4 c5 c6 c7 c8 c9 c10 c11 c12 c13 c14 c15, De.nx [some (.val ns), some (.val .src), c2, c3, c4, c5, c6, c7, c8, c9, c10, c11, c12, c13, c14, c15]) :
    ∀ (ds : List Int) (c2 c3 c4 c5 c6 c7 c8 c9 c10 c11 c12 c13 c14 c15 : Option O), loopD (.nm 2) b3_law De Ee (ds.map Enc.enc) [some (.val ns), some (.val .src), c2, c3, c4, c5, c6, c7, c8, c9, c10, c11, c12, c13, c14, c15]
  | [], _, _, _, _, _, _, _, _, _, _, _, _, _, _ => by simpa using h _ _ _ _ _ _ _ _ _ _ _ _ _ _
  | x :: ds, c2, c3, c4, c5, c6, c7, c8, c9, c10, c11, c12, c13, c14, c15 => by
    have ih := loop_law (Ee := Ee) h ds
    rw [List.map_cons, loopD_cons]
    simp only [Pat.bind_nm, List.length_cons, List.length_nil]
    refine ⟨_, rfl, ?_⟩
    rw [b3_law_v]
    simp only [List.set_cons_succ, List.set_cons_zero]
    apply seq_all fun e => ∃ one other : List Int, (one.length ≤ 8 ∧ PO.Tr one ∧ PO.Bd 1000 one) ∧ (other.length ≤ 6 ∧ PO.Tr other ∧ PO.Bd 1000 other) ∧
      e = [some (.val ns), some (.val .src), some (.val (.int x)), some (.val (T one)), some (.val (T other)), c5, c6, c7, c8, c9, c10, c11, c12, c13, c14, c15]
    · intro D' hD
      simp
      exact fun l1 h1 t1 b1 l2 h2 t2 b2 => hD _ ⟨l1, l2, ⟨h1, t1, b1⟩, ⟨h2, t2, b2⟩, rfl⟩
    rintro _ ⟨one, other, ⟨l1, t1, b1⟩, ⟨l2, t2, b2⟩, rfl⟩
    have z : ∀ {n : Nat}, n ≤ 1000000 → n ≤ sizeLine := fun {n} h => by rw [sizeLine_eq]; omega
    apply seq_all fun e => ∃ s : Int, (s = 1 ∨ s = -1) ∧
      e = [some (.val ns), some (.val .src), some (.val (.int x)), some (.val (T one)), some (.val (T other)), some (.val (T (s :: other.tail))), c6, c7, c8, c9, c10, c11, c12, c13, c14, c15]
    · intro D' hD
      simp [tup1]
      rw [cut_hi _ (by decide)]
      have := hD
      have lo : (other.tail).length ≤ 6 := by rw [List.length_tail]; omega
      rw [show (1 : Int).toNat = 1 from rfl, List.drop_one]
      exact ⟨z (by omega), ⟨z (by omega), z (by omega), hD _ ⟨1, .inl rfl, rfl⟩⟩, z (by omega), z (by omega), hD _ ⟨-1, .inr rfl, rfl⟩⟩
    rintro _ ⟨s, hs, rfl⟩
    have lo : (other.tail).length ≤ 5 := by rw [List.length_tail]; omega
    obtain ⟨by', hby⟩ : ∃ by', by' = PO.trm (s :: other.tail) := ⟨_, rfl⟩
    have y0 : PO.cf by' 0 = s := by rw [hby, PO.cf_trm]; rfl
    have yl : by'.length ≤ 6 := by rw [hby]; have := PO.trm_length_le (s :: other.tail); simp only [List.length_cons] at this; omega
    have yt : PO.Tr by' := by rw [hby]; exact PO.tr_trm _
    have yb : PO.Bd 1000 by' := by
      rw [hby]
      refine PO.Bd.trm (PO.Bd.of fun i hi => ?_)
      rcases List.mem_cons.mp hi with rfl | hi
      · omega
      · exact b2.mem i (List.mem_of_mem_tail hi)
    have yn : by' ≠ [] := fun e => by rw [e] at y0; simp at y0; omega
    have yy : PO.cf by' 0 * PO.cf by' 0 = 1 := by rw [y0]; rcases hs with rfl | rfl <;> rfl
    have ya : (PO.cf by' 0).natAbs ≤ 1 := by rw [y0]; omega
    have big : ∀ {B : Nat} {l : List Int}, PO.Bd B l → B ≤ 1000000000000 → PO.Bd 1000000000000 l := fun h h' k => Nat.le_trans (h k) h'
    have big7 : ∀ {B : Nat} {l : List Int}, PO.Bd B l → B ≤ 10000000 → PO.Bd 10000000 l := fun h h' k => Nat.le_trans (h k) h'
    have sh : ∀ {l : List Int}, PO.Bd 10000000 l → shw (T l) = true := fun h => shw_B h (by decide)
    have s1 := sh (big7 b1 (by decide))
    have s2 := sh (big7 b2 (by decide))
    have q1 := cost_B one
    have q2 := cost_B other
    apply seq_all fun e => ∃ u : Int, u.natAbs ≤ 20 ∧
      e = [some (.val ns), some (.val .src), some (.val (.int x)), some (.val (T one)), some (.val (T other)), some (.val (T by')), some (.val (.str (shown (.lst [T one, T other])))), some (.val (.int u)), c8, c9, c10, c11, c12, c13, c14, c15]
    · intro D' hD
      simp [s1, s2]
      rw [← hby]
      exact ⟨by omega, z (by omega), z (by omega), by decide, fun r r0 r1 => hD _ ⟨r - 20, by omega, rfl⟩⟩
    rintro _ ⟨u, hu, rfl⟩
    have bp : PO.Bd 8000000 (PO.pml one other) := fun k => by
      rw [PO.cf_pml]
      have := PO.pm_bd one other k b1 b2
      omega
    have bw : PO.Bd 8000000 (PO.pml one by') := fun k => by
      rw [PO.cf_pml]
      have := PO.pm_bd one by' k b1 yb
      omega
    have lp := PO.pml_len one other
    have lw := PO.pml_len one by'
    have sp := sh (big7 bp (by decide))
    have sw := sh (big7 bw (by decide))
    have qp := cost_B (PO.pml one other)
    have qw := cost_B (PO.pml one by')
    apply seq_to
    · intro D' hD
      simp
      exact ⟨by omega, by omega, big b2 (by decide), hD⟩
    have hev : (PO.ev one u).natAbs ≤ 1000 * (20 + 1) ^ 8 := Nat.le_trans (PO.ev_bd hu one b1) (Nat.mul_le_mul_left _ (Nat.pow_le_pow_right (by decide) l1))
    have se : shw (.int (PO.ev one u)) = true := shw_I (Nat.lt_of_le_of_lt hev (by decide))
    have qe := cost_int_le (PO.ev one u)
    apply seq_to
    · intro D' hD
      simp [sp, se]
      (repeat' (first | exact hD | exact big b2 (by decide) | apply And.intro)) <;> first | exact z (by omega) | omega
    have bs : PO.Bd 8000 (slp one) := by
      refine PO.Bd.trm (PO.Bd.of fun i hi => ?_)
      obtain ⟨k, hk, rfl⟩ := List.mem_map.mp hi
      rw [mem_rngI] at hk
      rw [Int.natAbs_mul]
      exact Nat.mul_le_mul (show k.natAbs ≤ 8 by omega) (b1 k.toNat)
    have ls : (slp one).length ≤ 8 := by
      refine Nat.le_trans (PO.trm_length_le _) ?_
      simp
      omega
    have ss := sh (big7 bs (by decide))
    have qs := cost_B (slp one)
    apply seq_to
    · intro D' hD
      simp [rng_I]
      refine ⟨by omega, ss, z (by omega), in62_of (by omega) (by omega), in62_of (by omega) (by omega), ?_⟩
      refine lcD_typed (α := Int) (β := Int) (fun _ => true) (fun k => k * PO.cf one k.toNat) _ [] (fun k hk R R' h => ?_) (by simp; rw [sizeLine_eq]; omega) fun os e1 e2 e3 e4 e5 => ?_
      · rw [mem_rngI] at hk
        simp at h ⊢
        exact ⟨PO.cf one k.toNat, by rw [atI_pos one (by omega)]; exact PO.cf_some (by omega), .inl (.inl (by omega)), h⟩
      · rw [e3, List.nil_append, List.filter_eq_self.mpr (fun _ _ => rfl)]
        refine law_trim_L.mpr ⟨by simp; omega, ?_⟩
        have es : PO.trm ((rngI 1 one.length).map fun k => k * PO.cf one k.toNat) = slp one := rfl
        rw [es]
        simp [ss]
        (repeat' (first | exact hD | apply And.intro)) <;> first | exact z (by omega) | omega
    apply seq_to
    · intro D' hD
      simp
      exact ⟨by omega, by omega, big yb (by decide), hD⟩
    have ed := PO.dv_whole t1 yt yy
    apply seq_to
    · intro D' hD
      simp [ed, s1]
      (repeat' (first | exact hD | exact big yb (by decide) | exact PO.tr_pml _ _ | exact yn | apply And.intro)) <;> first | exact z (by omega) | omega
    apply seq_all fun e => ∃ more : List Int, more.length ≤ 3 ∧ PO.Bd 2 more ∧ e = [some (.val ns), some (.val .src), some (.val (.int x)), some (.val (T one)), some (.val (T other)), some (.val (T by')), some (.val (.str (shown (.lst [T one, T other])))), some (.val (.int u)), some (.val (T (PO.pml one other))), some (.val (T (PO.pml one by'))), some (.val (T more)), c11, c12, c13, c14, c15]
    · intro D' hD
      simp
      refine ⟨z (by omega), z (by omega), z (by omega), z (by omega), z (by omega), by decide, fun r r0 r1 => ?_⟩
      have hr : r = 0 ∨ r = 1 ∨ r = 2 ∨ r = 3 := by omega
      rcases hr with rfl | rfl | rfl | rfl
      · exact ⟨_, rfl, rfl, hD _ ⟨[1], by decide, PO.Bd.of (by decide), rfl⟩⟩
      · exact ⟨_, rfl, rfl, hD _ ⟨[0, 1], by decide, PO.Bd.of (by decide), rfl⟩⟩
      · exact ⟨_, rfl, rfl, hD _ ⟨[0, 0, 2], by decide, PO.Bd.of (by decide), rfl⟩⟩
      · exact ⟨_, rfl, rfl, hD _ ⟨[-1], by decide, PO.Bd.of (by decide), rfl⟩⟩
    rintro _ ⟨more, lm, bm, rfl⟩
    apply seq_to (env' := [some (.val ns), some (.val .src), some (.val (.int x)), some (.val (T one)), some (.val (T other)), some (.val (T by')), some (.val (.str (shown (.lst [T one, T other])))), some (.val (.int u)), some (.val (T (PO.pml one other))), some (.val (T (PO.pml one by'))), some (.val (T more)), some (Ow (List.replicate (max (PO.pml one by').length more.length) (0 : Int))), c12, c13, c14, c15])
    · intro D' hD
      simp [lst1]
      rw [rep_Ow, rep_cl, show (max ((PO.pml one by').length : Int) (more.length : Int)).toNat = max (PO.pml one by').length more.length by omega]
      exact ⟨z (by omega), by rw [sizeLine_eq]; omega, rfl, hD⟩
    have rep0 : ∀ n k, PO.cf (List.replicate n (0 : Int)) k = 0 := fun n k => by
      unfold PO.cf
      rw [List.getElem?_replicate]
      split <;> rfl
    apply seq_all fun e => ∃ (v : List Int) (c12 c13 : Option O), v.length = max (PO.pml one by').length more.length ∧ (∀ k, PO.cf v k = PO.cf (PO.pml one by') k) ∧ e = [some (.val ns), some (.val .src), some (.val (.int x)), some (.val (T one)), some (.val (T other)), some (.val (T by')), some (.val (.str (shown (.lst [T one, T other])))), some (.val (.int u)), some (.val (T (PO.pml one other))), some (.val (T (PO.pml one by'))), some (.val (T more)), some (Ow v), c12, c13, c14, c15]
    · intro D' hD
      simp
      refine loop_add _ 0 _ _ _ (by rw [List.length_replicate]; omega) (by rw [List.length_replicate]; omega) fun v c12 c13 h1 h2 => hD _ ⟨v, c12, c13, by rw [h1, List.length_replicate], fun k => by rw [h2, rep0]; simp, rfl⟩
    rintro _ ⟨v, c12, c13, lv, hv, rfl⟩
    apply seq_all fun e => ∃ (v : List Int) (c12 c13 : Option O), v.length ≤ 14 ∧ PO.Bd 8000002 v ∧ e = [some (.val ns), some (.val .src), some (.val (.int x)), some (.val (T one)), some (.val (T other)), some (.val (T by')), some (.val (.str (shown (.lst [T one, T other])))), some (.val (.int u)), some (.val (T (PO.pml one other))), some (.val (T (PO.pml one by'))), some (.val (T more)), some (Ow v), c12, c13, c14, c15]
    · intro D' hD
      simp
      refine loop_add _ 0 _ _ _ (by omega) (by omega) fun v' c12 c13 h1 h2 => hD _ ⟨v', c12, c13, by omega, fun k => ?_, rfl⟩
      have hb := bw k
      have hm := bm k
      rw [h2, hv]
      simp
      omega
    clear hv lv v c12 c13
    rintro _ ⟨v, c12, c13, lv, bv, rfl⟩
    obtain ⟨late, hlate⟩ : ∃ late, late = PO.trm v := ⟨_, rfl⟩
    have ll : late.length ≤ 14 := by rw [hlate]; exact Nat.le_trans (PO.trm_length_le v) lv
    have bl : PO.Bd 8000002 late := by rw [hlate]; exact bv.trm
    have tl : PO.Tr late := by rw [hlate]; exact PO.tr_trm v
    apply seq_to (env' := [some (.val ns), some (.val .src), some (.val (.int x)), some (.val (T one)), some (.val (T other)), some (.val (T by')), some (.val (.str (shown (.lst [T one, T other])))), some (.val (.int u)), some (.val (T (PO.pml one other))), some (.val (T (PO.pml one by'))), some (.val (T more)), some (.val (T late)), c12, c13, c14, c15])
    · intro D' hD
      simp
      rw [← hlate]
      exact ⟨by omega, hD⟩
    apply seq_all fun e => ∃ c14 : Option O, e = [some (.val ns), some (.val .src), some (.val (.int x)), some (.val (T one)), some (.val (T other)), some (.val (T by')), some (.val (.str (shown (.lst [T one, T other])))), some (.val (.int u)), some (.val (T (PO.pml one other))), some (.val (T (PO.pml one by'))), some (.val (T more)), some (.val (T late)), c12, c13, c14, c15]
    · intro D' hD
      simp
      refine ⟨z (by omega), b2_step yt yb yn ya yl tl (big7 bl (by decide)) ll ?_⟩
      simp
      refine b2_step yt yb yn ya yl t1 (big7 b1 (by decide)) (by omega) ?_
      simp
      refine b2_step yt yb yn ya yl (PO.tr_pml _ _) (big7 bp (by decide)) (by omega) ?_
      simp
      exact hD _ ⟨_, rfl⟩
    clear c14
    rintro _ ⟨c14, rfl⟩
    apply seq_all fun e => ∃ (n : Nat) (c12 : Option O), one.length ≤ n ∧ n ≤ 10 ∧ e = [some (.val ns), some (.val .src), some (.val (.int x)), some (.val (T one)), some (.val (T other)), some (.val (T by')), some (.val (.str (shown (.lst [T one, T other])))), some (.val (.int u)), some (.val (T (PO.pml one other))), some (.val (T (PO.pml one by'))), some (.val (T more)), some (.val (T late)), c12, c13, c14, some (.val (T (wos one n)))]
    · intro D' hD
      simp [rng_I]
      refine ⟨by decide, fun r r0 r1 => ⟨in62_of (by omega) (by omega), ?_⟩⟩
      refine lcD_typed (α := Int) (β := Int) (fun _ => true) (fun k => PO.ev one k) _ [] (fun k hk R R' h => ?_) (by simp; rw [sizeLine_eq]; omega) fun os e1 e2 e3 e4 e5 => ?_
      · rw [mem_rngI] at hk
        simp at h ⊢
        exact ⟨by omega, by omega, h⟩
      · refine ⟨noLsts_of e4, ?_⟩
        rw [e2, List.nil_append, List.filter_eq_self.mpr (fun _ _ => rfl)]
        have ew : (rngI 0 ((one.length : Int) + r)).map (fun k => PO.ev one k) = wos one (one.length + r.toNat) := by
          unfold rngI wos
          rw [List.map_map, show ((one.length : Int) + r - 0).toNat = one.length + r.toNat by omega]
          apply List.map_congr_left
          intro i _
          simp
        rw [ew]
        exact hD _ ⟨_, _, by omega, by omega, rfl⟩
    clear c12
    rintro _ ⟨n, c12, n0, n1, rfl⟩
    simp
    refine by_worths_of n0 (by omega) t1 ?_
    simp [s1, s2]
    (repeat' (first | exact ih _ _ _ _ _ _ _ _ _ _ _ _ _ _ | apply And.intro)) <;> first | exact z (by omega) | omega
theorem run_law : ∀ ds Q E, fs_law ds Q E → w_law (startD N_law ds) { nx := fun _ => Q (.val .non), rt := Q } (fun x _ => E x) := by
  rintro _ Q E ⟨ns, rfl, hl, hq⟩
  simp [w_law, N_law, rng_I]
  refine ⟨by rw [sizeLine_eq]; omega, in62_of (by decide) (by decide), loop_law (fun c2 c3 c4 c5 c6 c7 c8 c9 c10 c11 c12 c13 c14 c15 => ?_) _ _ _ _ _ _ _ _ _ _ _ _ _ _ _⟩
  rw [tup3, tup3]
  simp
  have e : PO.pml [1, -4, 3] [1, 0, -1] = [1, -4, 2, 4, -3] := by decide
  rw [e]
  have e2 : eqB (T [1, -4, 2, 4, -3]) (D.tup [D.int 1, D.int (-4), D.int 2, D.int 4, D.int (-3)]) = true := by simp [T_def]
  rw [e2]
  exact ⟨by rw [sizeLine_eq]; omega, PO.Bd.of (by decide), by rw [sizeLine_eq]; omega, hq⟩
theorem law_true (ns : List Int) (h : ns.length ≤ 63) : fs_law [.scr ns] (fun o => o = .val (.bl true)) (fun _ => False) := ⟨ns, rfl, h, rfl⟩
def top (i : Nat) : Stmt := PySem.Challenge.pw_covernets_k48_whole_polynomials.main.body.getD i (.Pass ⟨0, 0, 0, 0⟩)
theorem sc__law_source : FnScope ["script", "mixed", "cell"] ["script"] (defScope (top 11)) := ⟨rfl, rfl, rfl, by decide +kernel, rfl, by decide +kernel, by decide +kernel⟩
theorem sc__law_pick : FnScope ["source", "many", "left", "mixed"] ["source", "many"] (defScope (top 12)) := ⟨rfl, rfl, rfl, by decide +kernel, rfl, by decide +kernel, by decide +kernel⟩
theorem sc__law_of : FnScope N__law_of ["source", "some"] (defScope (top 13)) := ⟨rfl, rfl, rfl, by decide +kernel, rfl, by decide +kernel, by decide +kernel⟩
theorem sc__law_trim : FnScope N__law_trim ["numbers"] (defScope (top 14)) := ⟨rfl, rfl, rfl, by decide +kernel, rfl, by decide +kernel, by decide +kernel⟩
theorem sc__law_poly : FnScope N__law_poly ["source", "most"] (defScope (top 18)) := ⟨rfl, rfl, rfl, by decide +kernel, rfl, by decide +kernel, by decide +kernel⟩
theorem sc__law_poly_times : FnScope N__law_poly_times ["one", "other"] (defScope (top 15)) := ⟨rfl, rfl, rfl, by decide +kernel, rfl, by decide +kernel, by decide +kernel⟩
theorem sc_polynomial_worth : FnScope N_polynomial_worth ["poly", "u"] (defScope (top 6)) := ⟨rfl, rfl, rfl, by decide +kernel, rfl, by decide +kernel, by decide +kernel⟩
theorem sc_trimmed : FnScope N_trimmed ["numbers"] (defScope (top 4)) := ⟨rfl, rfl, rfl, by decide +kernel, rfl, by decide +kernel, by decide +kernel⟩
theorem sc_polynomial_times : FnScope N_polynomial_times ["one", "other"] (defScope (top 5)) := ⟨rfl, rfl, rfl, by decide +kernel, rfl, by decide +kernel, by decide +kernel⟩
theorem sc__law_worth : FnScope N__law_worth ["poly", "u"] (defScope (top 16)) := ⟨rfl, rfl, rfl, by decide +kernel, rfl, by decide +kernel, by decide +kernel⟩
theorem sc_polynomial_slope : FnScope N_polynomial_slope ["poly"] (defScope (top 7)) := ⟨rfl, rfl, rfl, by decide +kernel, rfl, by decide +kernel, by decide +kernel⟩
theorem sc_polynomial_divided : FnScope N_polynomial_divided ["one", "other"] (defScope (top 8)) := ⟨rfl, rfl, rfl, by decide +kernel, rfl, by decide +kernel, by decide +kernel⟩
theorem sc__law_told : FnScope N__law_told ["one", "other"] (defScope (top 19)) := ⟨rfl, rfl, rfl, by decide +kernel, rfl, by decide +kernel, by decide +kernel⟩
theorem sc__law_quotient : FnScope N__law_quotient ["one", "other"] (defScope (top 17)) := ⟨rfl, rfl, rfl, by decide +kernel, rfl, by decide +kernel, by decide +kernel⟩
theorem sc_polynomial_by_worths : FnScope N_polynomial_by_worths ["worths"] (defScope (top 9)) := ⟨rfl, rfl, rfl, by decide +kernel, rfl, by decide +kernel, by decide +kernel⟩
theorem sc_law : FnScope N_law ["script"] (defScope (top 20)) := ⟨rfl, rfl, rfl, by decide +kernel, rfl, by decide +kernel, by decide +kernel⟩
section
variable {P : Program} {w : World} {K : PySem.W.Frag} {mg : Str → Option Value} {base : Heap} {f : Addr} {fd : FuncData}
theorem fn__law_source (F : FunD K "_law_source" "_law_source" (defArgs (top 11)) (defBody (top 11)) (defScope (top 11)) [] [] f fd) (hm : mg "_law_source" = some (.ref f)) (m_int : mg "int" = none) (m_abs : mg "abs" = none) : Fn P w K mg base 1 "_law_source" ["script"] fSrc :=
  fn_hand F hm (F.bindsN fun _ _ _ _ _ _ us hl => match us, hl with | [_], _ => rfl) sc__law_source (fun ds Q E h => by obtain ⟨_, rfl, _⟩ := h; rfl) (fun cdv A outer s H E G =>
    pss_cons (ps_set (i := 1) sc__law_source.nd rfl (Or.inl rfl) pe_int)
    (pss_cons (ps_for passes_cx rfl (pi_list (pv 0)) (pg_name (i := 2) sc__law_source.nd rfl (Or.inl rfl))
      (pss_one (ps_set (i := 1) sc__law_source.nd rfl (Or.inl rfl) (pe_op op_mod (pe_callTy call_int1 rfl m_int bt_int (pa_cons (pe_op op_add (pe_op op_add (pe_op op_mul (pv 1) pe_int) (pe_op op_mul (pv 2) pe_int)) pe_int) pa_nil)) pe_int))))
    (pss_one (ps_ret (pe_disp (pps_cons pe_str (pe_revA (pe_lc (own := [("cell", 2)]) (g := gName 2) (tt := tYes) rfl sc__law_source.nd (pi_list (pv 0)) (blkOk_by (N := ["script", "mixed", "cell"]) (sc := defScope (top 11)) (by decide +kernel)) (fun _ _ _ _ _ => pg_name (i := 2) sc__law_source.nd rfl (Or.inl rfl)) (fun _ _ _ _ _ => pts_nil) (fun _ _ _ _ _ => pe_callB call_abs (by rfl) m_abs bt_abs (pa_cons (pv 2) pa_nil))))
      (pps_cons pe_str pe_int (pps_cons pe_str (pv 1) (pps_cons pe_str pe_int pps_nil)))) rfl rfl (by decide) (by decide)))))) src_run src_lift
theorem fn__law_pick (F : FunD K "_law_pick" "_law_pick" (defArgs (top 12)) (defBody (top 12)) (defScope (top 12)) [] [] f fd) (hm : mg "_law_pick" = some (.ref f)) (m_int : mg "int" = none) (m_max : mg "max" = none) (m_len : mg "len" = none) : Fn P w K mg base 1 "_law_pick" ["source", "many"] fPick :=
  fn_hand F hm (F.bindsN fun _ _ _ _ _ _ us hl => match us, hl with | [_, _], _ => rfl) sc__law_pick (fun ds Q E h => by obtain ⟨_, rfl, _⟩ := h; rfl) (fun cdv A outer s H E G => by
    have hu := Nat.lt_of_le_of_lt (Nat.add_le_add_left (show 1 ≤ 64 by decide) _) G.room.units
    have nsl : ∀ {z : Str} {j : Nat} {p : Pos}, NoSl (.Constant (.str z) j p) := fun _ _ => rfl
    have gs : ∀ {z : Str} {p p1 p2 : Pos} {j : Nat}, PE (cxOf (L2.CX P w) P w K mg base ["source", "many", "left", "mixed"] "_law_pick" (defScope (top 12)) f cdv A outer s H E) (.Subscript (.Name "source" p) (.Constant (.str z) j p1) p2) (gS z) := pe_dget hu (pv 0) pe_str nsl
    exact pss_cons (ps_while passes_cx (PW.pt (pw_and (pt_cmpR op_gt (pv 1) pe_int (nomark _)) (pw_and (pt_cmpR op_lt gs pe_int (nomark _)) (pw_and1 (pt_cmpR op_gt (pe_callB call_len rfl m_len bt_len (pa_cons gs pa_nil)) pe_int (nomark _))))))
        (pss_one (ps_dput hu (pv 0) pe_str (pe_bm0 PySem.F.plainAttrs_list PySem.F.slot_list_pop PySem.F.type_list_pop mt_pop gs) rfl)))
      (pss_cons (ps_set (i := 2) sc__law_pick.nd rfl (Or.inl rfl) gs)
      (pss_cons (ps_if (PW.pt (pw_or (pt_cmpR op_lt (pv 1) pe_int (nomark _)) (pw_or1 (pt_cmpR op_gt (pv 2) pe_int (nomark _)))))
        (pss_cons (ps_dput hu (pv 0) pe_str (pe_op op_fdivW (pv 2) (pe_callB (call_max2 rfl) rfl m_max bt_max (pa_cons pe_int (pa_cons (pv 1) pa_nil)))) rfl)
          (pss_one (ps_ret (pe_op op_mod (pe_callTy call_int1 rfl m_int bt_int (pa_cons (pv 2) pa_nil)) (pe_callB (call_max2 rfl) rfl m_max bt_max (pa_cons pe_int (pa_cons (pv 1) pa_nil))))))) pss_nil)
      (pss_cons (ps_dput hu (pv 0) pe_str (pe_op op_add gs pe_int) rfl)
      (pss_cons (ps_set (i := 3) sc__law_pick.nd rfl (Or.inl rfl) (pe_op op_mod (pe_callTy call_int1 rfl m_int bt_int (pa_cons (pe_op op_add gs (pe_op op_mul gs pe_int)) pa_nil)) pe_int))
      (pss_cons (ps_set (i := 3) sc__law_pick.nd rfl (Or.inl rfl) (pe_op op_mod (pe_callTy call_int1 rfl m_int bt_int (pa_cons (pe_op op_add (pe_op op_mul (pv 3) (pv 3)) (pe_op op_mul gs pe_int)) pa_nil)) pe_int))
      (pss_cons (ps_dput hu (pv 0) pe_str (pv 3) rfl)
      (pss_one (ps_ret (pe_op op_mod (pe_callTy call_int1 rfl m_int bt_int (pa_cons (pe_op op_fdivW (pv 3) pe_int) pa_nil)) (pv 1))))))))))) pick_run pick_lift
theorem fn__law_of (F : FunD K "_law_of" "_law_of" (defArgs (top 13)) (defBody (top 13)) (defScope (top 13)) [] [] f fd) (hm : mg "_law_of" = some (.ref f)) (c__law_pick : Fn P w K mg base 1 "_law_pick" ["source", "many"] fs__law_pick) (m_len : mg "len" = none) : Fn P w K mg base 2 "_law_of" ["source", "some"] fs__law_of :=
  fn_mk (k := 1) F hm (F.bindsN fun _ _ _ _ _ _ us hl => match us, hl with | [_, _], _ => rfl) sc__law_of len__law_of (fun cdv A outer s H E G =>
    (show DSs _ _ (defBody (top 13)) w__law_of from dss_one (ds_ret (de_ix ix_seq od_ix (dv 1) (de_call (c__law_pick.mono (by decide)) G takes_cx (da_cons (dv 0) (da_cons (de_blt call_lenD' cd_len m_len bt_len (da_cons (dv 1) (da_nil))) (da_nil)))))))) run__law_of
theorem fn__law_trim (F : FunD K "_law_trim" "_law_trim" (defArgs (top 14)) (defBody (top 14)) (defScope (top 14)) [] [] f fd) (hm : mg "_law_trim" = some (.ref f)) (m_list : mg "list" = none) (m_tuple : mg "tuple" = none) : Fn P w K mg base 1 "_law_trim" ["numbers"] fs__law_trim :=
  fn_mk (k := 0) F hm (F.bindsN fun _ _ _ _ _ _ us hl => match us, hl with | [_], _ => rfl) sc__law_trim len__law_trim (fun cdv A outer s H E G =>
    (show DSs _ _ (defBody (top 14)) w__law_trim from dss_cons (ds_set (i := 1) sc__law_trim.nd (de_ty call_list_of cd_list m_list bt_list (da_cons (dv 0) (da_nil))))
    (dss_cons (ds_while passes_cx (dt_w (dw_and (dt_cmp (op_neD G.room.units) od_ne (dv 1) (de_lst (da_nil)) (nomark _)) (dw_and1 (dt_cmp (op_eqD G.room.units) od_eq (de_ix ix_seq od_ix (dv 1) (de_un un_neg ud_neg (de_int))) (de_int) (nomark _))))) (dss_one (ds_set (i := 1) sc__law_trim.nd (de_slice (dv 1) (do_no) (do_so (de_un un_neg ud_neg (de_int)))))))
    (dss_one (ds_ret (de_ty call_tuple_of cd_tuple m_tuple bt_tuple (da_cons (dv 1) (da_nil)))))))) run__law_trim
theorem fn__law_poly (F : FunD K "_law_poly" "_law_poly" (defArgs (top 18)) (defBody (top 18)) (defScope (top 18)) [] [] f fd) (hm : mg "_law_poly" = some (.ref f)) (c__law_of : Fn P w K mg base 2 "_law_of" ["source", "some"] fs__law_of) (c__law_pick : Fn P w K mg base 1 "_law_pick" ["source", "many"] fs__law_pick) (c__law_trim : Fn P w K mg base 1 "_law_trim" ["numbers"] fs__law_trim) (m_range : mg "range" = none) : Fn P w K mg base 3 "_law_poly" ["source", "most"] fs__law_poly :=
  fn_mk (k := 2) F hm (F.bindsN fun _ _ _ _ _ _ us hl => match us, hl with | [_, _], _ => rfl) sc__law_poly len__law_poly (fun cdv A outer s H E G =>
    (show DSs _ _ (defBody (top 18)) w__law_poly from dss_cons (ds_par (i := 2) (j := 3) G.calm sc__law_poly.nd (da_cons (de_call (c__law_of.mono (by decide)) G takes_cx (da_cons (dv 0) (da_cons (de_lst (da_cons (de_int) (da_cons (de_int) (da_cons (de_int) (da_nil))))) (da_nil)))) (da_cons (de_lst (da_nil)) (da_nil))))
    (dss_cons (ds_forR passes_cx G.calm (di_range1r m_range (da_cons (de_call (c__law_pick.mono (by decide)) G takes_cx (da_cons (dv 0) (da_cons (de_bin op_addD od_add (dv 1) (de_int)) (da_nil)))) (da_nil))) (dg_nm 4 sc__law_poly.nd) (dss_one (ds_app (i := 3) (de_bin op_mulA od_mulA (de_bin op_sub od_sub (de_call (c__law_pick.mono (by decide)) G takes_cx (da_cons (dv 0) (da_cons (de_bin op_addD od_add (de_bin op_mulA od_mulA (de_int) (dv 2)) (de_int)) (da_nil)))) (dv 2)) (de_call (c__law_pick.mono (by decide)) G takes_cx (da_cons (dv 0) (da_cons (de_int) (da_nil))))))))
    (dss_one (ds_ret (de_call (c__law_trim.mono (by decide)) G takes_cx (da_cons (dv 3) (da_nil)))))))) run__law_poly
theorem fn__law_poly_times (F : FunD K "_law_poly_times" "_law_poly_times" (defArgs (top 15)) (defBody (top 15)) (defScope (top 15)) [] [] f fd) (hm : mg "_law_poly_times" = some (.ref f)) (c__law_trim : Fn P w K mg base 1 "_law_trim" ["numbers"] fs__law_trim) (m_enumerate : mg "enumerate" = none) (m_len : mg "len" = none) : Fn P w K mg base 2 "_law_poly_times" ["one", "other"] fs__law_poly_times :=
  fn_mk (k := 1) F hm (F.bindsN fun _ _ _ _ _ _ us hl => match us, hl with | [_, _], _ => rfl) sc__law_poly_times len__law_poly_times (fun cdv A outer s H E G =>
    (show DSs _ _ (defBody (top 15)) w__law_poly_times from dss_cons (ds_set (i := 2) sc__law_poly_times.nd (de_bin op_mulA od_mulA (de_lst (da_cons (de_int) (da_nil))) (de_bin op_addD od_add (de_blt call_lenD' cd_len m_len bt_len (da_cons (dv 0) (da_nil))) (de_blt call_lenD' cd_len m_len bt_len (da_cons (dv 1) (da_nil))))))
    (dss_cons (ds_for passes_cx G.calm (di_enum m_enumerate (dv 0)) (dg_tp G.calm (dgs_cons (dg_nm 3 sc__law_poly_times.nd) (dgs_cons (dg_nm 4 sc__law_poly_times.nd) dgs_nil))) (dss_one (ds_for passes_cx G.calm (di_enum m_enumerate (dv 1)) (dg_tp G.calm (dgs_cons (dg_nm 5 sc__law_poly_times.nd) (dgs_cons (dg_nm 6 sc__law_poly_times.nd) dgs_nil))) (dss_one (ds_ix (i := 2) (de_bin op_addD od_add (de_ix ix_seq od_ix (dv 2) (de_bin op_addD od_add (dv 3) (dv 5))) (de_bin op_mulA od_mulA (dv 4) (dv 6))) (de_bin op_addD od_add (dv 3) (dv 5)))))))
    (dss_one (ds_ret (de_call (c__law_trim.mono (by decide)) G takes_cx (da_cons (dv 2) (da_nil)))))))) run__law_poly_times
theorem fn_polynomial_worth (F : FunD K "polynomial_worth" "polynomial_worth" (defArgs (top 6)) (defBody (top 6)) (defScope (top 6)) [] [] f fd) (hm : mg "polynomial_worth" = some (.ref f)) (m_reversed : mg "reversed" = none) : Fn P w K mg base 1 "polynomial_worth" ["poly", "u"] fs_polynomial_worth :=
  fn_mk (k := 0) F hm (F.bindsN fun _ _ _ _ _ _ us hl => match us, hl with | [_, _], _ => rfl) sc_polynomial_worth len_polynomial_worth (fun cdv A outer s H E G =>
    (show DSs _ _ (defBody (top 6)) w_polynomial_worth from dss_cons (ds_set (i := 2) sc_polynomial_worth.nd (de_int))
    (dss_cons (ds_for passes_cx G.calm (di_rev m_reversed (dv 0)) (dg_nm 3 sc_polynomial_worth.nd) (dss_one (ds_set (i := 2) sc_polynomial_worth.nd (de_bin op_addD od_add (de_bin op_mulA od_mulA (dv 2) (dv 1)) (dv 3)))))
    (dss_one (ds_ret (dv 2)))))) run_polynomial_worth
theorem fn_trimmed (F : FunD K "trimmed" "trimmed" (defArgs (top 4)) (defBody (top 4)) (defScope (top 4)) [] [] f fd) (hm : mg "trimmed" = some (.ref f)) (m_len : mg "len" = none) (m_tuple : mg "tuple" = none) : Fn P w K mg base 1 "trimmed" ["numbers"] fs_trimmed :=
  fn_mk (k := 0) F hm (F.bindsN fun _ _ _ _ _ _ us hl => match us, hl with | [_], _ => rfl) sc_trimmed len_trimmed (fun cdv A outer s H E G =>
    (show DSs _ _ (defBody (top 4)) w_trimmed from dss_cons (ds_set (i := 1) sc_trimmed.nd (de_blt call_lenD' cd_len m_len bt_len (da_cons (dv 0) (da_nil))))
    (dss_cons (ds_while passes_cx (dt_w (dw_and (dt_cmp op_gt od_gt (dv 1) (de_int) (nomark _)) (dw_and1 (dt_cmp (op_eqD G.room.units) od_eq (de_ix ix_seq od_ix (dv 0) (de_bin op_sub od_sub (dv 1) (de_int))) (de_int) (nomark _))))) (dss_one (ds_aug (i := 1) sc_trimmed.nd iop_sub (od_I fun _ _ _ _ => .int _) (de_int))))
    (dss_one (ds_ret (de_ty call_tuple_of cd_tuple m_tuple bt_tuple (da_cons (de_slice (dv 0) (do_no) (do_so (dv 1))) (da_nil)))))))) run_trimmed
theorem fn_polynomial_times (F : FunD K "polynomial_times" "polynomial_times" (defArgs (top 5)) (defBody (top 5)) (defScope (top 5)) [] [] f fd) (hm : mg "polynomial_times" = some (.ref f)) (c_trimmed : Fn P w K mg base 1 "trimmed" ["numbers"] fs_trimmed) (m_enumerate : mg "enumerate" = none) (m_len : mg "len" = none) (m_max : mg "max" = none) : Fn P w K mg base 2 "polynomial_times" ["one", "other"] fs_polynomial_times :=
  fn_mk (k := 1) F hm (F.bindsN fun _ _ _ _ _ _ us hl => match us, hl with | [_, _], _ => rfl) sc_polynomial_times len_polynomial_times (fun cdv A outer s H E G =>
    (show DSs _ _ (defBody (top 5)) w_polynomial_times from dss_cons (ds_set (i := 2) sc_polynomial_times.nd (de_bin op_mulA od_mulA (de_lst (da_cons (de_int) (da_nil))) (de_blt (call_max2 G.calm) cd_max2 m_max bt_max (da_cons (de_int) (da_cons (de_bin op_sub od_sub (de_bin op_addD od_add (de_blt call_lenD' cd_len m_len bt_len (da_cons (dv 0) (da_nil))) (de_blt call_lenD' cd_len m_len bt_len (da_cons (dv 1) (da_nil)))) (de_int)) (da_nil))))))
    (dss_cons (ds_for passes_cx G.calm (di_enum m_enumerate (dv 0)) (dg_tp G.calm (dgs_cons (dg_nm 3 sc_polynomial_times.nd) (dgs_cons (dg_nm 4 sc_polynomial_times.nd) dgs_nil))) (dss_one (ds_for passes_cx G.calm (di_enum m_enumerate (dv 1)) (dg_tp G.calm (dgs_cons (dg_nm 5 sc_polynomial_times.nd) (dgs_cons (dg_nm 6 sc_polynomial_times.nd) dgs_nil))) (dss_one (ds_augIx (i := 2) iop_add (od_I fun _ _ _ _ => .int _) (de_bin op_addD od_add (dv 3) (dv 5)) (de_bin op_mulA od_mulA (dv 4) (dv 6)))))))
    (dss_one (ds_ret (de_call (c_trimmed.mono (by decide)) G takes_cx (da_cons (dv 2) (da_nil)))))))) run_polynomial_times
theorem fn__law_worth (F : FunD K "_law_worth" "_law_worth" (defArgs (top 16)) (defBody (top 16)) (defScope (top 16)) [] [] f fd) (hm : mg "_law_worth" = some (.ref f)) : Fn P w K mg base 1 "_law_worth" ["poly", "u"] fs__law_worth :=
  fn_mk (k := 0) F hm (F.bindsN fun _ _ _ _ _ _ us hl => match us, hl with | [_, _], _ => rfl) sc__law_worth len__law_worth (fun cdv A outer s H E G =>
    (show DSs _ _ (defBody (top 16)) w__law_worth from dss_cons (ds_set (i := 2) sc__law_worth.nd (de_int))
    (dss_cons (ds_for passes_cx G.calm (di_seq (de_rev (dv 0))) (dg_nm 3 sc__law_worth.nd) (dss_one (ds_set (i := 2) sc__law_worth.nd (de_bin op_addD od_add (de_bin op_mulA od_mulA (dv 2) (dv 1)) (dv 3)))))
    (dss_one (ds_ret (dv 2)))))) run__law_worth
theorem fn_polynomial_slope (F : FunD K "polynomial_slope" "polynomial_slope" (defArgs (top 7)) (defBody (top 7)) (defScope (top 7)) [] [] f fd) (hm : mg "polynomial_slope" = some (.ref f)) (c_trimmed : Fn P w K mg base 1 "trimmed" ["numbers"] fs_trimmed) (m_enumerate : mg "enumerate" = none) : Fn P w K mg base 2 "polynomial_slope" ["poly"] fs_polynomial_slope :=
  fn_mk (k := 1) F hm (F.bindsN fun _ _ _ _ _ _ us hl => match us, hl with | [_], _ => rfl) sc_polynomial_slope len_polynomial_slope (fun cdv A outer s H E G =>
    (show DSs _ _ (defBody (top 7)) w_polynomial_slope from dss_one (ds_ret (de_call (c_trimmed.mono (by decide)) G takes_cx (da_cons (de_slice (de_lc (own := [("k", 1), ("number", 2)]) G.calm sc_polynomial_slope.nd (di_enum m_enumerate (dv 0)) (blkOk_by (N := N_polynomial_slope) (sc := defScope (top 7)) (by decide +kernel)) (fun _ _ _ _ _ => (dg_tp G.calm (dgs_cons (dg_nm 1 sc_polynomial_slope.nd) (dgs_cons (dg_nm 2 sc_polynomial_slope.nd) dgs_nil)))) (fun _ _ _ _ _ => dts_nil) (fun _ _ _ _ _ => de_bin op_mulA od_mulA (dv 1) (dv 2))) (do_so (de_int)) (do_no)) (da_nil)))))) run_polynomial_slope
theorem fn_polynomial_divided (F : FunD K "polynomial_divided" "polynomial_divided" (defArgs (top 8)) (defBody (top 8)) (defScope (top 8)) [] [] f fd) (hm : mg "polynomial_divided" = some (.ref f)) (c_trimmed : Fn P w K mg base 1 "trimmed" ["numbers"] fs_trimmed) (m_enumerate : mg "enumerate" = none) (m_len : mg "len" = none) (m_list : mg "list" = none) (m_range : mg "range" = none) (x_NotOfIt : ExC mg K "NotOfIt") : Fn P w K mg base 2 "polynomial_divided" ["one", "other"] fs_polynomial_divided :=
  fn_mk (k := 1) F hm (F.bindsN fun _ _ _ _ _ _ us hl => match us, hl with | [_, _], _ => rfl) sc_polynomial_divided len_polynomial_divided (fun cdv A outer s H E G =>
    (show DSs _ _ (defBody (top 8)) w_polynomial_divided from dss_cons (ds_par (i := 2) (j := 3) G.calm sc_polynomial_divided.nd (da_cons (de_ty call_list_of cd_list m_list bt_list (da_cons (dv 0) (da_nil))) (da_cons (de_lst (da_nil)) (da_nil))))
    (dss_cons (ds_forR passes_cx G.calm (di_range1r m_range (da_cons (de_bin op_addD od_add (de_bin op_sub od_sub (de_blt call_lenD' cd_len m_len bt_len (da_cons (dv 0) (da_nil))) (de_blt call_lenD' cd_len m_len bt_len (da_cons (dv 1) (da_nil)))) (de_int)) (da_nil))) (dg_nm 4 sc_polynomial_divided.nd) (dss_cons (ds_set (i := 5) sc_polynomial_divided.nd (de_bin op_mulA od_mulA (de_ix ix_seq od_ix (dv 2) (dv 4)) (de_ix ix_seq od_ix (dv 1) (de_int))))
    (dss_cons (ds_app (i := 3) (dv 5))
    (dss_one (ds_for passes_cx G.calm (di_enum m_enumerate (dv 1)) (dg_tp G.calm (dgs_cons (dg_nm 6 sc_polynomial_divided.nd) (dgs_cons (dg_nm 7 sc_polynomial_divided.nd) dgs_nil))) (dss_one (ds_augIx (i := 2) iop_sub (od_I fun _ _ _ _ => .int _) (de_bin op_addD od_add (dv 4) (dv 6)) (de_bin op_mulA od_mulA (dv 5) (dv 7)))))))))
    (dss_cons (ds_if (dt_cmp (op_neD G.room.units) od_ne (de_lc (own := [("number", 5)]) G.calm sc_polynomial_divided.nd (di_seq (dv 2)) (blkOk_by (N := N_polynomial_divided) (sc := defScope (top 8)) (by decide +kernel)) (fun _ _ _ _ _ => (dg_nm 5 sc_polynomial_divided.nd)) (fun _ _ _ _ _ => dts_one (dt_cmp (op_neD G.room.units) od_ne (dv 5) (de_int) (nomark _))) (fun _ _ _ _ _ => dv 5)) (de_lst (da_nil)) (nomark _)) (dss_one (ds_raise x_NotOfIt G.calm takes_cx)) (dss_nil))
    (dss_one (ds_ret (de_call (c_trimmed.mono (by decide)) G takes_cx (da_cons (dv 3) (da_nil))))))))) run_polynomial_divided
theorem fn__law_told (F : FunD K "_law_told" "_law_told" (defArgs (top 19)) (defBody (top 19)) (defScope (top 19)) [] [] f fd) (hm : mg "_law_told" = some (.ref f)) (c_polynomial_divided : Fn P w K mg base 2 "polynomial_divided" ["one", "other"] fs_polynomial_divided) (k_NotOfIt : Catch mg K "NotOfIt" tb_NotOfIt) : Fn P w K mg base 3 "_law_told" ["one", "other"] fs__law_told :=
  fn_mk (k := 2) F hm (F.bindsN fun _ _ _ _ _ _ us hl => match us, hl with | [_, _], _ => rfl) sc__law_told len__law_told (fun cdv A outer s H E G =>
    (show DSs _ _ (defBody (top 19)) w__law_told from dss_one (ds_try k_NotOfIt rfl rfl takes_cx (fun _ _ _ tk_ po_ => dss_one (ds_ret (de_call (c_polynomial_divided.mono (by decide)) G.tr tk_ (da_cons (dv 0) (da_cons (dv 1) (da_nil)))))) (fun _ _ _ => dss_one (ds_ret (de_non)))))) run__law_told
theorem fn__law_quotient (F : FunD K "_law_quotient" "_law_quotient" (defArgs (top 17)) (defBody (top 17)) (defScope (top 17)) [] [] f fd) (hm : mg "_law_quotient" = some (.ref f)) (c__law_poly_times : Fn P w K mg base 2 "_law_poly_times" ["one", "other"] fs__law_poly_times) (c__law_trim : Fn P w K mg base 1 "_law_trim" ["numbers"] fs__law_trim) (m_len : mg "len" = none) (m_max : mg "max" = none) (m_range : mg "range" = none) (m_sum : mg "sum" = none) (m_tuple : mg "tuple" = none) : Fn P w K mg base 3 "_law_quotient" ["one", "other"] fs__law_quotient :=
  fn_mk (k := 2) F hm (F.bindsN fun _ _ _ _ _ _ us hl => match us, hl with | [_, _], _ => rfl) sc__law_quotient len__law_quotient (fun cdv A outer s H E G =>
    (show DSs _ _ (defBody (top 17)) w__law_quotient from dss_cons (ds_set (i := 2) sc__law_quotient.nd (de_lst (da_nil)))
    (dss_cons (ds_forR passes_cx G.calm (di_range1r m_range (da_cons (de_blt (call_max2 G.calm) cd_max2 m_max bt_max (da_cons (de_int) (da_cons (de_bin op_addD od_add (de_bin op_sub od_sub (de_blt call_lenD' cd_len m_len bt_len (da_cons (dv 0) (da_nil))) (de_blt call_lenD' cd_len m_len bt_len (da_cons (dv 1) (da_nil)))) (de_int)) (da_nil)))) (da_nil))) (dg_nm 3 sc__law_quotient.nd) (dss_cons (ds_set (i := 4) sc__law_quotient.nd (de_blt (cr_sum G.calm) cd_sum m_sum bt_sum (da_cons (de_lc (own := [("j", 5)]) G.calm sc__law_quotient.nd (di_range1 m_range (da_cons (dv 3) (da_nil))) (blkOk_by (N := N__law_quotient) (sc := defScope (top 17)) (by decide +kernel)) (fun _ _ _ _ _ => (dg_nm 5 sc__law_quotient.nd)) (fun _ _ _ _ _ => dts_one (dt_cmp op_lt od_lt (de_bin op_sub od_sub (dv 3) (dv 5)) (de_blt call_lenD' cd_len m_len bt_len (da_cons (dv 1) (da_nil))) (nomark _))) (fun _ _ _ _ _ => de_bin op_mulA od_mulA (de_ix ix_seq od_ix (dv 2) (dv 5)) (de_ix ix_seq od_ix (dv 1) (de_bin op_sub od_sub (dv 3) (dv 5))))) (da_nil))))
    (dss_one (ds_app (i := 2) (de_bin op_mulA od_mulA (de_bin op_sub od_sub (de_ix ix_seq od_ix (dv 0) (dv 3)) (dv 4)) (de_ix ix_seq od_ix (dv 1) (de_int)))))))
    (dss_one (ds_ret (de_if (dt_cmp (op_eqD G.room.units) od_eq (de_call (c__law_poly_times.mono (by decide)) G takes_cx (da_cons (dv 2) (da_cons (dv 1) (da_nil)))) (de_ty call_tuple_of cd_tuple m_tuple bt_tuple (da_cons (dv 0) (da_nil))) (nomark _)) (de_call (c__law_trim.mono (by decide)) G takes_cx (da_cons (dv 2) (da_nil))) (de_non))))))) run__law_quotient
theorem fn_polynomial_by_worths (F : FunD K "polynomial_by_worths" "polynomial_by_worths" (defArgs (top 9)) (defBody (top 9)) (defScope (top 9)) [] [] f fd) (hm : mg "polynomial_by_worths" = some (.ref f)) (c_trimmed : Fn P w K mg base 1 "trimmed" ["numbers"] fs_trimmed) (m_enumerate : mg "enumerate" = none) (m_len : mg "len" = none) (m_list : mg "list" = none) (m_range : mg "range" = none) (m_tuple : mg "tuple" = none) (m_zip : mg "zip" = none) : Fn P w K mg base 2 "polynomial_by_worths" ["worths"] fs_polynomial_by_worths :=
  fn_mk (k := 1) F hm (F.bindsN fun _ _ _ _ _ _ us hl => match us, hl with | [_], _ => rfl) sc_polynomial_by_worths len_polynomial_by_worths (fun cdv A outer s H E G =>
    (show DSs _ _ (defBody (top 9)) w_polynomial_by_worths from dss_cons (ds_par (i := 1) (j := 2) G.calm sc_polynomial_by_worths.nd (da_cons (de_ty call_list_of cd_list m_list bt_list (da_cons (dv 0) (da_nil))) (da_cons (de_lst (da_nil)) (da_nil))))
    (dss_cons (ds_forR passes_cx G.calm (di_range1r m_range (da_cons (de_blt call_lenD' cd_len m_len bt_len (da_cons (dv 0) (da_nil))) (da_nil))) (dg_nm 3 sc_polynomial_by_worths.nd) (dss_cons (ds_app (i := 2) (de_ix ix_seq od_ix (dv 1) (de_int)))
    (dss_one (ds_setLc (own := [("a", 8), ("b", 9)]) G.calm sc_polynomial_by_worths.nd (di_zs m_zip (de_slice (dv 1) (do_no) (do_so (de_un un_neg ud_neg (de_int)))) (de_slice (dv 1) (do_so (de_int)) (do_no))) (blkOk_by (N := N_polynomial_by_worths) (sc := defScope (top 9)) (by decide +kernel)) (fun _ _ _ _ _ => (dg_tp G.calm (dgs_cons (dg_nm 8 sc_polynomial_by_worths.nd) (dgs_cons (dg_nm 9 sc_polynomial_by_worths.nd) dgs_nil)))) (fun _ _ _ _ _ => dts_nil) (fun _ _ _ _ _ => de_bin op_fdivW od_fdivW (de_bin op_sub od_sub (dv 9) (dv 8)) (de_bin op_addD od_add (dv 3) (de_int))) (sw_true rfl rfl rfl (by decide +kernel))))))
    (dss_cons (ds_set (i := 4) sc_polynomial_by_worths.nd (de_tup (da_nil)))
    (dss_cons (ds_forR passes_cx G.calm (di_range3r m_range (da_cons (de_bin op_sub od_sub (de_blt call_lenD' cd_len m_len bt_len (da_cons (dv 2) (da_nil))) (de_int)) (da_cons (de_un un_neg ud_neg (de_int)) (da_cons (de_un un_neg ud_neg (de_int)) (da_nil))))) (dg_nm 3 sc_polynomial_by_worths.nd) (dss_cons (ds_set (i := 5) sc_polynomial_by_worths.nd (de_lst (da_cons (de_int) (da_star (dv 4) (da_nil)))))
    (dss_cons (ds_for passes_cx G.calm (di_enum m_enumerate (dv 4)) (dg_tp G.calm (dgs_cons (dg_nm 6 sc_polynomial_by_worths.nd) (dgs_cons (dg_nm 7 sc_polynomial_by_worths.nd) dgs_nil))) (dss_one (ds_augIx (i := 5) iop_sub (od_I fun _ _ _ _ => .int _) (dv 6) (de_bin op_mulA od_mulA (dv 3) (dv 7)))))
    (dss_cons (ds_augIx (i := 5) iop_add (od_I fun _ _ _ _ => .int _) (de_int) (de_ix ix_seq od_ix (dv 2) (dv 3)))
    (dss_one (ds_set (i := 4) sc_polynomial_by_worths.nd (de_ty call_tuple_of cd_tuple m_tuple bt_tuple (da_cons (dv 5) (da_nil)))))))))
    (dss_one (ds_ret (de_call (c_trimmed.mono (by decide)) G takes_cx (da_cons (dv 4) (da_nil)))))))))) run_polynomial_by_worths
theorem fn_law (F : FunD K "law" "law" (defArgs (top 20)) (defBody (top 20)) (defScope (top 20)) [] [] f fd) (hm : mg "law" = some (.ref f)) (c__law_source : Fn P w K mg base 1 "_law_source" ["script"] fs__law_source) (c__law_poly : Fn P w K mg base 3 "_law_poly" ["source", "most"] fs__law_poly) (c__law_of : Fn P w K mg base 2 "_law_of" ["source", "some"] fs__law_of) (c__law_pick : Fn P w K mg base 1 "_law_pick" ["source", "many"] fs__law_pick) (c__law_trim : Fn P w K mg base 1 "_law_trim" ["numbers"] fs__law_trim) (c__law_poly_times : Fn P w K mg base 2 "_law_poly_times" ["one", "other"] fs__law_poly_times) (c_polynomial_worth : Fn P w K mg base 1 "polynomial_worth" ["poly", "u"] fs_polynomial_worth) (c_polynomial_times : Fn P w K mg base 2 "polynomial_times" ["one", "other"] fs_polynomial_times) (c__law_worth : Fn P w K mg base 1 "_law_worth" ["poly", "u"] fs__law_worth) (c_polynomial_slope : Fn P w K mg base 2 "polynomial_slope" ["poly"] fs_polynomial_slope) (c_polynomial_divided : Fn P w K mg base 2 "polynomial_divided" ["one", "other"] fs_polynomial_divided) (c__law_told : Fn P w K mg base 3 "_law_told" ["one", "other"] fs__law_told) (c__law_quotient : Fn P w K mg base 3 "_law_quotient" ["one", "other"] fs__law_quotient) (c_polynomial_by_worths : Fn P w K mg base 2 "polynomial_by_worths" ["worths"] fs_polynomial_by_worths) (m_enumerate : mg "enumerate" = none) (m_len : mg "len" = none) (m_max : mg "max" = none) (m_range : mg "range" = none) (m_repr : mg "repr" = none) (m_tuple : mg "tuple" = none) : FnG P w K mg base (L2.CX P w) 4 f fd ["script"] (lift mg K 1 fs_law) :=
  fng_mk (k := 3) F sc_law (fun cdv A outer s H E G =>
    (show DSs _ _ (defBody (top 20)) w_law from dss_cons (ds_set (i := 1) sc_law.nd (de_call (c__law_source.mono (by decide)) G takes_cx (da_cons (dv 0) (da_nil))))
    (dss_cons (ds_forR passes_cx G.calm (di_range1r m_range (da_cons (de_int) (da_nil))) (dg_nm 2 sc_law.nd) (dss_cons (ds_parT (is := [3, 4]) G.calm (da_cons (de_call (c__law_poly.mono (by decide)) G takes_cx (da_cons (dv 1) (da_cons (de_int) (da_nil)))) (da_cons (de_call (c__law_poly.mono (by decide)) G takes_cx (da_cons (dv 1) (da_cons (de_int) (da_nil)))) (da_nil))) (dgs_cons (dg_nm 3 sc_law.nd) (dgs_cons (dg_nm 4 sc_law.nd) dgs_nil)))
    (dss_cons (ds_set (i := 5) sc_law.nd (de_bin op_addD od_add (de_tup (da_cons (de_call (c__law_of.mono (by decide)) G takes_cx (da_cons (dv 1) (da_cons (de_lst (da_cons (de_int) (da_cons (de_un un_neg ud_neg (de_int)) (da_nil)))) (da_nil)))) (da_nil))) (de_slice (dv 4) (do_so (de_int)) (do_no))))
    (dss_cons (ds_par3 (i := 5) (j := 6) (l := 7) G.calm sc_law.nd (da_cons (de_call (c__law_trim.mono (by decide)) G takes_cx (da_cons (dv 5) (da_nil))) (da_cons (de_blt (call_reprD G) cd_repr m_repr bt_repr (da_cons (de_lst (da_cons (dv 3) (da_cons (dv 4) (da_nil)))) (da_nil))) (da_cons (de_bin op_sub od_sub (de_call (c__law_pick.mono (by decide)) G takes_cx (da_cons (dv 1) (da_cons (de_int) (da_nil)))) (de_int)) (da_nil)))))
    (dss_cons (ds_set (i := 8) sc_law.nd (de_call (c__law_poly_times.mono (by decide)) G takes_cx (da_cons (dv 3) (da_cons (dv 4) (da_nil)))))
    (dss_cons (ds_if (dt_cmp (op_neD G.room.units) od_ne (de_blt (call_reprD G) cd_repr m_repr bt_repr (da_cons (de_lst (da_cons (de_call (c_polynomial_times.mono (by decide)) G takes_cx (da_cons (dv 3) (da_cons (dv 4) (da_nil)))) (da_cons (de_call (c_polynomial_worth.mono (by decide)) G takes_cx (da_cons (dv 3) (da_cons (dv 7) (da_nil)))) (da_nil)))) (da_nil))) (de_blt (call_reprD G) cd_repr m_repr bt_repr (da_cons (de_lst (da_cons (dv 8) (da_cons (de_call (c__law_worth.mono (by decide)) G takes_cx (da_cons (dv 3) (da_cons (dv 7) (da_nil)))) (da_nil)))) (da_nil))) (nomark _)) (dss_one (ds_ret (de_bl))) (dss_nil))
    (dss_cons (ds_if (dt_cmp (op_neD G.room.units) od_ne (de_blt (call_reprD G) cd_repr m_repr bt_repr (da_cons (de_call (c_polynomial_slope.mono (by decide)) G takes_cx (da_cons (dv 3) (da_nil))) (da_nil))) (de_blt (call_reprD G) cd_repr m_repr bt_repr (da_cons (de_call (c__law_trim.mono (by decide)) G takes_cx (da_cons (de_lc (own := [("k", 12)]) G.calm sc_law.nd (di_range2 m_range (da_cons (de_int) (da_cons (de_blt call_lenD' cd_len m_len bt_len (da_cons (dv 3) (da_nil))) (da_nil)))) (blkOk_by (N := N_law) (sc := defScope (top 20)) (by decide +kernel)) (fun _ _ _ _ _ => (dg_nm 12 sc_law.nd)) (fun _ _ _ _ _ => dts_nil) (fun _ _ _ _ _ => de_bin op_mulA od_mulA (dv 12) (de_ix ix_seq od_ix (dv 3) (dv 12)))) (da_nil))) (da_nil))) (nomark _)) (dss_one (ds_ret (de_bl))) (dss_nil))
    (dss_cons (ds_set (i := 9) sc_law.nd (de_call (c__law_poly_times.mono (by decide)) G takes_cx (da_cons (dv 3) (da_cons (dv 5) (da_nil)))))
    (dss_cons (ds_if (dt_cmp (op_neD G.room.units) od_ne (de_blt (call_reprD G) cd_repr m_repr bt_repr (da_cons (de_call (c_polynomial_divided.mono (by decide)) G takes_cx (da_cons (dv 9) (da_cons (dv 5) (da_nil)))) (da_nil))) (de_blt (call_reprD G) cd_repr m_repr bt_repr (da_cons (dv 3) (da_nil))) (nomark _)) (dss_one (ds_ret (de_bl))) (dss_nil))
    (dss_cons (ds_set (i := 10) sc_law.nd (de_ix ix_seq od_ix (de_lst (da_cons (de_tup (da_cons (de_int) (da_nil))) (da_cons (de_tup (da_cons (de_int) (da_cons (de_int) (da_nil)))) (da_cons (de_tup (da_cons (de_int) (da_cons (de_int) (da_cons (de_int) (da_nil))))) (da_cons (de_tup (da_cons (de_un un_neg ud_neg (de_int)) (da_nil))) (da_nil)))))) (de_call (c__law_pick.mono (by decide)) G takes_cx (da_cons (dv 1) (da_cons (de_int) (da_nil))))))
    (dss_cons (ds_set (i := 11) sc_law.nd (de_bin op_mulA od_mulA (de_lst (da_cons (de_int) (da_nil))) (de_blt (call_max2 G.calm) cd_max2 m_max bt_max (da_cons (de_blt call_lenD' cd_len m_len bt_len (da_cons (dv 9) (da_nil))) (da_cons (de_blt call_lenD' cd_len m_len bt_len (da_cons (dv 10) (da_nil))) (da_nil))))))
    (dss_cons (ds_for passes_cx G.calm (di_enum m_enumerate (dv 9)) (dg_tp G.calm (dgs_cons (dg_nm 12 sc_law.nd) (dgs_cons (dg_nm 13 sc_law.nd) dgs_nil))) (dss_one (ds_ix (i := 11) (de_bin op_addD od_add (de_ix ix_seq od_ix (dv 11) (dv 12)) (dv 13)) (dv 12))))
    (dss_cons (ds_for passes_cx G.calm (di_enum m_enumerate (dv 10)) (dg_tp G.calm (dgs_cons (dg_nm 12 sc_law.nd) (dgs_cons (dg_nm 13 sc_law.nd) dgs_nil))) (dss_one (ds_ix (i := 11) (de_bin op_addD od_add (de_ix ix_seq od_ix (dv 11) (dv 12)) (dv 13)) (dv 12))))
    (dss_cons (ds_set (i := 11) sc_law.nd (de_call (c__law_trim.mono (by decide)) G takes_cx (da_cons (dv 11) (da_nil))))
    (dss_cons (ds_for passes_cx G.calm (di_seq (de_tup (da_cons (dv 11) (da_cons (dv 3) (da_cons (dv 8) (da_nil)))))) (dg_nm 14 sc_law.nd) (dss_one (ds_if (dt_cmp (op_neD G.room.units) od_ne (de_blt (call_reprD G) cd_repr m_repr bt_repr (da_cons (de_call (c__law_told.mono (by decide)) G takes_cx (da_cons (dv 14) (da_cons (dv 5) (da_nil)))) (da_nil))) (de_blt (call_reprD G) cd_repr m_repr bt_repr (da_cons (de_call (c__law_quotient.mono (by decide)) G takes_cx (da_cons (dv 14) (da_cons (dv 5) (da_nil)))) (da_nil))) (nomark _)) (dss_one (ds_ret (de_bl))) (dss_nil))))
    (dss_cons (ds_set (i := 15) sc_law.nd (de_ty call_tuple_of cd_tuple m_tuple bt_tuple (da_cons (de_lc (own := [("k", 12)]) G.calm sc_law.nd (di_range1 m_range (da_cons (de_bin op_addD od_add (de_blt call_lenD' cd_len m_len bt_len (da_cons (dv 3) (da_nil))) (de_call (c__law_pick.mono (by decide)) G takes_cx (da_cons (dv 1) (da_cons (de_int) (da_nil))))) (da_nil))) (blkOk_by (N := N_law) (sc := defScope (top 20)) (by decide +kernel)) (fun _ _ _ _ _ => (dg_nm 12 sc_law.nd)) (fun _ _ _ _ _ => dts_nil) (fun _ _ _ _ _ => de_call (c__law_worth.mono (by decide)) G.blk takesF (da_cons (dv 3) (da_cons (dv 12) (da_nil))))) (da_nil))))
    (dss_one (ds_if (dt_w (dw_or (dt_cmp (op_neD G.room.units) od_ne (de_blt (call_reprD G) cd_repr m_repr bt_repr (da_cons (de_call (c_polynomial_by_worths.mono (by decide)) G takes_cx (da_cons (dv 15) (da_nil))) (da_nil))) (de_blt (call_reprD G) cd_repr m_repr bt_repr (da_cons (dv 3) (da_nil))) (nomark _)) (dw_or1 (dt_cmp (op_neD G.room.units) od_ne (de_blt (call_reprD G) cd_repr m_repr bt_repr (da_cons (de_lst (da_cons (dv 3) (da_cons (dv 4) (da_nil)))) (da_nil))) (dv 6) (nomark _))))) (dss_one (ds_ret (de_bl))) (dss_nil)))))))))))))))))))
    (dss_one (ds_ret (de_cmp (op_eqD G.room.units) od_eq (de_call (c_polynomial_times.mono (by decide)) G takes_cx (da_cons (de_tup (da_cons (de_int) (da_cons (de_un un_neg ud_neg (de_int)) (da_cons (de_int) (da_nil))))) (da_cons (de_tup (da_cons (de_int) (da_cons (de_int) (da_cons (de_un un_neg ud_neg (de_int)) (da_nil))))) (da_nil)))) (de_tup (da_cons (de_int) (da_cons (de_un un_neg ud_neg (de_int)) (da_cons (de_int) (da_cons (de_int) (da_cons (de_un un_neg ud_neg (de_int)) (da_nil))))))) (nomark _))))))) run_law
end
abbrev FnP (x : Str) (st : Stmt) : He.DefD := ⟨(x, none), x, x, defArgs st, defBody st, defScope st, [], []⟩
def dd__law_source : He.DefD := FnP "_law_source" (top 11)
def dd__law_pick : He.DefD := FnP "_law_pick" (top 12)
def dd__law_of : He.DefD := FnP "_law_of" (top 13)
def dd__law_trim : He.DefD := FnP "_law_trim" (top 14)
def dd__law_poly : He.DefD := FnP "_law_poly" (top 18)
def dd__law_poly_times : He.DefD := FnP "_law_poly_times" (top 15)
def dd_polynomial_worth : He.DefD := FnP "polynomial_worth" (top 6)
def dd_trimmed : He.DefD := FnP "trimmed" (top 4)
def dd_polynomial_times : He.DefD := FnP "polynomial_times" (top 5)
def dd__law_worth : He.DefD := FnP "_law_worth" (top 16)
def dd_polynomial_slope : He.DefD := FnP "polynomial_slope" (top 7)
def dd_polynomial_divided : He.DefD := FnP "polynomial_divided" (top 8)
def dd__law_told : He.DefD := FnP "_law_told" (top 19)
def dd__law_quotient : He.DefD := FnP "_law_quotient" (top 17)
def dd_polynomial_by_worths : He.DefD := FnP "polynomial_by_worths" (top 9)
def dd_law : He.DefD := FnP "law" (top 20)
def fn : List He.DefD := [dd__law_source, dd__law_pick, dd__law_of, dd__law_trim, dd__law_poly, dd__law_poly_times, dd_polynomial_worth, dd_trimmed, dd_polynomial_times, dd__law_worth, dd_polynomial_slope, dd_polynomial_divided, dd__law_told, dd__law_quotient, dd_polynomial_by_worths, dd_law]
def fa : List He.Fa := [.glo "_law_source", .glo "_law_pick", .glo "_law_of", .glo "_law_trim", .glo "_law_poly", .glo "_law_poly_times", .glo "polynomial_worth", .glo "trimmed", .glo "polynomial_times", .glo "_law_worth", .glo "polynomial_slope", .glo "polynomial_divided", .glo "_law_told", .glo "_law_quotient", .glo "polynomial_by_worths", .glo "law", .free "abs", .free "enumerate", .free "int", .free "len", .free "list", .free "max", .free "range", .free "repr", .free "reversed", .free "sum", .free "tuple", .free "zip", .glo "NotOfIt", .exc "NotOfIt", .exm "NotOfIt" "NotOfIt" true]
abbrev R : PySem.W.OpenRow := PySem.W.OpenLaw.row PySem.Challenge.rw_covernets_k48_whole_polynomials
abbrev hk : PySem.W.Hook := He.hookD 4 fa fn
def ob (s : PySem.W.SharedT) : He.AlD := He.obsDG 4 fa fn (HandSHeadRun.getT s)
theorem ob_eq (s : PySem.W.SharedT) : ob s = hk.obs s.abs := He.obsDG_eq (HandSHeadRun.getT_eq s)
def loose : List Str := (["trimmed", "polynomial_times", "polynomial_worth", "polynomial_slope", "polynomial_divided", "polynomial_by_worths", "_law_source", "_law_pick", "_law_of", "_law_trim", "_law_poly_times", "_law_worth", "_law_quotient", "_law_poly", "_law_told", "NetError", "NotOfIt"] : List Str)
theorem run (w : World) : HandSHeadRun.RunEq R (PySem.W.view R.prog [20]) hk ob 4000 loose w := by
  intro os
  kernel_rfl
theorem facts {P : Program} {w : World} {K : PySem.W.Frag} {h : Heap} {mg : Str → Option Value} {f : Addr} (X : K.In h) (G : h.Ns mainGlobals mg) (hfa : mg ("law" : Str) = some (.ref f)) (c : He.SaysD fa fn K) :
    ∃ fd : FuncData, (∀ (s : Shared) (v : Value), BindsTo s fd ⟨[v], []⟩ [("script", v)]) ∧ ∀ base : Heap, K.In base → base.Ns mainGlobals mg → FnG P w K mg base (L2.CX P w) 4 f fd ["script"] (lift mg K 1 fs_law) := by
  obtain ⟨fd__law_source, F__law_source⟩ := c.def_ 0 (d := dd__law_source) rfl
  have hm__law_source := He.glo_ok X G (c.fact 0 (f := .glo "_law_source") rfl)
  obtain ⟨fd__law_pick, F__law_pick⟩ := c.def_ 1 (d := dd__law_pick) rfl
  have hm__law_pick := He.glo_ok X G (c.fact 1 (f := .glo "_law_pick") rfl)
  obtain ⟨fd__law_of, F__law_of⟩ := c.def_ 2 (d := dd__law_of) rfl
  have hm__law_of := He.glo_ok X G (c.fact 2 (f := .glo "_law_of") rfl)
  obtain ⟨fd__law_trim, F__law_trim⟩ := c.def_ 3 (d := dd__law_trim) rfl
  have hm__law_trim := He.glo_ok X G (c.fact 3 (f := .glo "_law_trim") rfl)
  obtain ⟨fd__law_poly, F__law_poly⟩ := c.def_ 4 (d := dd__law_poly) rfl
  have hm__law_poly := He.glo_ok X G (c.fact 4 (f := .glo "_law_poly") rfl)
  obtain ⟨fd__law_poly_times, F__law_poly_times⟩ := c.def_ 5 (d := dd__law_poly_times) rfl
  have hm__law_poly_times := He.glo_ok X G (c.fact 5 (f := .glo "_law_poly_times") rfl)
  obtain ⟨fd_polynomial_worth, F_polynomial_worth⟩ := c.def_ 6 (d := dd_polynomial_worth) rfl
  have hm_polynomial_worth := He.glo_ok X G (c.fact 6 (f := .glo "polynomial_worth") rfl)
  obtain ⟨fd_trimmed, F_trimmed⟩ := c.def_ 7 (d := dd_trimmed) rfl
  have hm_trimmed := He.glo_ok X G (c.fact 7 (f := .glo "trimmed") rfl)
  obtain ⟨fd_polynomial_times, F_polynomial_times⟩ := c.def_ 8 (d := dd_polynomial_times) rfl
  have hm_polynomial_times := He.glo_ok X G (c.fact 8 (f := .glo "polynomial_times") rfl)
  obtain ⟨fd__law_worth, F__law_worth⟩ := c.def_ 9 (d := dd__law_worth) rfl
  have hm__law_worth := He.glo_ok X G (c.fact 9 (f := .glo "_law_worth") rfl)
  obtain ⟨fd_polynomial_slope, F_polynomial_slope⟩ := c.def_ 10 (d := dd_polynomial_slope) rfl
  have hm_polynomial_slope := He.glo_ok X G (c.fact 10 (f := .glo "polynomial_slope") rfl)
  obtain ⟨fd_polynomial_divided, F_polynomial_divided⟩ := c.def_ 11 (d := dd_polynomial_divided) rfl
  have hm_polynomial_divided := He.glo_ok X G (c.fact 11 (f := .glo "polynomial_divided") rfl)
  obtain ⟨fd__law_told, F__law_told⟩ := c.def_ 12 (d := dd__law_told) rfl
  have hm__law_told := He.glo_ok X G (c.fact 12 (f := .glo "_law_told") rfl)
  obtain ⟨fd__law_quotient, F__law_quotient⟩ := c.def_ 13 (d := dd__law_quotient) rfl
  have hm__law_quotient := He.glo_ok X G (c.fact 13 (f := .glo "_law_quotient") rfl)
  obtain ⟨fd_polynomial_by_worths, F_polynomial_by_worths⟩ := c.def_ 14 (d := dd_polynomial_by_worths) rfl
  have hm_polynomial_by_worths := He.glo_ok X G (c.fact 14 (f := .glo "polynomial_by_worths") rfl)
  obtain ⟨fd_law, F_law⟩ := c.def_ 15 (d := dd_law) rfl
  have hm_law := He.glo_ok X G (c.fact 15 (f := .glo "law") rfl)
  have m_abs := He.free_ok X G (c.fact 16 (f := .free "abs") rfl)
  have m_enumerate := He.free_ok X G (c.fact 17 (f := .free "enumerate") rfl)
  have m_int := He.free_ok X G (c.fact 18 (f := .free "int") rfl)
  have m_len := He.free_ok X G (c.fact 19 (f := .free "len") rfl)
  have m_list := He.free_ok X G (c.fact 20 (f := .free "list") rfl)
  have m_max := He.free_ok X G (c.fact 21 (f := .free "max") rfl)
  have m_range := He.free_ok X G (c.fact 22 (f := .free "range") rfl)
  have m_repr := He.free_ok X G (c.fact 23 (f := .free "repr") rfl)
  have m_reversed := He.free_ok X G (c.fact 24 (f := .free "reversed") rfl)
  have m_sum := He.free_ok X G (c.fact 25 (f := .free "sum") rfl)
  have m_tuple := He.free_ok X G (c.fact 26 (f := .free "tuple") rfl)
  have m_zip := He.free_ok X G (c.fact 27 (f := .free "zip") rfl)
  have x_NotOfIt : ExC mg K "NotOfIt" := ⟨_, He.glo_ok X G (c.fact 28 (f := .glo "NotOfIt") rfl), He.exc_ok (c.fact 29 (f := .exc "NotOfIt") rfl)⟩
  have k_NotOfIt : Catch mg K "NotOfIt" tb_NotOfIt := by
    refine ⟨_, He.glo_ok X G (c.fact 28 (f := .glo "NotOfIt") rfl), fun n b C hl hC => ?_⟩
    unfold tb_NotOfIt at hl
    by_cases q_NotOfIt : n = "NotOfIt"
    · subst q_NotOfIt
      have hl : some true = some b := hl
      cases hl
      have e := hC.symm.trans (He.glo_ok X G (c.fact 28 (f := .glo "NotOfIt") rfl))
      cases e
      exact He.exm_ok (c.fact 30 (f := .exm "NotOfIt" "NotOfIt" true) rfl)
    · have r_NotOfIt := beq_eq_false_iff_ne.mpr q_NotOfIt; simp only [List.lookup, r_NotOfIt] at hl; cases hl
  have e := hfa.symm.trans hm_law
  cases e
  have b := FunD.bindsA (ps := ["script"]) F_law fun _ _ _ _ _ _ us hl => match us, hl with | [_], _ => rfl
  refine ⟨fd_law, fun s v => b s [v] rfl, fun base _ _ => ?_⟩
  have c__law_source := fn__law_source (P := P) (w := w) (base := base) F__law_source hm__law_source m_int m_abs
  have c__law_pick := fn__law_pick (P := P) (w := w) (base := base) F__law_pick hm__law_pick m_int m_max m_len
  have c__law_of := fn__law_of (P := P) (w := w) (base := base) F__law_of hm__law_of c__law_pick m_len
  have c__law_trim := fn__law_trim (P := P) (w := w) (base := base) F__law_trim hm__law_trim m_list m_tuple
  have c__law_poly := fn__law_poly (P := P) (w := w) (base := base) F__law_poly hm__law_poly c__law_of c__law_pick c__law_trim m_range
  have c__law_poly_times := fn__law_poly_times (P := P) (w := w) (base := base) F__law_poly_times hm__law_poly_times c__law_trim m_enumerate m_len
  have c_polynomial_worth := fn_polynomial_worth (P := P) (w := w) (base := base) F_polynomial_worth hm_polynomial_worth m_reversed
  have c_trimmed := fn_trimmed (P := P) (w := w) (base := base) F_trimmed hm_trimmed m_len m_tuple
  have c_polynomial_times := fn_polynomial_times (P := P) (w := w) (base := base) F_polynomial_times hm_polynomial_times c_trimmed m_enumerate m_len m_max
  have c__law_worth := fn__law_worth (P := P) (w := w) (base := base) F__law_worth hm__law_worth 
  have c_polynomial_slope := fn_polynomial_slope (P := P) (w := w) (base := base) F_polynomial_slope hm_polynomial_slope c_trimmed m_enumerate
  have c_polynomial_divided := fn_polynomial_divided (P := P) (w := w) (base := base) F_polynomial_divided hm_polynomial_divided c_trimmed m_enumerate m_len m_list m_range x_NotOfIt
  have c__law_told := fn__law_told (P := P) (w := w) (base := base) F__law_told hm__law_told c_polynomial_divided k_NotOfIt
  have c__law_quotient := fn__law_quotient (P := P) (w := w) (base := base) F__law_quotient hm__law_quotient c__law_poly_times c__law_trim m_len m_max m_range m_sum m_tuple
  have c_polynomial_by_worths := fn_polynomial_by_worths (P := P) (w := w) (base := base) F_polynomial_by_worths hm_polynomial_by_worths c_trimmed m_enumerate m_len m_list m_range m_tuple m_zip
  have c_law := fn_law (P := P) (w := w) (base := base) F_law hm_law c__law_source c__law_poly c__law_of c__law_pick c__law_trim c__law_poly_times c_polynomial_worth c_polynomial_times c__law_worth c_polynomial_slope c_polynomial_divided c__law_told c__law_quotient c_polynomial_by_worths m_enumerate m_len m_max m_range m_repr m_tuple
  exact c_law
end DL
open PySem PySem.W PySem.Calls PyProof.Rows
theorem PySem.Challenge.cw_covernets_k48_whole_polynomials_holds : PySem.Challenge.rw_covernets_k48_whole_polynomials.Holds := by
  w_on; o_law
  refine HandSHeadRun.head_any (r := OpenLaw.row PySem.Challenge.rw_covernets_k48_whole_polynomials) (q := view (OpenLaw.row PySem.Challenge.rw_covernets_k48_whole_polynomials).prog [20]) (H := DL.hk) (ob := DL.ob) (M := 4000) (loose := DL.loose) (d := HandSHeadRun.topDef (OpenLaw.row PySem.Challenge.rw_covernets_k48_whole_polynomials).prog 20) (kwd := []) DL.ob_eq
    (by kernel_rfl) (fun s => by kernel_rfl) DL.run (by kernel_rfl) (by kernel_rfl) (by kernel_rfl) (by rfl) (by first | assumption | decide +kernel) (by decide +kernel) ⟨rfl, rfl, rfl, rfl, rfl, by decide +kernel⟩ ?hw ?hc
  case hw => w_witness2
  case hc =>
    refine DL.walk_D (l := PySem.Challenge.rw_covernets_k48_whole_polynomials) (n := 63) (k := 4) (x := "script") rfl (by decide) (by kernel_rfl) ⟨rfl, by decide, by decide⟩ ?F
    intro w mg fa h Y G hmg0
    obtain ⟨K, KX, c⟩ := Y
    have hmg : mg ("law" : PySem.Str) = some (.ref fa) := by
      have e : (HandSHeadRun.topDef (OpenLaw.row PySem.Challenge.rw_covernets_k48_whole_polynomials).prog 20).name = ("law" : PySem.Str) := by kernel_rfl
      rw [← e]
      exact hmg0
    obtain ⟨fd, hb, hF⟩ := DL.facts (P := (PySem.Challenge.rw_covernets_k48_whole_polynomials).prog) (w := w) KX G hmg c
    exact ⟨K, fd, DL.fs_law, KX, hb, fun ns hl => DL.law_true ns hl, hF⟩

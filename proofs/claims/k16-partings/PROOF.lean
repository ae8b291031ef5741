import PyProof.Rows.All
import Wide.All
import OpenK.AllK
import Wide.FinOn
import HandS.ForMost
import HandS.ForExc
import KE.KeyNested
import KE.KDictKeyed
import HandS.TupAny
import HandS.TupMul
import HandS.TupLe
import HandS.Wide
import HandS.Star
import HandS.Deep
import HandS.Conv
import HandS.Zip
import HandS.Style
import HandS.Flow
import HandS.Walk
import HandS.Defaults
import HandS.Ends
import HandS.Exc
import HandS.ExcOwn
import HandS.Words
import HandS.Small
import HandS.TryOnly
import HandS.Rev
import PyProof.ReprRoads
import KE.GoesMore
import KE.GoesEnum
import HandS.Iter
import HandS.SortInts
import KE.GoesZip
import KE.GoesEnumKw
import HandS.Head0
import HandS.Head1
import HandS.Head2
import HandS.HeadEnd
import HandS.HeadHook1
import HandS.HeadHook2
import KE.KStateDown
import HandS.IsInst
import HandS.Strs
import HandS.SetKeys
import HandS.WordsDict
import HandS.TupLen
import KE.KDictPairs
import KE.KDictDisplayH
import PySem.Challenge.RW_covernets_k16_partings_and_ends
set_option Elab.async false
set_option linter.all false
set_option maxRecDepth 100000
set_option maxHeartbeats 4000000
/-! DBase -/
namespace DL
open PySem PySem.Spec PyProof.Rows L2

/-- a value with all that it holds -/
inductive D where
  | non | bl (b : Bool) | int (i : Int) | str (x : Str) | tup (xs : List D) | lst (xs : List D) | dct (t : Bool) (ks vs : List D) | src | scr (ns : List Int)
/-- a value, or lists and dicts that this def alone holds -/
inductive O where
  | val (d : D) | lst (os : List O) | dct (t : Bool) (ks : List D) (os : List O)
mutual
def O.d : O → D
  | .val d => d
  | .lst os => .lst (O.ds os)
  | .dct t ks os => .dct t ks (O.ds os)
def O.ds : List O → List D
  | [] => []
  | o :: os => o.d :: O.ds os
end
@[simp] theorem O.d_val (d : D) : (O.val d).d = d := by simp [O.d]
@[simp] theorem O.d_lst (os : List O) : (O.lst os).d = .lst (O.ds os) := by simp [O.d]
@[simp] theorem O.d_dct (t : Bool) (ks : List D) (os : List O) : (O.dct t ks os).d = .dct t ks (O.ds os) := by simp [O.d]
@[simp] theorem O.ds_nil : O.ds [] = [] := by simp [O.ds]
@[simp] theorem O.ds_cons (o : O) (os : List O) : O.ds (o :: os) = o.d :: O.ds os := by simp [O.ds]
theorem O.ds_map : ∀ os : List O, O.ds os = os.map O.d
  | [] => by simp
  | o :: os => by simp [O.ds_map os]
@[simp] theorem O.ds_vals (l : List D) : O.ds (l.map O.val) = l := by
  rw [O.ds_map, List.map_map]
  induction l with
  | nil => rfl
  | cons x r ih => simp [ih]
mutual
def noLst : D → Bool
  | .lst _ => false
  | .dct _ _ _ => false
  | .scr _ => false
  | .tup xs => noLsts xs
  | _ => true
def noLsts : List D → Bool
  | [] => true
  | x :: xs => noLst x && noLsts xs
end
@[simp] theorem noLst_non : noLst .non = true := by simp [noLst]
@[simp] theorem noLst_bl (b : Bool) : noLst (.bl b) = true := by simp [noLst]
@[simp] theorem noLst_int (i : Int) : noLst (.int i) = true := by simp [noLst]
@[simp] theorem noLst_str (i : Str) : noLst (.str i) = true := by simp [noLst]
@[simp] theorem noLst_src : noLst .src = true := by simp [noLst]
@[simp] theorem noLst_lst (xs : List D) : noLst (.lst xs) = false := by simp [noLst]
@[simp] theorem noLst_dct (t : Bool) (xs ys : List D) : noLst (.dct t xs ys) = false := by simp [noLst]
@[simp] theorem noLst_scr (xs : List Int) : noLst (.scr xs) = false := by simp [noLst]
@[simp] theorem noLst_tup (xs : List D) : noLst (.tup xs) = noLsts xs := by simp [noLst]
@[simp] theorem noLsts_nil : noLsts [] = true := by simp [noLsts]
@[simp] theorem noLsts_cons (x : D) (xs : List D) : noLsts (x :: xs) = (noLst x && noLsts xs) := by simp [noLsts]
theorem noLsts_iff : ∀ xs : List D, noLsts xs = true ↔ ∀ x ∈ xs, noLst x = true
  | [] => by simp
  | x :: xs => by simp [noLsts_iff xs]
@[simp] theorem noLsts_append (xs ys : List D) : noLsts (xs ++ ys) = (noLsts xs && noLsts ys) := by
  induction xs with
  | nil => simp
  | cons x r ih => simp [ih, Bool.and_assoc]
mutual
def O.clean : O → Bool
  | .val d => noLst d
  | .lst os => O.cleans os
  | .dct _ _ os => O.cleans os
def O.cleans : List O → Bool
  | [] => true
  | o :: os => o.clean && O.cleans os
end
@[simp] theorem O.clean_val (d : D) : (O.val d).clean = noLst d := by simp [O.clean]
@[simp] theorem O.clean_lst (os : List O) : (O.lst os).clean = O.cleans os := by simp [O.clean]
@[simp] theorem O.clean_dct (t : Bool) (ks : List D) (os : List O) : (O.dct t ks os).clean = O.cleans os := by simp [O.clean]
@[simp] theorem O.cleans_nil : O.cleans [] = true := by simp [O.cleans]
@[simp] theorem O.cleans_cons (o : O) (os : List O) : O.cleans (o :: os) = (o.clean && O.cleans os) := by simp [O.cleans]
theorem O.cleans_iff : ∀ os : List O, O.cleans os = true ↔ ∀ o ∈ os, o.clean = true
  | [] => by simp
  | o :: os => by simp [O.cleans_iff os]
@[simp] theorem O.cleans_append (xs ys : List O) : O.cleans (xs ++ ys) = (O.cleans xs && O.cleans ys) := by
  induction xs with
  | nil => simp
  | cons x r ih => simp [ih, Bool.and_assoc]

abbrev Zs := List (Addr × Addr)
def inZ (Z : Zs) (b : Addr) : Prop := ∃ p ∈ Z, b = p.1 ∨ b = p.2
def kD : Key → D
  | .inl i => .int i
  | .inr x => .str x
mutual
/-- a tuple as a key: numbers, None, such tuples -/
def nkD : D → Option NestedKey
  | .non => some .none
  | .int i => some (.num i)
  | .tup xs => (nkDs xs).map .tup
  | _ => none
def nkDs : List D → Option (List NestedKey)
  | [] => some []
  | x :: xs => (nkD x).bind fun k => (nkDs xs).map fun ks => k :: ks
end
/-- a dict whose keys are tuples: the key, its place, the value -/
def dNo (w : World) (a : Addr) (kvs : List (NestedKey × Addr × V)) : HO := .ext fun h => kvs.length ≤ sizeLine ∧ (a == sysModules) = false ∧ (kvs.map (·.1)).Nodup ∧ (∀ p ∈ kvs, p.1.depth ≤ 8) ∧
  ∃ o es ep, h.get? a = some o ∧ o.ExactDict ∧ o.data = .dict es ep ∧ Paired (fun (p : NestedKey × Addr × V) (e : DictEntry) => e.hash = p.1.hash w ∧ e.key = .ref p.2.1 ∧ RelV p.2.2 e.val) kvs es.toList
mutual
inductive At (K : PySem.W.Frag) (Z : Zs) (F : Hp) : V → D → Prop
  | non : At K Z F .non .non
  | bl (b : Bool) : At K Z F (.bl b) (.bl b)
  | int (i : Int) : At K Z F (.int i) (.int i)
  | str (x : Str) : At K Z F (.str x) (.str x)
  | tup {a : Addr} {ob : Obj} {vs : List V} {ds : List D} : F a = some (.frz ob (.tup vs)) → ob.dict = none → Ats K Z F vs ds → At K Z F (.ref a) (.tup ds)
  | lst {a : Addr} {vs : List V} {ds : List D} : F a = some (.lst vs) → Ats K Z F vs ds → At K Z F (.ref a) (.lst ds)
  | scr {a : Addr} {ns : List Int} : SqL K F a (ns.map V.int) → At K Z F (.ref a) (.scr ns)
  | dctK {a : Addr} {kvs : List (Key × V)} {ds : List D} : Rd F a (.dK kvs) → Ats K Z F (kvs.map (·.2)) ds → At K Z F (.ref a) (.dct false (kvs.map fun p => kD p.1) ds)
  | dctT {a : Addr} {w : World} {kvs : List (NestedKey × Addr × V)} {ks ds : List D} : F a = some (dNo w a kvs) → Ats K Z F (kvs.map fun p => .ref p.2.1) ks → ks.map nkD = (kvs.map fun p => some p.1) → Ats K Z F (kvs.map (·.2.2)) ds → At K Z F (.ref a) (.dct true ks ds)
  | src {a c : Addr} : (a, c) ∈ Z → At K Z F (.ref a) .src
inductive Ats (K : PySem.W.Frag) (Z : Zs) (F : Hp) : List V → List D → Prop
  | nil : Ats K Z F [] []
  | cons {v : V} {vs : List V} {d : D} {ds : List D} : At K Z F v d → Ats K Z F vs ds → Ats K Z F (v :: vs) (d :: ds)
end
def Sub (F H : Hp) : Prop := ∀ a u, F a = some u → H a = some u
theorem Sub.refl (H : Hp) : Sub H H := fun _ _ h => h
theorem Sub.trans {F G H : Hp} (a : Sub F G) (b : Sub G H) : Sub F H := fun c u h => b c u (a c u h)
theorem Sub.sqL {K : PySem.W.Frag} {F H : Hp} {a : Addr} {xs : List V} (e : Sub F H) (h : SqL K F a xs) : SqL K H a xs := Same.seq (H := F) (H' := H) e h
theorem Sub.rd {F H : Hp} {a : Addr} {u : HO} (e : Sub F H) (h : Rd F a u) : Rd H a u := by
  rcases h with h | ⟨o, h⟩
  · exact .inl (e _ _ h)
  · exact .inr ⟨o, e _ _ h⟩
theorem Sub.sqT {K : PySem.W.Frag} {F H : Hp} {a : Addr} {xs : List V} (e : Sub F H) (h : SqT K F a xs) : SqT K H a xs := by
  rcases h with h | h
  · exact .inl (e.rd h)
  · exact .inr h
section
variable {K : PySem.W.Frag} {Z Z' : Zs} {F G H : Hp}
mutual
theorem At.mono (e : Sub F G) (z : ∀ p ∈ Z, p ∈ Z') : ∀ {v : V} {d : D}, At K Z F v d → At K Z' G v d
  | _, _, .non => .non
  | _, _, .bl b => .bl b
  | _, _, .int i => .int i
  | _, _, .str x => .str x
  | _, _, .tup h hd hs => .tup (e _ _ h) hd (Ats.mono e z hs)
  | _, _, .lst h hs => .lst (e _ _ h) (Ats.mono e z hs)
  | _, _, .scr h => .scr (e.sqL h)
  | _, _, .dctK h hs => .dctK (e.rd h) (Ats.mono e z hs)
  | _, _, .dctT h hk q hs => .dctT (e _ _ h) (Ats.mono e z hk) q (Ats.mono e z hs)
  | _, _, .src h => .src (z _ h)
theorem Ats.mono (e : Sub F G) (z : ∀ p ∈ Z, p ∈ Z') : ∀ {vs : List V} {ds : List D}, Ats K Z F vs ds → Ats K Z' G vs ds
  | _, _, .nil => .nil
  | _, _, .cons h hs => .cons (At.mono e z h) (Ats.mono e z hs)
end
theorem Ats.length : ∀ {vs : List V} {ds : List D}, Ats K Z F vs ds → vs.length = ds.length
  | _, _, .nil => rfl
  | _, _, .cons _ t => by simp [Ats.length t]
theorem Ats.get : ∀ {vs : List V} {ds : List D} {i : Nat} {d : D}, Ats K Z F vs ds → ds[i]? = some d → ∃ v, vs[i]? = some v ∧ At K Z F v d
  | _, _, _, _, .nil, e => by simp at e
  | _, _, 0, _, .cons h _, e => by simp at e; subst e; exact ⟨_, rfl, h⟩
  | _, _, i + 1, d, .cons _ t, e => by
    obtain ⟨v, h1, h2⟩ := Ats.get (i := i) (d := d) t (by simpa using e)
    exact ⟨v, by simpa using h1, h2⟩
theorem Ats.getV : ∀ {vs : List V} {ds : List D} {i : Nat} {v : V}, Ats K Z F vs ds → vs[i]? = some v → ∃ d, ds[i]? = some d ∧ At K Z F v d
  | _, _, _, _, .nil, e => by simp at e
  | _, _, 0, _, .cons h _, e => by simp at e; subst e; exact ⟨_, rfl, h⟩
  | _, _, i + 1, v, .cons _ t, e => by
    obtain ⟨d, h1, h2⟩ := Ats.getV (i := i) (v := v) t (by simpa using e)
    exact ⟨d, by simpa using h1, h2⟩
theorem Ats.append : ∀ {vs ws : List V} {ds es : List D}, Ats K Z F vs ds → Ats K Z F ws es → Ats K Z F (vs ++ ws) (ds ++ es)
  | _, _, _, _, .nil, s => s
  | _, _, _, _, .cons h t, s => .cons h (Ats.append t s)
theorem Ats.take (n : Nat) : ∀ {vs : List V} {ds : List D}, Ats K Z F vs ds → Ats K Z F (vs.take n) (ds.take n) := by
  induction n with
  | zero => intro vs ds _; simpa using Ats.nil
  | succ n ih =>
    intro vs ds h
    cases h with
    | nil => simpa using Ats.nil
    | cons h t => simpa using Ats.cons h (ih t)
theorem Ats.drop (n : Nat) : ∀ {vs : List V} {ds : List D}, Ats K Z F vs ds → Ats K Z F (vs.drop n) (ds.drop n) := by
  induction n with
  | zero => intro vs ds h; simpa using h
  | succ n ih =>
    intro vs ds h
    cases h with
    | nil => simpa using Ats.nil
    | cons h t => simpa using ih t
theorem Ats.one {v : V} {d : D} (h : At K Z F v d) : Ats K Z F [v] [d] := .cons h .nil
theorem Ats.rev : ∀ {vs : List V} {ds : List D}, Ats K Z F vs ds → Ats K Z F vs.reverse ds.reverse
  | _, _, .nil => by simpa using Ats.nil
  | _, _, .cons h t => by
    rw [List.reverse_cons, List.reverse_cons]
    exact (Ats.rev t).append (.one h)
theorem Ats.rep {v : V} {d : D} (h : At K Z F v d) : ∀ n : Nat, Ats K Z F (List.replicate n v) (List.replicate n d)
  | 0 => .nil
  | n + 1 => .cons h (Ats.rep h n)
theorem Ats.ints : ∀ ns : List Int, Ats K Z F (ns.map V.int) (ns.map D.int)
  | [] => .nil
  | n :: r => .cons (.int n) (Ats.ints r)
/-- tuples stay tuples: what has no list in it needs no list's place -/
def isTupO : HO → Bool
  | .tup _ => true
  | .frz _ (.tup _) => true
  | _ => false
mutual
theorem At.strip (e : ∀ a u, G a = some u → isTupO u = true → F a = some u) : ∀ {v : V} {d : D}, At K Z G v d → noLst d = true → At K Z F v d
  | _, _, .non, _ => .non
  | _, _, .bl b, _ => .bl b
  | _, _, .int i, _ => .int i
  | _, _, .str x, _ => .str x
  | _, _, .tup h hd hs, n => .tup (e _ _ h rfl) hd (Ats.strip e hs (by simpa using n))
  | _, _, .lst _ _, n => by simp at n
  | _, _, .scr _, n => by simp at n
  | _, _, .dctK _ _, n => by simp at n
  | _, _, .dctT _ _ _ _, n => by simp at n
  | _, _, .src h, _ => .src h
theorem Ats.strip (e : ∀ a u, G a = some u → isTupO u = true → F a = some u) : ∀ {vs : List V} {ds : List D}, Ats K Z G vs ds → noLsts ds = true → Ats K Z F vs ds
  | _, _, .nil, _ => .nil
  | _, _, .cons h t, n => by
    have n' := Bool.and_eq_true_iff.mp (by simpa using n)
    exact .cons (At.strip e h n'.1) (Ats.strip e t n'.2)
end
end

mutual
inductive RO (K : PySem.W.Frag) (Z : Zs) (F H : Hp) : V → O → List Addr → Prop
  | val {v : V} {d : D} : At K Z F v d → RO K Z F H v (.val d) []
  | lst {a : Addr} {vs : List V} {os : List O} {cs : List Addr} : H a = some (.lst vs) → ROs K Z F H vs os cs → RO K Z F H (.ref a) (.lst os) (a :: cs)
  | dctK {a : Addr} {kvs : List (Key × V)} {os : List O} {cs : List Addr} : H a = some (.dK kvs) → (kvs.map (·.1)).Nodup → ROs K Z F H (kvs.map (·.2)) os cs → RO K Z F H (.ref a) (.dct false (kvs.map fun p => kD p.1) os) (a :: cs)
  | dctT {a : Addr} {w : World} {kvs : List (NestedKey × Addr × V)} {ks : List D} {os : List O} {cs : List Addr} : H a = some (dNo w a kvs) → (kvs.map (·.1)).Nodup → Ats K Z F (kvs.map fun p => .ref p.2.1) ks → ks.map nkD = (kvs.map fun p => some p.1) → ROs K Z F H (kvs.map (·.2.2)) os cs → RO K Z F H (.ref a) (.dct true ks os) (a :: cs)
inductive ROs (K : PySem.W.Frag) (Z : Zs) (F H : Hp) : List V → List O → List Addr → Prop
  | nil : ROs K Z F H [] [] []
  | cons {v : V} {vs : List V} {o : O} {os : List O} {cs ds : List Addr} : RO K Z F H v o cs → ROs K Z F H vs os ds → ROs K Z F H (v :: vs) (o :: os) (cs ++ ds)
end
section
variable {K : PySem.W.Frag} {Z Z' : Zs} {F F' H H' : Hp}
mutual
theorem RO.mono (e : Sub F F') (z : ∀ p ∈ Z, p ∈ Z') : ∀ {v : V} {o : O} {cs : List Addr}, RO K Z F H v o cs → (∀ c ∈ cs, ∀ u, H c = some u → H' c = some u) → RO K Z' F' H' v o cs
  | _, _, _, .val h, _ => .val (h.mono e z)
  | _, _, _, .lst h hs, k => .lst (k _ (by simp) _ h) (ROs.mono e z hs fun c hc => k c (by simp [hc]))
  | _, _, _, .dctK h nd hs, k => .dctK (k _ (by simp) _ h) nd (ROs.mono e z hs fun c hc => k c (by simp [hc]))
  | _, _, _, .dctT h nd hk q hs, k => .dctT (k _ (by simp) _ h) nd (hk.mono e z) q (ROs.mono e z hs fun c hc => k c (by simp [hc]))
theorem ROs.mono (e : Sub F F') (z : ∀ p ∈ Z, p ∈ Z') : ∀ {vs : List V} {os : List O} {cs : List Addr}, ROs K Z F H vs os cs → (∀ c ∈ cs, ∀ u, H c = some u → H' c = some u) → ROs K Z' F' H' vs os cs
  | _, _, _, .nil, _ => .nil
  | _, _, _, .cons h hs, k => .cons (RO.mono e z h fun c hc => k c (by simp [hc])) (ROs.mono e z hs fun c hc => k c (by simp [hc]))
end
theorem ROs.length : ∀ {vs : List V} {os : List O} {cs : List Addr}, ROs K Z F H vs os cs → vs.length = os.length
  | _, _, _, .nil => rfl
  | _, _, _, .cons _ t => by simp [ROs.length t]
theorem ROs.append : ∀ {vs ws : List V} {os ps : List O} {cs ds : List Addr}, ROs K Z F H vs os cs → ROs K Z F H ws ps ds → ROs K Z F H (vs ++ ws) (os ++ ps) (cs ++ ds)
  | _, _, _, _, _, _, .nil, s => s
  | _, _, _, _, _, _, .cons (cs := c1) (ds := c2) h t, s => by
    rw [List.append_assoc]
    exact .cons h (ROs.append t s)
theorem ROs.vals : ∀ {vs : List V} {ds : List D}, Ats K Z F vs ds → ROs K Z F H vs (ds.map O.val) []
  | _, _, .nil => .nil
  | _, _, .cons h t => by
    have := ROs.cons (K := K) (Z := Z) (F := F) (H := H) (.val h) (ROs.vals t)
    simpa using this
/-- what may be own -/
def isCellO : HO → Bool
  | .lst _ => true
  | .dK _ => true
  | .dT _ => true
  | .ext _ => true
  | _ => false
theorem isTup_cell {u : HO} (h : isCellO u = true) : isTupO u = false := by cases u <;> simp [isCellO, isTupO] at h ⊢
mutual
/-- the cells stand in the heap -/
theorem RO.there : ∀ {v : V} {o : O} {cs : List Addr}, RO K Z F H v o cs → ∀ c ∈ cs, ∃ u, H c = some u ∧ isCellO u = true
  | _, _, _, .val _, c, hc => by simp at hc
  | _, _, _, .lst h hs, c, hc => by
    rcases List.mem_cons.mp hc with rfl | hc
    · exact ⟨_, h, rfl⟩
    · exact ROs.there hs c hc
  | _, _, _, .dctK h _ hs, c, hc => by
    rcases List.mem_cons.mp hc with rfl | hc
    · exact ⟨_, h, rfl⟩
    · exact ROs.there hs c hc
  | _, _, _, .dctT h _ _ _ hs, c, hc => by
    rcases List.mem_cons.mp hc with rfl | hc
    · exact ⟨_, h, rfl⟩
    · exact ROs.there hs c hc
theorem ROs.there : ∀ {vs : List V} {os : List O} {cs : List Addr}, ROs K Z F H vs os cs → ∀ c ∈ cs, ∃ u, H c = some u ∧ isCellO u = true
  | _, _, _, .nil, c, hc => by simp at hc
  | _, _, _, .cons h t, c, hc => by
    rcases List.mem_append.mp hc with hc | hc
    · exact RO.there h c hc
    · exact ROs.there t c hc
end
mutual
/-- frozen -/
theorem RO.at_ (e : Sub F F') : ∀ {v : V} {o : O} {cs : List Addr}, RO K Z F H v o cs → (∀ c ∈ cs, F' c = H c) → At K Z F' v o.d
  | _, _, _, .val h, _ => by simpa using h.mono e fun _ q => q
  | _, _, _, .lst h hs, k => by
    simp only [O.d_lst]
    exact .lst ((k _ (by simp)).trans h) (ROs.at_ e hs fun c hc => k c (by simp [hc]))
  | _, _, _, .dctK h _ hs, k => by
    simp only [O.d_dct]
    exact .dctK (.inl ((k _ (by simp)).trans h)) (ROs.at_ e hs fun c hc => k c (by simp [hc]))
  | _, _, _, .dctT h _ hk q hs, k => by
    simp only [O.d_dct]
    exact .dctT ((k _ (by simp)).trans h) (hk.mono e fun _ z => z) q (ROs.at_ e hs fun c hc => k c (by simp [hc]))
theorem ROs.at_ (e : Sub F F') : ∀ {vs : List V} {os : List O} {cs : List Addr}, ROs K Z F H vs os cs → (∀ c ∈ cs, F' c = H c) → Ats K Z F' vs (O.ds os)
  | _, _, _, .nil, _ => by simpa using Ats.nil
  | _, _, _, .cons h t, k => by
    simp only [O.ds_cons]
    exact .cons (RO.at_ e h fun c hc => k c (by simp [hc])) (ROs.at_ e t fun c hc => k c (by simp [hc]))
end
mutual
theorem nk_noLst : ∀ (d : D) (k : NestedKey), nkD d = some k → noLst d = true
  | .non, _, _ => by simp
  | .int _, _, _ => by simp
  | .tup xs, k, h => by
    simp only [nkD, Option.map_eq_some_iff] at h
    obtain ⟨ks, h1, _⟩ := h
    simpa using nks_noLst xs ks h1
  | .bl _, _, h => by simp [nkD] at h
  | .str _, _, h => by simp [nkD] at h
  | .lst _, _, h => by simp [nkD] at h
  | .dct _ _ _, _, h => by simp [nkD] at h
  | .src, _, h => by simp [nkD] at h
  | .scr _, _, h => by simp [nkD] at h
theorem nks_noLst : ∀ (ds : List D) (ks : List NestedKey), nkDs ds = some ks → noLsts ds = true
  | [], _, _ => by simp
  | x :: xs, _, h => by
    simp only [nkDs, Option.bind_eq_some_iff, Option.map_eq_some_iff] at h
    obtain ⟨k, h1, ks, h2, _⟩ := h
    simp [nk_noLst x k h1, nks_noLst xs ks h2]
end
theorem nk_flat {α : Type} {f : α → NestedKey} : ∀ {ks : List D} {l : List α}, ks.map nkD = l.map (fun p => some (f p)) → noLsts ks = true
  | [], _, _ => by simp
  | k :: ks, [], h => by simp at h
  | k :: ks, p :: l, h => by
    simp only [List.map_cons, List.cons.injEq] at h
    simp [nk_noLst k _ h.1, nk_flat h.2]
mutual
/-- without lists at the leaves, another frozen heap with the same tuples does -/
theorem RO.strip (e : ∀ a u, F a = some u → isTupO u = true → F' a = some u) : ∀ {v : V} {o : O} {cs : List Addr}, RO K Z F H v o cs → o.clean = true → RO K Z F' H v o cs
  | _, _, _, .val h, n => .val (h.strip e (by simpa using n))
  | _, _, _, .lst h hs, n => .lst h (ROs.strip e hs (by simpa using n))
  | _, _, _, .dctK h nd hs, n => .dctK h nd (ROs.strip e hs (by simpa using n))
  | _, _, _, .dctT h nd hk q hs, n => .dctT h nd (hk.strip e (nk_flat q)) q (ROs.strip e hs (by simpa using n))
theorem ROs.strip (e : ∀ a u, F a = some u → isTupO u = true → F' a = some u) : ∀ {vs : List V} {os : List O} {cs : List Addr}, ROs K Z F H vs os cs → O.cleans os = true → ROs K Z F' H vs os cs
  | _, _, _, .nil, _ => .nil
  | _, _, _, .cons h t, n => by
    have n' := Bool.and_eq_true_iff.mp (by simpa using n)
    exact .cons (RO.strip e h n'.1) (ROs.strip e t n'.2)
end
end

structure SrcAt (H : Hp) (a c : Addr) : Prop where
  ex : ∃ (cells : List Int) (left mixed turn : Int),
    H a = some (.dK [(.inr "cells", .ref c), (.inr "left", .int left), (.inr "mixed", .int mixed), (.inr "turn", .int turn)]) ∧ H c = some (.lst (cells.map V.int)) ∧
    (∀ x ∈ cells, 0 ≤ x) ∧ 0 ≤ left ∧ 0 ≤ mixed ∧ mixed < 2147483647 ∧ 0 ≤ turn
structure SrcOk (Z : Zs) (H : Hp) : Prop where
  ok : ∀ p ∈ Z, SrcAt H p.1 p.2
  ap : ∀ p ∈ Z, ∀ q ∈ Z, p.1 = q.1 ∨ p.2 = q.2 → p = q

/-- a ghost: the sources, what is frozen, the abstract heap -/
structure Gh where
  Z : Zs
  F : Hp
  H : Hp
structure Gh.Ok (g : Gh) : Prop where
  sub : Sub g.F g.H
  src : SrcOk g.Z g.H
  nz : ∀ a, inZ g.Z a → g.F a = none
structure Step (g g' : Gh) : Prop where
  ok : g'.Ok
  up : Sub g.F g'.F
  new : ∀ a, g.F a = none → g'.F a ≠ none → g.H a = none
  keep : ∀ a u, g.H a = some u → ¬ inZ g.Z a → g'.H a = some u
  zs : ∀ p ∈ g.Z, p ∈ g'.Z
  zn : ∀ a, inZ g'.Z a → inZ g.Z a ∨ g.H a = none
theorem Gh.Ok.refl {g : Gh} (h : g.Ok) : Step g g := ⟨h, Sub.refl _, fun _ a b => absurd a b, fun _ _ e _ => e, fun _ q => q, fun _ q => .inl q⟩
theorem Gh.Ok.thereZ {g : Gh} (h : g.Ok) {a : Addr} (z : inZ g.Z a) : ∃ u, g.H a = some u := by
  obtain ⟨p, hp, e⟩ := z
  obtain ⟨cells, left, mixed, turn, h1, h2, _⟩ := (h.src.ok p hp).ex
  rcases e with rfl | rfl
  · exact ⟨_, h1⟩
  · exact ⟨_, h2⟩
theorem Step.trans {g g1 g2 : Gh} (s : Step g g1) (t : Step g1 g2) : Step g g2 where
  ok := t.ok
  up := s.up.trans t.up
  new := fun a n m => by
    cases e : g1.F a with
    | some u => exact s.new a n (by rw [e]; simp)
    | none =>
      have h1 := t.new a e m
      cases q : g.H a with
      | none => rfl
      | some u =>
        by_cases z : inZ g.Z a
        · have : inZ g2.Z a := by
            obtain ⟨p, hp, r⟩ := z
            exact ⟨p, t.zs _ (s.zs _ hp), r⟩
          exact absurd (t.ok.nz a this) m
        · rw [s.keep a u q z] at h1
          cases h1
  keep := fun a u e z => by
    have h1 := s.keep a u e z
    refine t.keep a u h1 fun z' => ?_
    rcases s.zn a z' with q | q
    · exact z q
    · rw [q] at e; cases e
  zs := fun p hp => t.zs p (s.zs p hp)
  zn := fun a z => by
    rcases t.zn a z with q | q
    · exact s.zn a q
    · cases e : g.H a with
      | none => exact .inr rfl
      | some u =>
        by_cases z' : inZ g.Z a
        · exact .inl z'
        · rw [s.keep a u e z'] at q; cases q
/-- what was not there stays apart of what is frozen later, if it is there by now -/
theorem Step.apart {g g' : Gh} (s : Step g g') {c : Addr} {u : HO} (n : g.F c = none) (h : g.H c = some u) : g'.F c = none := by
  cases e : g'.F c with
  | none => rfl
  | some w =>
    have := s.new c n (by rw [e]; simp)
    rw [h] at this; cases this

abbrev DEnv := List (Option D)
structure ES (K : PySem.W.Frag) (g : Gh) (env : DEnv) (σ : L2.St) : Prop where
  ok : g.Ok
  len : env.length = σ.length
  slot : ∀ (i : Nat) (d : D), env[i]? = some (some d) → ∃ v, σ[i]? = some (some v) ∧ At K g.Z g.F v d
theorem ES.step {K : PySem.W.Frag} {g g' : Gh} {env : DEnv} {σ : L2.St} (h : ES K g env σ) (s : Step g g') : ES K g' env σ :=
  ⟨s.ok, h.len, fun i d e => let ⟨v, e1, e2⟩ := h.slot i d e; ⟨v, e1, e2.mono s.up s.zs⟩⟩
/-- a result: its own cells are new -/
def RR (K : PySem.W.Frag) (g g' : Gh) (v : V) (o : O) : Prop := ∃ cs, RO K g'.Z g'.F g'.H v o cs ∧ cs.Nodup ∧ ∀ c ∈ cs, g'.F c = none ∧ g.H c = none ∧ ¬ inZ g'.Z c
theorem RR.val {K : PySem.W.Frag} {g g' : Gh} {v : V} {d : D} (h : At K g'.Z g'.F v d) : RR K g g' v (.val d) := ⟨[], .val h, .nil, fun _ z => by simp at z⟩
open Classical in
/-- some cells frozen -/
noncomputable def thaw (F H : Hp) (cs : Addr → Prop) : Hp := fun a => if cs a then H a else F a
theorem thaw_in {F H : Hp} {cs : Addr → Prop} {a : Addr} (h : cs a) : thaw F H cs a = H a := if_pos h
theorem thaw_out {F H : Hp} {cs : Addr → Prop} {a : Addr} (h : ¬ cs a) : thaw F H cs a = F a := if_neg h
theorem thaw_up {F H : Hp} {cs : Addr → Prop} (h : ∀ c, cs c → F c = none) : Sub F (thaw F H cs) := fun a u e => by
  by_cases m : cs a
  · rw [h a m] at e; cases e
  · rw [thaw_out m]; exact e
theorem thaw_sub {F H : Hp} {cs : Addr → Prop} (h : Sub F H) : Sub (thaw F H cs) H := fun a u e => by
  by_cases m : cs a
  · rw [thaw_in m] at e; exact e
  · rw [thaw_out m] at e; exact h a u e
theorem Gh.Ok.thaw {g : Gh} (o : g.Ok) {cs : Addr → Prop} (z : ∀ c, cs c → ¬ inZ g.Z c) : Gh.Ok ⟨g.Z, DL.thaw g.F g.H cs, g.H⟩ :=
  ⟨thaw_sub o.sub, o.src, fun a i => by
    show DL.thaw g.F g.H cs a = none
    rw [thaw_out fun m => z a m i]
    exact o.nz a i⟩
/-- the result frozen -/
theorem RR.freeze {K : PySem.W.Frag} {g g' : Gh} {v : V} {o : O} (s : Step g g') (h : RR K g g' v o) : ∃ F', Step g ⟨g'.Z, F', g'.H⟩ ∧ Sub g'.F F' ∧ At K g'.Z F' v o.d := by
  obtain ⟨cs, r, nd, hc⟩ := h
  refine ⟨thaw g'.F g'.H (· ∈ cs), ⟨s.ok.thaw fun c m => (hc c m).2.2, s.up.trans (thaw_up fun c m => (hc c m).1), fun a n m => ?_, s.keep, s.zs, s.zn⟩, thaw_up fun c m => (hc c m).1, r.at_ (thaw_up fun c m => (hc c m).1) fun c m => thaw_in m⟩
  by_cases q : a ∈ cs
  · exact (hc a q).2.1
  · have m' : thaw g'.F g'.H (· ∈ cs) a ≠ none := m
    rw [thaw_out q] at m'
    exact s.new a n m'
/-- a new place -/
theorem Gh.Ok.noZ {g : Gh} (o : g.Ok) {p : Addr} (n : g.H p = none) : ¬ inZ g.Z p := fun z => by
  obtain ⟨u, h⟩ := o.thereZ z
  rw [n] at h; cases h
theorem Gh.Ok.noF {g : Gh} (o : g.Ok) {p : Addr} (n : g.H p = none) : g.F p = none := by
  cases e : g.F p with
  | none => rfl
  | some u => have := o.sub p u e; rw [n] at this; cases this
theorem SrcAt.keep {H H' : Hp} {a c : Addr} (h : SrcAt H a c) (k : ∀ b u, (b = a ∨ b = c) → H b = some u → H' b = some u) : SrcAt H' a c := by
  obtain ⟨cells, left, mixed, turn, h1, h2, r⟩ := h.ex
  exact ⟨cells, left, mixed, turn, k _ _ (.inl rfl) h1, k _ _ (.inr rfl) h2, r⟩
theorem SrcOk.keep {Z : Zs} {H H' : Hp} (h : SrcOk Z H) (k : ∀ b u, inZ Z b → H b = some u → H' b = some u) : SrcOk Z H' :=
  ⟨fun p hp => (h.ok p hp).keep fun b u e => k b u ⟨p, hp, e⟩, h.ap⟩
/-- a new object, own -/
theorem Step.laid {g : Gh} (o : g.Ok) {p : Addr} {u : HO} (n : g.H p = none) : Step g ⟨g.Z, g.F, upd g.H p u⟩ where
  ok := ⟨fun a w e => by
    show upd g.H p u a = some w
    rw [upd_ne (ne_of_none (o.sub a w e) n)]
    exact o.sub a w e, o.src.keep fun b w _ e => by
      show upd g.H p u b = some w
      rw [upd_ne (ne_of_none e n)]
      exact e, o.nz⟩
  up := Sub.refl _
  new := fun _ a b => absurd a b
  keep := fun a w e _ => by
    show upd g.H p u a = some w
    rw [upd_ne (ne_of_none e n)]
    exact e
  zs := fun _ q => q
  zn := fun _ q => .inl q
/-- a new object, frozen at once -/
theorem Step.laidF {g : Gh} (o : g.Ok) {p : Addr} {u : HO} (n : g.H p = none) : Step g ⟨g.Z, upd g.F p u, upd g.H p u⟩ where
  ok := ⟨fun a w e => by
    have e : upd g.F p u a = some w := e
    show upd g.H p u a = some w
    by_cases q : a = p
    · subst q; rw [upd_same] at e ⊢; exact e
    · rw [upd_ne q] at e ⊢
      exact o.sub a w e, o.src.keep fun b w _ e => by
      show upd g.H p u b = some w
      rw [upd_ne (ne_of_none e n)]
      exact e, fun a z => by
        show upd g.F p u a = none
        rw [upd_ne (show a ≠ p from fun e => o.noZ n (by rw [← e]; exact z))]
        exact o.nz a z⟩
  up := fun a w e => by
    show upd g.F p u a = some w
    rw [upd_ne (ne_of_none (o.sub a w e) n)]
    exact e
  new := fun a h1 h2 => by
    have h2 : upd g.F p u a ≠ none := h2
    by_cases q : a = p
    · subst q; exact n
    · rw [upd_ne q] at h2; exact absurd h1 h2
  keep := fun a w e _ => by
    show upd g.H p u a = some w
    rw [upd_ne (ne_of_none e n)]
    exact e
  zs := fun _ q => q
  zn := fun _ q => .inl q
theorem Step.none_ {g g1 : Gh} (s : Step g g1) {c : Addr} (h : g1.H c = none) : g.H c = none := by
  cases e : g.H c with
  | none => rfl
  | some u =>
    by_cases z : inZ g.Z c
    · obtain ⟨p, hp, r⟩ := z
      obtain ⟨w, hw⟩ := s.ok.thereZ (a := c) ⟨p, s.zs _ hp, r⟩
      rw [h] at hw; cases hw
    · rw [s.keep c u e z] at h; cases h
theorem RR.back {K : PySem.W.Frag} {g g1 g' : Gh} {v : V} {o : O} (s : Step g g1) (h : RR K g1 g' v o) : RR K g g' v o := by
  obtain ⟨cs, r, nd, hc⟩ := h
  exact ⟨cs, r, nd, fun c m => ⟨(hc c m).1, s.none_ (hc c m).2.1, (hc c m).2.2⟩⟩
/-- a new list of frozen things -/
theorem RR.newL {K : PySem.W.Frag} {g : Gh} (o : g.Ok) {p : Addr} {vs : List V} {ds : List D} (n : g.H p = none) (h : Ats K g.Z g.F vs ds) : RR K g ⟨g.Z, g.F, upd g.H p (.lst vs)⟩ (.ref p) (.lst (ds.map .val)) :=
  ⟨[p], .lst upd_same (.vals h), by simp, fun c m => by
    obtain rfl : c = p := by simpa using m
    exact ⟨o.noF n, n, o.noZ n⟩⟩
theorem RR.newT {K : PySem.W.Frag} {g : Gh} (o : g.Ok) {p : Addr} {ob : Obj} {vs : List V} {ds : List D} (n : g.H p = none) (hd : ob.dict = none) (h : Ats K g.Z g.F vs ds) : RR K g ⟨g.Z, upd g.F p (.frz ob (.tup vs)), upd g.H p (.frz ob (.tup vs))⟩ (.ref p) (.val (.tup ds)) :=
  .val (.tup upd_same hd (h.mono (Step.laidF o n).up fun _ q => q))
/-- an own cell is written -/
theorem Step.own {g g' : Gh} (s : Step g g') {c : Addr} {u : HO} (h : g.H c = none) (f : g'.F c = none) (z : ¬ inZ g'.Z c) : Step g ⟨g'.Z, g'.F, upd g'.H c u⟩ where
  ok := ⟨fun a w e => by
    show upd g'.H c u a = some w
    rw [upd_ne fun q => by rw [q, f] at e; cases e]
    exact s.ok.sub a w e, s.ok.src.keep fun b w i e => by
      show upd g'.H c u b = some w
      rw [upd_ne fun q => z (by rw [← q]; exact i)]
      exact e, s.ok.nz⟩
  up := s.up
  new := s.new
  keep := fun a w e nz => by
    show upd g'.H c u a = some w
    rw [upd_ne (ne_of_none e h)]
    exact s.keep a w e nz
  zs := s.zs
  zn := s.zn
end DL
/-! DTupF -/
namespace DL
open PySem PySem.Spec PyProof.Rows L2
/-- a new tuple -/
abbrev NewT (xs : List V) (H : Hp) (Q : VK) : Prop := ∀ (p : Addr) (ob : Obj), H p = none → ob.dict = none → Q (.ref p) (upd H p (.frz ob (.tup xs)))
section
variable {X : Cx} {pins : List (Addr × Obj)} {σ : L2.St} {H : Hp} {s : Shared} {Q : VK}
theorem newT_ok {h' : Heap} {xs : List V} {its : List Value} {t' : Nat} (I : Inv X pins σ H s) (kp : ∀ b o, s.heap.get? b = some o → h'.get? b = some o) (hsz : s.heap.objs.size ≤ h'.objs.size) (hz : xs.length ≤ sizeLine) (r : Vals xs its) (q : NewT xs H Q) :
    EP X pins σ Q (.ref h'.objs.size) { s with heap := h'.push { cls := .type "tuple", data := .seq its.toArray }, toks := t' } := by
  have at_ : (h'.push { cls := .type "tuple", data := .seq its.toArray }).get? h'.objs.size = some { cls := .type "tuple", data := .seq its.toArray } := Heap.get?_push_size _ rfl
  refine ⟨.ref h'.objs.size, _, I.laid (t' := t') (a := h'.objs.size) (o := .frz { cls := .type "tuple", data := .seq its.toArray } (.tup xs)) (fun b o e => Heap.get?_push_of_some _ (kp b o e)) hsz ?_, rfl, q _ _ (I.hok.fresh hsz) rfl⟩
  exact ⟨at_, hz, its, r, IsTup.new _ _⟩
theorem newT_here {xs : List V} {its : List Value} (I : Inv X pins σ H s) (hz : xs.length ≤ sizeLine) (r : Vals xs its) (q : NewT xs H Q) :
    EP X pins σ Q (.ref s.heap.objs.size) { s with heap := s.heap.push { cls := .type "tuple", data := .seq its.toArray } } := newT_ok (t' := s.toks) I (fun _ _ e => e) (Nat.le_refl _) hz r q
end
def tTupF (t : TA) : TE := fun σ H Q => t σ H fun xs H1 => xs.length ≤ sizeLine ∧ NewT xs H1 Q
section
variable {X : Cx} {es : List Expr} {t : TA} {pos : Pos}
theorem pe_tupF {k : Nat} (ha : PA X es t) : PE X (.Tuple es k pos) (tTupF t) :=
  ⟨fun pins s σ H Q I h => wpAny_Tuple_spliced (thn (ha.run pos pins s σ H _ I h) fun _ _ ⟨xs, _, I1, rv, len, fin⟩ => ⟨rv.length ▸ len, newT_here I1 len rv fin⟩)⟩
/-- t + u -/
def rCatF (K : PySem.W.Frag) : R2 := fun x y H Q => ∃ p q us ws, x = .ref p ∧ y = .ref q ∧ SqT K H p us ∧ SqT K H q ws ∧ us.length + ws.length ≤ sizeLine ∧
  (us = [] → Q (.ref q) H) ∧ (ws = [] → Q (.ref p) H) ∧ NewT (us ++ ws) H Q
theorem op_catF : OpR X (binaryOp .Add) (rCatF X.K) := by
  intro pins s σ H x y v u Q I r1 r2 h
  obtain ⟨p, q, us, ws, ex, ey, hp, hq, len, k1, k2, k3⟩ := h
  subst ex ey
  cases r1
  cases r2
  obtain ⟨is, va, ta, _⟩ := I.tuple hp
  obtain ⟨js, vb, tb, _⟩ := I.tuple hq
  by_cases e : us = []
  · subst e
    cases va
    exact cat_tup0 ta tb ⟨.ref q, H, I, rfl, k1 rfl⟩
  · exact HT.cat_tup ta tb (fun z => e (va.nil_iff.mp z)) (fun z => ⟨.ref p, H, I, rfl, k2 (vb.nil_iff.mp z)⟩) (fun _ => newT_here I (by rw [List.length_append]; exact len) (va.append vb) k3) (by rw [← va.length, ← vb.length]; exact len)
/-- t[lo:hi] -/
def rSlF (K : PySem.W.Frag) : V → Option Int → Option Int → Hp → VK → Prop := fun x lo hi H Q => ∃ p us, x = .ref p ∧ SqT K H p us ∧
  (HT.sIx us.length 0 lo = 0 ∧ HT.sIx us.length us.length hi = us.length → Q (.ref p) H) ∧ NewT (cutV us lo hi) H Q
theorem sl_tupF : SlR X (rSlF X.K) := by
  intro pins s σ H x v vl vu lo hi sl Q I r1 hs pl pu h
  obtain ⟨p, us, ex, hp, k1, k2⟩ := h
  subst ex
  cases r1
  obtain ⟨is, va, ta, lz⟩ := I.tuple hp
  have le : is.toArray.size = us.length := by rw [List.size_toArray, va.length]
  refine ⟨"tuple", _, PyProof.Rows.slot_tuple_getitem.lookup, ta.typeIs, ?_⟩
  by_cases c : HT.sIx us.length 0 lo = 0 ∧ HT.sIx us.length us.length hi = us.length
  · exact getItem_tuple_whole ta hs pl pu (by rw [le]; exact c) ⟨.ref p, H, I, rfl, k1 c⟩
  · refine HT.getItem_tuple_cut ta hs pl pu (by rw [le]; exact c) ?_ (by rw [le]; exact lz)
    rw [le]
    exact newT_here I (Nat.le_trans (cutV_length us lo hi) lz) ((va.drop (HT.sIx us.length 0 lo)).take (HT.sIx us.length us.length hi - HT.sIx us.length 0 lo)) k2
/-- tuple(e) -/
def rToT (K : PySem.W.Frag) : List V → Hp → VK → Prop := fun xs H Q => ∃ p us, xs = [.ref p] ∧ ((SqL K H p us ∧ NewT us H Q) ∨ (SqT K H p us ∧ Q (.ref p) H))
theorem call_toT : CallR X (.type "tuple") (rToT X.K) := by
  intro pins s σ H xs us Q I r h
  obtain ⟨p, ys, ex, h⟩ := h
  subst ex
  obtain ⟨w, rfl, rw_⟩ := vals1 r
  cases rw_
  rcases h with ⟨hp, k⟩ | ⟨hp, k⟩
  · obtain ⟨is, va, pl, lz⟩ := I.list hp
    refine call_tuple_list pl.isList (fun h1 kp => ?_) (by rw [List.size_toArray, ← va.length]; exact lz)
    have I1 : Inv X pins σ H { s with heap := h1 } := I.kept (t' := s.toks) kp
    exact newT_here (s := { s with heap := h1 }) I1 lz va k
  · obtain ⟨_, _, ta, _⟩ := I.tuple hp
    exact call_tuple_same ta ⟨.ref p, H, I, rfl, k⟩
/-- t * k, k above 1 -/
def rRepF (K : PySem.W.Frag) : R2 := fun x y H Q => ∃ p k us, x = .ref p ∧ y = .int k ∧ SqT K H p us ∧ us ≠ [] ∧ 2 ≤ k ∧ k ≤ 1000 ∧ us.length ≤ 1000 ∧ NewT (List.replicate k.toNat us).flatten H Q
theorem op_repF : OpR X (binaryOp .Mult) (rRepF X.K) := by
  intro pins s σ H x y v u Q I r1 r2 h
  obtain ⟨p, k, us, ex, ey, hp, ne, k2, k3, lz, fin⟩ := h
  subst ex ey
  cases r1
  obtain ⟨tk, rfl⟩ := r2
  obtain ⟨is, va, ⟨⟨c, dct, dta, sls⟩, ho, hc, m, hdt⟩, _⟩ := I.tuple hp
  simp only at hc hdt
  subst hc hdt
  have le := va.length
  have big : k.toNat * us.length ≤ 1000000 := Nat.le_trans (Nat.mul_le_mul (show k.toNat ≤ 1000 by omega) lz) (by decide)
  have bigI : ((is.toArray.size : Nat) : Int) * k ≤ 1000000 := by
    rw [List.size_toArray, ← le]
    have : ((us.length : Nat) : Int) * k = ((k.toNat * us.length : Nat) : Int) := by
      rw [Int.natCast_mul, Int.toNat_of_nonneg (by omega), Int.mul_comm]
    omega
  have ne2 : is.toArray.isEmpty = false := by
    cases va with
    | nil => exact absurd rfl ne
    | cons _ _ => rfl
  have flat : (List.replicate k.toNat is).flatten.length = k.toNat * us.length := by rw [PyProof.Rows.lm_len_rep_flat, le]
  have flat2 : (List.replicate k.toNat us).flatten.length = k.toNat * us.length := by rw [PyProof.Rows.lm_len_rep_flat]
  refine wpAny_binaryOp_repeat_ref (T := "tuple") (U := "int") (by decide) ⟨_, ho, rfl⟩ (fun z => typeIs_int z k tk) noFill_tuple_mul F.fills_int_mul F.slot_int_rmul repeat_tuple F.slot_int_index.lookup ?_
  refine call_meets F.slot_int_rmul (typeIs_int s k tk) F.entry_int_rmul (F.args_int_rmul_2 _ _) (int_rmul_tuple k tk p is.toArray m dct sls) ⟨ho, rfl, ⟨_, ho, rfl⟩, ?_⟩
  refine call_meets F.slot_tuple_mul ⟨_, ho, rfl⟩ F.entry_tuple_mul (F.args_tuple_mul_2 _ _) (tuple_mulW p is.toArray m dct sls k tk ?_ ?_ ?_ (by omega) ?_ (by rw [size_rep, List.size_toArray, flat, sizeLine_eq]; omega)) ⟨ho, ?_⟩
  · rw [decide_eq_false (show ¬ k < -(2 ^ 63) by omega), decide_eq_false (show ¬ k ≥ 2 ^ 63 by omega)]; rfl
  · rw [ne2, Bool.false_or]; exact beq_eq_false_iff_ne.mpr (by omega)
  · rw [ne2, Bool.or_false]; exact decide_eq_false (by omega)
  · unfold Builtin.Tuple.tupleTooMany
    exact decide_eq_false (by rw [sizeLine_eq]; omega)
  · rw [size_rep]
    exact newT_here I (by rw [flat2, sizeLine_eq]; omega) (va.rep k.toNat) fin
/-- tuple(range(..)) -/
def tTupRgF (te : L2.St → Hp → (Int → Int → Hp → Prop) → Prop) : TE := fun σ H Q => te σ H fun a b H1 => RgOk a b ∧ NewT (rgV a b) H1 Q
theorem pe_tupRgF {e : Expr} {te : L2.St → Hp → (Int → Int → Hp → Prop) → Prop} {p pos : Pos} (hc : X.calm = true) (hg : Gl X "tuple") (hm : X.mg "tuple" = none) (he : PRg X e te) (na : starEach [e] X.env = (false, eval e X.env) :: starEach [] X.env := by rfl) : PE X (.Call (.Name "tuple" p) [e] [] pos) (tTupRgF te) :=
  ⟨fun pins s σ H Q I h => Call_ (ld_blt I hg hm boot_tuple (PyProof.Rows.callWith_type1 (args_cons (thn (he pins s σ H _ I h) fun vx sx ⟨rr, lo, hi, t0, t1, t2, Hx, ex, hr, Ix, ok, fin⟩ => args_nil (by
    subst ex
    obtain ⟨o1, o2, o3, o4, o5⟩ := ok
    refine call_tuple_range (n := (hi - lo).toNat) (Ix.ok.hd hc) hr (small_one o1 o2 o3 o4) (rangeSize_nat lo hi) o5 fun h1 tk acc kp ai => ?_
    have Iy : Inv X pins σ Hx { sx with heap := h1, toks := tk } := Ix.kept kp
    have := newT_here (s := { sx with heap := h1, toks := tk }) Iy (by rw [rgV_length, sizeLine_eq]; omega) (vals_rg ai) fin
    rw [Array.toArray_toList] at this
    exact this)) na) na))⟩
end
end DL
/-! DExp -/
namespace DL
open PySem PySem.Spec PyProof.Rows L2

/-- an exception: its class's name, its fields -/
structure Ex where
  cls : Str
  fs : List (Str × D) := []
def XR (mg : Str → Option Value) (K : PySem.W.Frag) (g : Gh) (cls : Value) (dd : Option Addr) (x : Ex) : Prop :=
  ∃ C, cls = .ref C ∧ mg x.cls = some (.ref C) ∧ ((x.fs = [] ∧ dd = none) ∨ ∃ d vs, dd = some d ∧ g.F d = some (.xd ((x.fs.map (·.1)).zip vs)) ∧ Ats K g.Z g.F vs (x.fs.map (·.2)))
abbrev PQ := (O → Prop) → Prop
abbrev EX := Ex → Prop
abbrev WE := DEnv → (O → Prop) → EX → Prop
/-- from data's asking to the layer's reading -/
def LE (X : Cx) (W : WX) (w : WE) : TE := fun σ H Q => ∃ (g : Gh) (env : DEnv) (Qd : O → Prop) (Ed : EX), g.H = H ∧ ES X.K g env σ ∧ w env Qd Ed ∧
  (∀ v o g', Step g g' → RR X.K g g' v o → Qd o → Q v g'.H) ∧ (∀ x cls dd g', Step g g' → XR X.mg X.K g' cls dd x → Ed x → W cls dd σ g'.H)
abbrev DE (X : Cx) (W : WX) (e : Expr) (w : WE) : Prop := PE X e (LE X W w)
theorem pe_imp {X : Cx} {e : Expr} {t t' : TE} (h : PE X e t) (i : ∀ σ H Q, t' σ H Q → t σ H Q) : PE X e t' := ⟨fun pins s σ H Q I q => h.run pins s σ H Q I (i σ H Q q)⟩
section
variable {X : Cx} {W : WX} {σ : L2.St} {env : DEnv} {g g0 : Gh} {w wa wb : WE} {Q : VK} {Qd : O → Prop} {Ed : EX}
/-- the link of exceptions, moved on -/
abbrev XL (X : Cx) (W : WX) (σ : L2.St) (g : Gh) (Ed : EX) : Prop := ∀ x cls dd g', Step g g' → XR X.mg X.K g' cls dd x → Ed x → W cls dd σ g'.H
abbrev QL (X : Cx) (g : Gh) (Qd : O → Prop) (Q : VK) : Prop := ∀ v o g', Step g g' → RR X.K g g' v o → Qd o → Q v g'.H
theorem XL.on (k : XL X W σ g0 Ed) (s : Step g0 g) : XL X W σ g Ed := fun x cls dd g' s' r e => k x cls dd g' (s.trans s') r e
theorem QL.on (k : QL X g0 Qd Q) (s : Step g0 g) : QL X g Qd Q := fun v o g' s' r e => k v o g' (s.trans s') (r.back s) e
/-- a part is run; its value is frozen -/
theorem LE.go {R : D → Prop} (es : ES X.K g env σ) (h : w env (fun o => R o.d) Ed) (k : ∀ v d g1, Step g g1 → At X.K g1.Z g1.F v d → R d → Q v g1.H) (kx : XL X W σ g Ed) : LE X W w σ g.H Q :=
  ⟨g, env, fun o => R o.d, Ed, rfl, es, h, fun v o g' s r q => by
    obtain ⟨F', s1, up, a⟩ := r.freeze s
    exact k v o.d ⟨g'.Z, F', g'.H⟩ s1 a q, kx⟩
/-- .. as it is -/
theorem LE.goO (es : ES X.K g env σ) (h : w env Qd Ed) (k : QL X g Qd Q) (kx : XL X W σ g Ed) : LE X W w σ g.H Q := ⟨g, env, Qd, Ed, rfl, es, h, k, kx⟩

def eVar (i : Nat) : WE := fun env Q _ => match env[i]? with
  | some (some d) => Q (.val d)
  | _ => False
def eC (d : D) : WE := fun _ Q _ => Q (.val d)
theorem de_of {e : Expr} {v : V} {d : D} (h : PE X e (tC v)) (a : ∀ Z F, At X.K Z F v d) : DE X W e (eC d) := pe_imp h fun σ H Q ⟨g, env, Qd, Ed, e, es, h, k, kx⟩ => by
  subst e
  exact k v _ g es.ok.refl (.val (a _ _)) h
theorem de_int {i j pos} : DE X W (.Constant (.int i) j pos) (eC (.int i)) := de_of pe_int fun _ _ => .int i
theorem de_bl {b j pos} : DE X W (.Constant (.bool b) j pos) (eC (.bl b)) := de_of pe_bl fun _ _ => .bl b
theorem de_non {j pos} : DE X W (.Constant .none j pos) (eC .non) := de_of pe_non fun _ _ => .non
theorem de_str {x j pos} : DE X W (.Constant (.str x) j pos) (eC (.str x)) := de_of pe_str fun _ _ => .str x
theorem dv (i : Nat) {x : Str} {pos : Pos} (hN : X.N[i]? = some x := by rfl) (hv : Vis X.env.scope x := by first | exact Or.inl rfl | exact Or.inr (Or.inl rfl) | exact Or.inr (Or.inr rfl)) (hd : (x == ("__debug__" : Str)) = false := by decide)
    (hcd : (x == ("__classdict__" : Str)) = false := by decide) : DE X W (.Name x pos) (eVar i) := pe_imp (pe_var hN hv hd hcd) fun σ H Q ⟨g, env, Qd, Ed, e, es, h, k, kx⟩ => by
  subst e
  unfold eVar at h
  split at h
  · rename_i d hd
    obtain ⟨v, hv, a⟩ := es.slot i d hd
    exact ⟨v, hv, k v _ g es.ok.refl (.val a) h⟩
  · exact h.elim
/-- a module's constant -/
theorem de_glob {x : Str} {v : V} {u : Value} {d : D} {pos : Pos} (hg : Gl X x) (hm : X.mg x = some u) (r : RelV v u) (a : ∀ Z F, At X.K Z F v d) (hd : (x == ("__debug__" : Str)) = false := by decide) : DE X W (.Name x pos) (eC d) :=
  de_of (pe_glob hg hm r hd) a

variable {a b : Expr} {pos : Pos}
def eBin (f : D → D → PQ) (wa wb : WE) : WE := fun env Q E => wa env (fun x => wb env (fun y => f x.d y.d Q) E) E
def eUn (f : D → PQ) (wa : WE) : WE := fun env Q E => wa env (fun x => f x.d Q) E
/-- a rule of two values, by data -/
def OpD (K : PySem.W.Frag) (r : R2) (f : D → D → PQ) : Prop := ∀ (g : Gh) (x y : V) (a b : D) (Qd : O → Prop) (Q : VK), g.Ok → At K g.Z g.F x a → At K g.Z g.F y b → f a b Qd → (∀ v o g', Step g g' → RR K g g' v o → Qd o → Q v g'.H) → r x y g.H Q
def UnD (K : PySem.W.Frag) (r : V → Hp → VK → Prop) (f : D → PQ) : Prop := ∀ (g : Gh) (x : V) (a : D) (Qd : O → Prop) (Q : VK), g.Ok → At K g.Z g.F x a → f a Qd → (∀ v o g', Step g g' → RR K g g' v o → Qd o → Q v g'.H) → r x g.H Q
theorem lop {r : R2} {f : D → D → PQ} (h : OpD X.K r f) (hw : LE X W (eBin f wa wb) σ g.H Q) : True := trivial
theorem le_bin {r : R2} {f : D → D → PQ} (hd : OpD X.K r f) (σ : L2.St) (H : Hp) (Q : VK) (h : LE X W (eBin f wa wb) σ H Q) : tOp r (LE X W wa) (LE X W wb) σ H Q := by
  obtain ⟨g, env, Qd, Ed, e, es, h, k, kx⟩ := h
  subst e
  refine LE.go (R := fun d => wb env (fun y => f d y.d Qd) Ed) es h (fun x dx g1 s1 ax h1 => ?_) kx
  refine LE.go (R := fun d => f dx d Qd) (es.step s1) h1 (fun y dy g2 s2 ay h2 => ?_) (XL.on kx s1)
  exact hd g2 x y dx dy Qd Q s2.ok (ax.mono s2.up s2.zs) ay h2 (QL.on (QL.on k s1) s2)
theorem le_un {r : V → Hp → VK → Prop} {f : D → PQ} (hd : UnD X.K r f) (σ : L2.St) (H : Hp) (Q : VK) (h : LE X W (eUn f wa) σ H Q) : tUn r (LE X W wa) σ H Q := by
  obtain ⟨g, env, Qd, Ed, e, es, h, k, kx⟩ := h
  subst e
  refine LE.go (R := fun d => f d Qd) es h (fun x dx g1 s1 ax h1 => ?_) kx
  exact hd g1 x dx Qd Q s1.ok ax h1 (QL.on k s1)
theorem de_bin {op : Operator} {r : R2} {f : D → D → PQ} (ho : OpR X (binaryOp op) r) (hd : OpD X.K r f) (ha : DE X W a wa) (hb : DE X W b wb) : DE X W (.BinOp a op b pos) (eBin f wa wb) := pe_imp (pe_op ho ha hb) (le_bin hd)
theorem de_cmp {op : CmpOp} {r : R2} {f : D → D → PQ} (ho : OpR X (compareOp op) r) (hd : OpD X.K r f) (ha : DE X W a wa) (hb : DE X W b wb) (hm : behindInMarks op b = false) : DE X W (.Compare a [op] [b] pos) (eBin f wa wb) := pe_imp (pe_cmpR ho ha hb hm) (le_bin hd)
theorem de_un {op : UnaryOp} {r : V → Hp → VK → Prop} {f : D → PQ} (ho : UnR X (unaryOp op) r) (hd : UnD X.K r f) (ha : DE X W a wa) : DE X W (.UnaryOp op a pos) (eUn f wa) := pe_imp (pe_un ho ha) (le_un hd)
theorem de_ix {r : R2} {f : D → D → PQ} (hr : IxR X r) (hd : OpD X.K r f) (ha : DE X W a wa) (hb : DE X W b wb) (hs : PlainIx b := by exact fun _ _ => rfl) : DE X W (.Subscript a b pos) (eBin f wa wb) := pe_imp (pe_ix hr ha hb hs) (le_bin hd)
end

section
variable {K : PySem.W.Frag}
/-- two ints, nothing asked -/
def fI (f : Int → Int → D) : D → D → PQ
  | .int i, .int j => fun Q => Q (.val (f i j))
  | _, _ => fun _ => False
def fIC (C : Int → Int → Prop) (f : Int → Int → D) : D → D → PQ
  | .int i, .int j => fun Q => C i j ∧ Q (.val (f i j))
  | _, _ => fun _ => False
theorem At.int_inv {Z : Zs} {F : Hp} {v : V} {i : Int} (h : At K Z F v (.int i)) : v = .int i := by cases h; rfl
theorem At.bl_inv {Z : Zs} {F : Hp} {v : V} {i : Bool} (h : At K Z F v (.bl i)) : v = .bl i := by cases h; rfl
theorem At.non_inv {Z : Zs} {F : Hp} {v : V} (h : At K Z F v .non) : v = .non := by cases h; rfl
theorem At.str_inv {Z : Zs} {F : Hp} {v : V} {x : Str} (h : At K Z F v (.str x)) : v = .str x := by cases h; rfl
theorem At.tup_inv {Z : Zs} {F : Hp} {v : V} {ds : List D} (h : At K Z F v (.tup ds)) : ∃ a vs, v = .ref a ∧ SqT K F a vs ∧ Ats K Z F vs ds := by cases h with | tup h _ hs => exact ⟨_, _, rfl, .inl (.inr ⟨_, h⟩), hs⟩
theorem At.tup_inv' {Z : Zs} {F : Hp} {v : V} {ds : List D} (h : At K Z F v (.tup ds)) : ∃ a ob vs, v = .ref a ∧ F a = some (.frz ob (.tup vs)) ∧ ob.dict = none ∧ Ats K Z F vs ds := by cases h with | tup h hd hs => exact ⟨_, _, _, rfl, h, hd, hs⟩
theorem At.lst_inv {Z : Zs} {F : Hp} {v : V} {ds : List D} (h : At K Z F v (.lst ds)) : ∃ a vs, v = .ref a ∧ F a = some (.lst vs) ∧ Ats K Z F vs ds := by cases h with | lst h hs => exact ⟨_, _, rfl, h, hs⟩
theorem od_I {f : Int → Int → V} {fd : Int → Int → D} (h : ∀ i j Z F, At K Z F (f i j) (fd i j)) : OpD K (rI0 f) (fI fd) := by
  intro g x y a b Qd Q ok ha hb hw k
  unfold fI at hw
  split at hw
  · rw [ha.int_inv, hb.int_inv]
    exact ⟨_, _, rfl, rfl, k _ _ g ok.refl (.val (h _ _ _ _)) hw⟩
  · exact hw.elim
theorem od_IC {C : Int → Int → Prop} {f : Int → Int → V} {fd : Int → Int → D} (h : ∀ i j Z F, At K Z F (f i j) (fd i j)) : OpD K (rI C f) (fIC C fd) := by
  intro g x y a b Qd Q ok ha hb hw k
  unfold fIC at hw
  split at hw
  · rw [ha.int_inv, hb.int_inv]
    exact ⟨_, _, rfl, rfl, hw.1, k _ _ g ok.refl (.val (h _ _ _ _)) hw.2⟩
  · exact hw.elim
theorem OpD.or1 {r r' : R2} {f : D → D → PQ} (h : OpD K r f) : OpD K (fun x y H Q => r x y H Q ∨ r' x y H Q) f := fun g x y a b Qd Q ok ha hb hw k => .inl (h g x y a b Qd Q ok ha hb hw k)
/-- a + b -/
def addD : D → D → PQ
  | .int i, .int j => fun Q => Q (.val (.int (i + j)))
  | .str x, .str y => fun Q => x.length + y.length ≤ sizeLine ∧ Q (.val (.str (x ++ y)))
  | .tup xs, .tup ys => fun Q => xs.length + ys.length ≤ sizeLine ∧ Q (.val (.tup (xs ++ ys)))
  | .lst xs, .lst ys => fun Q => xs.length + ys.length ≤ sizeLine ∧ Q (.lst ((xs ++ ys).map .val))
  | _, _ => fun _ => False
abbrev rAddD (K : PySem.W.Frag) : R2 := fun x y H Q => (∃ i j, x = .int i ∧ y = .int j ∧ Q (.int (i + j)) H) ∨ ((∃ i j, x = .str i ∧ y = .str j ∧ i.length + j.length ≤ sizeLine ∧ Q (.str (i ++ j)) H) ∨ (rCatF K x y H Q ∨ rCat x y H Q))
theorem op_addD {X : Cx} : OpR X (binaryOp .Add) (rAddD X.K) := op_add.or (op_add_str.or (op_catF.or op_cat))
theorem od_add : OpD K (rAddD K) addD := by
  intro g x y a b Qd Q ok ha hb hw k
  unfold addD at hw
  split at hw
  · rw [ha.int_inv, hb.int_inv]
    exact .inl ⟨_, _, rfl, rfl, k _ _ g ok.refl (.val (.int _)) hw⟩
  · rw [ha.str_inv, hb.str_inv]
    exact .inr (.inl ⟨_, _, rfl, rfl, hw.1, k _ _ g ok.refl (.val (.str _)) hw.2⟩)
  · rename_i xs ys
    obtain ⟨p, vs, rfl, hp, as⟩ := ha.tup_inv
    obtain ⟨q, ws, rfl, hq, bs⟩ := hb.tup_inv
    have l1 := as.length
    have l2 := bs.length
    refine .inr (.inr (.inl ⟨p, q, vs, ws, rfl, rfl, ok.sub.sqT hp, ok.sub.sqT hq, by omega, fun e => ?_, fun e => ?_, fun r ob hr hd => ?_⟩))
    · subst e
      cases as
      exact k _ _ g ok.refl (.val hb) hw.2
    · subst e
      cases bs
      rw [List.append_nil] at hw
      exact k _ _ g ok.refl (.val ha) hw.2
    · exact k _ _ _ (Step.laidF ok hr) (RR.newT ok hr hd (as.append bs)) hw.2
  · obtain ⟨p, vs, rfl, hp, as⟩ := ha.lst_inv
    obtain ⟨q, ws, rfl, hq, bs⟩ := hb.lst_inv
    have l1 := as.length
    have l2 := bs.length
    refine .inr (.inr (.inr ⟨p, q, vs, ws, rfl, rfl, ok.sub _ _ hp, ok.sub _ _ hq, by omega, fun r hr => ?_⟩))
    exact k _ _ _ (Step.laid ok hr) (RR.newL ok hr (as.append bs)) hw.2
  · exact hw.elim
theorem op_subD {X : Cx} : OpR X (binaryOp .Sub) (rI0 fun i j => .int (i - j)) := op_sub
abbrev subD : D → D → PQ := fI fun i j => .int (i - j)
theorem od_sub : OpD K (rI0 fun i j => .int (i - j)) subD := od_I fun _ _ _ _ => .int _
/-- a product: one side below 2^64, or both together below a million bits -/
def MulOk (i j : Int) : Prop := CMul i j ∨ CMulW i j
def mulD : D → D → PQ
  | .int i, .int j => fun Q => MulOk i j ∧ Q (.val (.int (i * j)))
  | .lst xs, .int k => fun Q => (-(2 ^ 63) ≤ k ∧ k < 2 ^ 63 ∧ xs.length * k.toNat ≤ sizeLine) ∧ Q (.lst (((List.replicate k.toNat xs).flatten).map .val))
  | .tup xs, .int k => fun Q => (xs ≠ [] ∧ 2 ≤ k ∧ k ≤ 1000 ∧ xs.length ≤ 1000) ∧ Q (.val (.tup (List.replicate k.toNat xs).flatten))
  | _, _ => fun _ => False
abbrev rMulD (K : PySem.W.Frag) : R2 := fun x y H Q => rI CMul (fun i j => .int (i * j)) x y H Q ∨ (rI CMulW (fun i j => .int (i * j)) x y H Q ∨ (rRep x y H Q ∨ rRepF K x y H Q))
theorem op_mulD {X : Cx} : OpR X (binaryOp .Mult) (rMulD X.K) := op_mul.or (op_mulW.or (op_rep.or op_repF))
theorem Ats.reps {Z : Zs} {F : Hp} {vs : List V} {ds : List D} (h : Ats K Z F vs ds) : ∀ n : Nat, Ats K Z F (List.replicate n vs).flatten (List.replicate n ds).flatten
  | 0 => .nil
  | n + 1 => by
    rw [List.replicate_succ, List.replicate_succ, List.flatten_cons, List.flatten_cons]
    exact h.append (Ats.reps h n)
theorem od_mul : OpD K (rMulD K) mulD := by
  intro g x y a b Qd Q ok ha hb hw k
  unfold mulD at hw
  split at hw
  · rw [ha.int_inv, hb.int_inv]
    rcases hw.1 with c | c
    · exact .inl ⟨_, _, rfl, rfl, c, k _ _ g ok.refl (.val (.int _)) hw.2⟩
    · exact .inr (.inl ⟨_, _, rfl, rfl, c, k _ _ g ok.refl (.val (.int _)) hw.2⟩)
  · obtain ⟨p, vs, rfl, hp, as⟩ := ha.lst_inv
    rw [hb.int_inv]
    have l1 := as.length
    obtain ⟨⟨h1, h2, h3⟩, hq⟩ := hw
    refine .inr (.inr (.inl ⟨p, _, vs, rfl, rfl, ok.sub _ _ hp, h1, h2, by rw [l1]; exact h3, fun r hr => ?_⟩))
    exact k _ _ _ (Step.laid ok hr) (RR.newL ok hr (as.reps _)) hq
  · obtain ⟨p, vs, rfl, hp, as⟩ := ha.tup_inv
    rw [hb.int_inv]
    have l1 := as.length
    obtain ⟨⟨h1, h2, h3, h4⟩, hq⟩ := hw
    refine .inr (.inr (.inr ⟨p, _, vs, rfl, rfl, ok.sub.sqT hp, fun e => h1 ?_, h2, h3, by omega, fun r ob hr hd => ?_⟩))
    · subst e
      cases as
      rfl
    · exact k _ _ _ (Step.laidF ok hr) (RR.newT ok hr hd (as.reps _)) hq
  · exact hw.elim
/-- a // b -/
def DivOk (_ j : Int) : Prop := 0 < j ∧ j.natAbs.log2 < 9000
def fdivD : D → D → PQ := fIC (fun _ j => (j ≠ 0 ∧ j.natAbs < 1073741824)) fun i j => .int (i.fdiv j)
theorem op_fdivD {X : Cx} : OpR X (binaryOp .FloorDiv) (rI CDivN fun i j => .int (i.fdiv j)) := op_fdivN
theorem od_fdiv : OpD K (rI CDivN fun i j => .int (i.fdiv j)) fdivD := od_IC fun _ _ _ _ => .int _
/-- a // b, b above 0 and great -/
def fdivWD : D → D → PQ := fIC (fun _ j => 0 < j ∧ j.natAbs.log2 < 9000) fun i j => .int (i / j)
theorem od_fdivW : OpD K (rI CDivW fun i j => .int (i / j)) fdivWD := od_IC fun _ _ _ _ => .int _
def modD : D → D → PQ := fIC (fun _ j => j ≠ 0) fun i j => .int (i.fmod j)
theorem od_mod : OpD K (rI (fun _ j => j ≠ 0) fun i j => .int (i.fmod j)) modD := od_IC fun _ _ _ _ => .int _
def powD : D → D → PQ := fIC CPow fun i j => .int (i ^ j.toNat)
theorem od_pow : OpD K (rI CPow fun i j => .int (i ^ j.toNat)) powD := od_IC fun _ _ _ _ => .int _
abbrev ltD : D → D → PQ := fI fun i j => .bl (decide (i < j))
abbrev leD : D → D → PQ := fI fun i j => .bl (decide (i ≤ j))
abbrev gtD : D → D → PQ := fI fun i j => .bl (decide (j < i))
abbrev geD : D → D → PQ := fI fun i j => .bl (decide (j ≤ i))
theorem od_lt : OpD K (rI0 fun i j => .bl (decide (i < j))) ltD := od_I fun _ _ _ _ => .bl _
theorem od_le : OpD K (rI0 fun i j => .bl (decide (i ≤ j))) leD := od_I fun _ _ _ _ => .bl _
theorem od_gt : OpD K (rI0 fun i j => .bl (decide (j < i))) gtD := od_I fun _ _ _ _ => .bl _
theorem od_ge : OpD K (rI0 fun i j => .bl (decide (j ≤ i))) geD := od_I fun _ _ _ _ => .bl _
def negD : D → PQ
  | .int i => fun Q => Q (.val (.int (-i)))
  | _ => fun _ => False
theorem ud_neg : UnD K (rU fun i => .int (-i)) negD := by
  intro g x a Qd Q ok ha hw k
  unfold negD at hw
  split at hw
  · rw [ha.int_inv]
    exact ⟨_, rfl, k _ _ g ok.refl (.val (.int _)) hw⟩
  · exact hw.elim
end

mutual
def toPy : D → PyData
  | .non => .none
  | .bl b => .bool b
  | .int i => .int i
  | .str x => .str x
  | .tup xs => .tuple (toPys xs)
  | .lst xs => .list (toPys xs)
  | .dct _ _ _ => .dict []
  | .src => .dict []
  | .scr _ => .dict []
def toPys : List D → List PyData
  | [] => []
  | x :: xs => toPy x :: toPys xs
end
theorem toPys_map : ∀ xs : List D, toPys xs = xs.map toPy
  | [] => by simp [toPys]
  | x :: xs => by simp [toPys, toPys_map xs]
mutual
/-- data that == and repr take: no dicts, texts of real signs, at most so deep -/
def okD : Nat → D → Bool
  | _, .non => true
  | _, .bl _ => true
  | _, .int _ => true
  | _, .str x => PyData.strOk x
  | n + 1, .tup xs => okDs n xs
  | n + 1, .lst xs => okDs n xs
  | _, _ => false
def okDs : Nat → List D → Bool
  | _, [] => true
  | n, x :: xs => okD n x && okDs n xs
end
@[simp] theorem okD_non (n : Nat) : okD n .non = true := by cases n <;> simp [okD]
@[simp] theorem okD_bl (n : Nat) (b : Bool) : okD n (.bl b) = true := by cases n <;> simp [okD]
@[simp] theorem okD_int (n : Nat) (i : Int) : okD n (.int i) = true := by cases n <;> simp [okD]
@[simp] theorem okD_str (n : Nat) (x : Str) : okD n (.str x) = PyData.strOk x := by cases n <;> simp [okD]
@[simp] theorem okD_tup (n : Nat) (xs : List D) : okD (n + 1) (.tup xs) = okDs n xs := by simp [okD]
@[simp] theorem okD_lst (n : Nat) (xs : List D) : okD (n + 1) (.lst xs) = okDs n xs := by simp [okD]
@[simp] theorem okDs_nil (n : Nat) : okDs n [] = true := by cases n <;> simp [okDs]
@[simp] theorem okDs_cons (n : Nat) (x : D) (xs : List D) : okDs n (x :: xs) = (okD n x && okDs n xs) := by cases n <;> simp [okDs]
theorem okDs_iff (n : Nat) : ∀ xs : List D, okDs n xs = true ↔ ∀ x ∈ xs, okD n x = true
  | [] => by simp
  | x :: xs => by simp [okDs_iff n xs]
@[simp] theorem okDs_append (n : Nat) (xs ys : List D) : okDs n (xs ++ ys) = (okDs n xs && okDs n ys) := by
  induction xs with
  | nil => simp
  | cons x r ih => simp [ih, Bool.and_assoc]
mutual
theorem okD_lay : ∀ (d : D) (n : Nat), okD n d = true → (toPy d).canLay0 = true ∧ (toPy d).depth ≤ n
  | .non, n, _ => by simp [toPy, PyData.canLay0, PyData.depth]
  | .bl _, n, _ => by simp [toPy, PyData.canLay0, PyData.depth]
  | .int _, n, _ => by simp [toPy, PyData.canLay0, PyData.depth]
  | .str x, n, h => by simp at h; simp [toPy, PyData.canLay0, PyData.depth, h]
  | .tup xs, 0, h => by simp [okD] at h
  | .tup xs, n + 1, h => by
    obtain ⟨h1, h2⟩ := okDs_lay xs n (by simpa using h)
    simp only [toPy, PyData.canLay0, PyData.depth, h1, true_and]
    omega
  | .lst xs, 0, h => by simp [okD] at h
  | .lst xs, n + 1, h => by
    obtain ⟨h1, h2⟩ := okDs_lay xs n (by simpa using h)
    simp only [toPy, PyData.canLay0, PyData.depth, h1, true_and]
    omega
  | .dct _ _ _, n, h => by cases n <;> simp [okD] at h
  | .src, n, h => by cases n <;> simp [okD] at h
  | .scr _, n, h => by cases n <;> simp [okD] at h
theorem okDs_lay : ∀ (ds : List D) (n : Nat), okDs n ds = true → PyData.canLayAll0 (toPys ds) = true ∧ PyData.depthAll (toPys ds) ≤ n
  | [], n, _ => by simp [toPys, PyData.canLayAll0, PyData.depthAll]
  | x :: xs, n, h => by
    have h' := Bool.and_eq_true_iff.mp (by simpa using h)
    obtain ⟨a1, a2⟩ := okD_lay x n h'.1
    obtain ⟨b1, b2⟩ := okDs_lay xs n h'.2
    simp only [toPys, PyData.canLayAll0, PyData.depthAll, a1, b1, Bool.and_self, true_and]
    omega
end
theorem shaped_of {d : D} {n : Nat} (h : okD n d = true) (hn : n ≤ 64) : SeqAt.shaped (toPy d) = true := by
  obtain ⟨h1, h2⟩ := okD_lay d n h
  unfold SeqAt.shaped
  rw [h1, Bool.true_and, decide_eq_true_eq]
  omega
section
variable {K : PySem.W.Frag} {Z : Zs} {F H : Hp}
mutual
theorem At.dp (e : Sub F H) : ∀ {v : V} {d : D} {n : Nat}, At K Z F v d → okD n d = true → Dp K H v (toPy d)
  | _, _, _, .non, _ => by simp only [toPy]; exact .non
  | _, _, _, .bl b, _ => by simp only [toPy]; exact .bl b
  | _, _, _, .int i, _ => by simp only [toPy]; exact .int i
  | _, _, _, .str x, _ => by simp only [toPy]; exact .str x
  | _, _, 0, .tup h _ hs, o => by simp [okD] at o
  | _, _, n + 1, .tup h _ hs, o => by simp only [toPy]; exact .tup (.inl (.inr ⟨_, e _ _ h⟩)) (Ats.dps e hs (n := n) (by simpa using o))
  | _, _, 0, .lst h hs, o => by simp [okD] at o
  | _, _, n + 1, .lst h hs, o => by simp only [toPy]; exact .lst (SqL.of (e _ _ h)) (Ats.dps e hs (n := n) (by simpa using o))
  | _, _, n, .dctK h hs, o => by cases n <;> simp [okD] at o
  | _, _, n, .dctT h _ _ hs, o => by cases n <;> simp [okD] at o
  | _, _, n, .src h, o => by cases n <;> simp [okD] at o
  | _, _, n, .scr h, o => by cases n <;> simp [okD] at o
theorem Ats.dps (e : Sub F H) : ∀ {vs : List V} {ds : List D} {n : Nat}, Ats K Z F vs ds → okDs n ds = true → DpAll K H vs (toPys ds)
  | _, _, _, .nil, _ => by simp only [toPys]; exact .nil
  | _, _, _, .cons h t, o => by
    have o' := Bool.and_eq_true_iff.mp (by simpa using o)
    simp only [toPys]
    exact .cons (At.dp e h o'.1) (Ats.dps e t o'.2)
end
def eqB (a b : D) : Bool := PyData.eqv (toPy a) (toPy b)
def okE (d : D) : Prop := okD 8 d = true
def eqD (a b : D) : PQ := fun Q => okE a ∧ okE b ∧ Q (.val (.bl (eqB a b)))
def neD (a b : D) : PQ := fun Q => okE a ∧ okE b ∧ Q (.val (.bl (!eqB a b)))
theorem od_eq : OpD K (rEqD K) eqD := fun g x y a b Qd Q ok ha hb hw k =>
  ⟨_, _, ha.dp ok.sub hw.1, hb.dp ok.sub hw.2.1, shaped_of hw.1 (by decide), shaped_of hw.2.1 (by decide), k _ _ g ok.refl (.val (.bl _)) hw.2.2⟩
theorem od_ne : OpD K (rNeD K) neD := fun g x y a b Qd Q ok ha hb hw k =>
  ⟨_, _, ha.dp ok.sub hw.1, hb.dp ok.sub hw.2.1, shaped_of hw.1 (by decide), shaped_of hw.2.1 (by decide), k _ _ g ok.refl (.val (.bl _)) hw.2.2⟩
/-- is None, is not None -/
def isNoneB : D → Bool
  | .non => true
  | _ => false
def isND (a b : D) : PQ := fun Q => isNoneB b = true ∧ Q (.val (.bl (isNoneB a)))
def notND (a b : D) : PQ := fun Q => isNoneB b = true ∧ Q (.val (.bl (!isNoneB a)))
theorem At.isNone {v : V} {d : D} (h : At K Z F v d) : decide (v = .non) = isNoneB d := by
  cases h <;> simp [isNoneB]
theorem At.none_of {v : V} {d : D} (h : At K Z F v d) (e : isNoneB d = true) : v = .non := by
  rw [← h.isNone] at e
  exact of_decide_eq_true e
theorem od_isN : OpD K (fun x y H Q => y = .non ∧ Q (.bl (decide (x = .non))) H) isND := fun g x y a b Qd Q ok ha hb hw k =>
  ⟨hb.none_of hw.1, by rw [ha.isNone]; exact k _ _ g ok.refl (.val (.bl _)) hw.2⟩
theorem od_notN : OpD K (fun x y H Q => y = .non ∧ Q (.bl (!decide (x = .non))) H) notND := fun g x y a b Qd Q ok ha hb hw k =>
  ⟨hb.none_of hw.1, by rw [ha.isNone]; exact k _ _ g ok.refl (.val (.bl _)) hw.2⟩
/-- is of two bools -/
def isBD : D → D → PQ
  | .bl a, .bl b => fun Q => Q (.val (.bl (decide (a = b))))
  | _, _ => fun _ => False
def notBD : D → D → PQ
  | .bl a, .bl b => fun Q => Q (.val (.bl (!decide (a = b))))
  | _, _ => fun _ => False
theorem od_isB : OpD K (fun x y H Q => ∃ a b, x = .bl a ∧ y = .bl b ∧ Q (.bl (decide (a = b))) H) isBD := by
  intro g x y a b Qd Q ok ha hb hw k
  unfold isBD at hw
  split at hw
  · exact ⟨_, _, ha.bl_inv, hb.bl_inv, k _ _ g ok.refl (.val (.bl _)) hw⟩
  · exact hw.elim
theorem od_notB : OpD K (fun x y H Q => ∃ a b, x = .bl a ∧ y = .bl b ∧ Q (.bl (!decide (a = b))) H) notBD := by
  intro g x y a b Qd Q ok ha hb hw k
  unfold notBD at hw
  split at hw
  · exact ⟨_, _, ha.bl_inv, hb.bl_inv, k _ _ g ok.refl (.val (.bl _)) hw⟩
  · exact hw.elim
/-- x in a list of data -/
def inD (a : D) : D → PQ
  | .lst ds => fun Q => okE a ∧ okE (.lst ds) ∧ Q (.val (.bl (ds.any fun z => eqB z a)))
  | _ => fun _ => False
def notInD (a : D) : D → PQ
  | .lst ds => fun Q => okE a ∧ okE (.lst ds) ∧ Q (.val (.bl (!ds.any fun z => eqB z a)))
  | _ => fun _ => False
theorem any_toPys (a : D) : ∀ ds : List D, ((toPys ds).any fun z => PyData.eqv z (toPy a)) = ds.any fun z => eqB z a
  | [] => by simp [toPys]
  | d :: ds => by simp [toPys, any_toPys a ds, eqB]
theorem od_in : OpD K (rInD K) inD := by
  intro g x y a b Qd Q ok ha hb hw k
  unfold inD at hw
  split at hw
  · obtain ⟨h1, h2, h3⟩ := hw
    have hb' := hb.dp ok.sub h2
    have hs := shaped_of h2 (by decide)
    simp only [toPy] at hb' hs
    refine ⟨_, _, ha.dp ok.sub h1, hb', shaped_of h1 (by decide), hs, ?_⟩
    rw [any_toPys]
    exact k _ _ g ok.refl (.val (.bl _)) h3
  · exact hw.elim
theorem od_notIn : OpD K (rNotInD K) notInD := by
  intro g x y a b Qd Q ok ha hb hw k
  unfold notInD at hw
  split at hw
  · obtain ⟨h1, h2, h3⟩ := hw
    have hb' := hb.dp ok.sub h2
    have hs := shaped_of h2 (by decide)
    simp only [toPy] at hb' hs
    refine ⟨_, _, ha.dp ok.sub h1, hb', shaped_of h1 (by decide), hs, ?_⟩
    rw [any_toPys]
    exact k _ _ g ok.refl (.val (.bl _)) h3
  · exact hw.elim
end
end DL
/-! DExp2 -/
namespace DL
open PySem PySem.Spec PyProof.Rows L2

def RRs (K : PySem.W.Frag) (g g' : Gh) (vs : List V) (os : List O) : Prop := ∃ cs, ROs K g'.Z g'.F g'.H vs os cs ∧ cs.Nodup ∧ ∀ c ∈ cs, g'.F c = none ∧ g.H c = none ∧ ¬ inZ g'.Z c
theorem RRs.nil {K : PySem.W.Frag} {g g' : Gh} : RRs K g g' [] [] := ⟨[], .nil, .nil, fun _ z => by simp at z⟩
theorem RRs.vals {K : PySem.W.Frag} {g g' : Gh} {vs : List V} {ds : List D} (h : Ats K g'.Z g'.F vs ds) : RRs K g g' vs (ds.map .val) := ⟨[], .vals h, .nil, fun _ z => by simp at z⟩
theorem RRs.append {K : PySem.W.Frag} {g g1 g2 : Gh} {vs ws : List V} {os ps : List O} (s1 : Step g g1) (s2 : Step g1 g2) (h : RRs K g g1 vs os) (t : RRs K g1 g2 ws ps) : RRs K g g2 (vs ++ ws) (os ++ ps) := by
  obtain ⟨cs, r, nd, hc⟩ := h
  obtain ⟨ds, r', nd', hd⟩ := t
  have th : ∀ c ∈ cs, ∃ u, g1.H c = some u := fun c m => by
    obtain ⟨u, h, _⟩ := r.there c m
    exact ⟨u, h⟩
  refine ⟨cs ++ ds, (ROs.mono s2.up s2.zs r fun c m u e => s2.keep c u e (hc c m).2.2).append r', List.nodup_append.mpr ⟨nd, nd', fun a ma b mb e => ?_⟩, fun c m => ?_⟩
  · subst e
    obtain ⟨u, hu⟩ := th a ma
    rw [(hd a mb).2.1] at hu
    cases hu
  · rcases List.mem_append.mp m with m | m
    · obtain ⟨u, hu⟩ := th c m
      refine ⟨s2.apart (hc c m).1 hu, (hc c m).2.1, fun z => ?_⟩
      rcases s2.zn c z with q | q
      · exact (hc c m).2.2 q
      · rw [hu] at q; cases q
    · exact ⟨(hd c m).1, s1.none_ (hd c m).2.1, (hd c m).2.2⟩
theorem RR.sing {K : PySem.W.Frag} {g g' : Gh} {v : V} {o : O} (h : RR K g g' v o) : RRs K g g' [v] [o] := by
  obtain ⟨cs, r, nd, hc⟩ := h
  refine ⟨cs, ?_, nd, hc⟩
  have := ROs.cons r (ROs.nil (K := K) (Z := g'.Z) (F := g'.F) (H := g'.H))
  rwa [List.append_nil] at this
theorem RRs.cons {K : PySem.W.Frag} {g g1 g2 : Gh} {v : V} {ws : List V} {o : O} {ps : List O} (s1 : Step g g1) (s2 : Step g1 g2) (h : RR K g g1 v o) (t : RRs K g1 g2 ws ps) : RRs K g g2 (v :: ws) (o :: ps) := RRs.append s1 s2 h.sing t
/-- all frozen -/
theorem RRs.freeze {K : PySem.W.Frag} {g g' : Gh} {vs : List V} {os : List O} (s : Step g g') (h : RRs K g g' vs os) : ∃ F', Step g ⟨g'.Z, F', g'.H⟩ ∧ Sub g'.F F' ∧ Ats K g'.Z F' vs (O.ds os) := by
  obtain ⟨cs, r, nd, hc⟩ := h
  refine ⟨thaw g'.F g'.H (· ∈ cs), ⟨s.ok.thaw fun c m => (hc c m).2.2, s.up.trans (thaw_up fun c m => (hc c m).1), fun a n m => ?_, s.keep, s.zs, s.zn⟩, thaw_up fun c m => (hc c m).1, r.at_ (thaw_up fun c m => (hc c m).1) fun c m => thaw_in m⟩
  by_cases q : a ∈ cs
  · exact (hc a q).2.1
  · have m' : thaw g'.F g'.H (· ∈ cs) a ≠ none := m
    rw [thaw_out q] at m'
    exact s.new a n m'
abbrev WA := DEnv → (List O → Prop) → EX → Prop
def LA (X : Cx) (W : WX) (w : WA) : TA := fun σ H Q => ∃ (g : Gh) (env : DEnv) (Qd : List O → Prop) (Ed : EX), g.H = H ∧ ES X.K g env σ ∧ w env Qd Ed ∧
  (∀ vs os g', Step g g' → RRs X.K g g' vs os → Qd os → Q vs g'.H) ∧ XL X W σ g Ed
abbrev DA (X : Cx) (W : WX) (es : List Expr) (w : WA) : Prop := PA X es (LA X W w)
theorem pa_imp {X : Cx} {es : List Expr} {t t' : TA} (h : PA X es t) (i : ∀ σ H Q, t' σ H Q → t σ H Q) : PA X es t' := ⟨fun pos pins s σ H Q I q => h.run pos pins s σ H Q I (i σ H Q q)⟩
section
variable {X : Cx} {W : WX} {σ : L2.St} {env : DEnv} {g g0 : Gh} {w wa wb : WE} {ws : WA} {Q : VK} {Qd : O → Prop} {Ed : EX} {e a b : Expr} {es : List Expr} {pos : Pos}
theorem LA.go {R : List D → Prop} {Q : List V → Hp → Prop} (es : ES X.K g env σ) (h : ws env (fun os => R (O.ds os)) Ed) (k : ∀ vs ds g1, Step g g1 → Ats X.K g1.Z g1.F vs ds → R ds → Q vs g1.H) (kx : XL X W σ g Ed) : LA X W ws σ g.H Q :=
  ⟨g, env, fun os => R (O.ds os), Ed, rfl, es, h, fun v o g' s r q => by
    obtain ⟨F', s1, up, a⟩ := r.freeze s
    exact k v _ ⟨g'.Z, F', g'.H⟩ s1 a q, kx⟩
theorem LA.goO {Qd : List O → Prop} {Q : List V → Hp → Prop} (es : ES X.K g env σ) (h : ws env Qd Ed) (k : ∀ vs os g', Step g g' → RRs X.K g g' vs os → Qd os → Q vs g'.H) (kx : XL X W σ g Ed) : LA X W ws σ g.H Q := ⟨g, env, Qd, Ed, rfl, es, h, k, kx⟩
def aNil : WA := fun _ Q _ => Q []
def aCons (w : WE) (ws : WA) : WA := fun env Q E => w env (fun o => ws env (fun os => Q (o :: os)) E) E
/-- the items of a starred thing -/
def itemsD : D → (List D → Prop) → Prop
  | .tup ds => fun Q => Q ds
  | .lst ds => fun Q => Q ds
  | _ => fun _ => False
def aStar (w : WE) (ws : WA) : WA := fun env Q E => w env (fun o => itemsD o.d fun ds => ws env (fun os => Q (ds.map .val ++ os)) E) E
theorem da_nil : DA X W [] aNil := pa_imp pa_nil fun σ H Q ⟨g, env, Qd, Ed, e, es, h, k, kx⟩ => by
  subst e
  exact k [] [] g es.ok.refl .nil h
theorem da_cons (ha : DE X W e w) (hr : DA X W es ws) (hs : starEach (e :: es) X.env = (false, eval e X.env) :: starEach es X.env := by rfl) : DA X W (e :: es) (aCons w ws) := pa_imp (pa_cons ha hr hs) fun σ H Q ⟨g, env, Qd, Ed, e, es, h, k, kx⟩ => by
  subst e
  refine LE.goO es h (fun v o g1 s1 r1 h1 => ?_) kx
  exact LA.goO (es.step s1) h1 (fun vs os g2 s2 r2 h2 => k _ _ g2 (s1.trans s2) (RRs.cons s1 s2 r1 r2) h2) (XL.on kx s1)
theorem da_star {p : Pos} (ha : DE X W e w) (hr : DA X W es ws) (hs : starEach (.Starred e p :: es) X.env = (true, eval e X.env) :: starEach es X.env := by rfl) : DA X W (.Starred e p :: es) (aStar w ws) := pa_imp (StX.pa_star ha hr hs) fun σ H Q ⟨g, env, Qd, Ed, e, es, h, k, kx⟩ => by
  subst e
  refine LE.go (R := fun d => itemsD d fun ds => ws env (fun os => Qd (ds.map O.val ++ os)) Ed) es h (fun v d g1 s1 a1 h1 => ?_) kx
  have fin : ∀ p vs ds, v = .ref p → (SqT X.K g1.H p vs ∨ SqL X.K g1.H p vs) → Ats X.K g1.Z g1.F vs ds → ws env (fun os => Qd (ds.map .val ++ os)) Ed → ∃ p xs, v = V.ref p ∧ (SqT X.K g1.H p xs ∨ SqL X.K g1.H p xs) ∧ LA X W ws σ g1.H fun ys H2 => Q (xs ++ ys) H2 := fun p vs ds ev hp as hw =>
    ⟨p, vs, ev, hp, LA.goO (es.step s1) hw (fun ws' os g2 s2 r2 h2 => k _ _ g2 (s1.trans s2) (RRs.append s1 s2 (RRs.vals as) r2) h2) (XL.on kx s1)⟩
  unfold itemsD at h1
  split at h1
  · obtain ⟨p, vs, ev, hp, as⟩ := a1.tup_inv
    exact fin p vs _ ev (.inl (s1.ok.sub.sqT hp)) as h1
  · obtain ⟨p, vs, ev, hp, as⟩ := a1.lst_inv
    exact fin p vs _ ev (.inr (SqL.of (s1.ok.sub _ _ hp))) as h1
  · exact h1.elim

def eTup (ws : WA) : WE := fun env Q E => ws env (fun os => os.length ≤ sizeLine ∧ Q (.val (.tup (O.ds os)))) E
def eLst (ws : WA) : WE := fun env Q E => ws env (fun os => os.length ≤ sizeLine ∧ Q (.lst os)) E
theorem O.ds_length (os : List O) : (O.ds os).length = os.length := by rw [O.ds_map, List.length_map]
theorem de_tup {x1} (h : DA X W es ws) : DE X W (.Tuple es x1 pos) (eTup ws) := pe_imp (pe_tupF h) fun σ H Q ⟨g, env, Qd, Ed, e, es, hw, k, kx⟩ => by
  subst e
  refine LA.goO es hw (fun vs os g1 s1 r1 h1 => ?_) kx
  obtain ⟨F', s2, up, as⟩ := r1.freeze s1
  have l := as.length
  rw [O.ds_length] at l
  exact ⟨by rw [l]; exact h1.1, fun p ob n hd => k _ _ _ (s2.trans (Step.laidF s2.ok n)) (RR.back s2 (RR.newT s2.ok n hd as)) h1.2⟩
theorem de_lst (h : DA X W es ws) : DE X W (.List es pos) (eLst ws) := pe_imp (pe_lst h) fun σ H Q ⟨g, env, Qd, Ed, e, es, hw, k, kx⟩ => by
  subst e
  refine LA.goO es hw (fun vs os g1 s1 r1 h1 => ?_) kx
  obtain ⟨cs, r, nd, hc⟩ := r1
  refine ⟨by rw [r.length]; exact h1.1, fun p n => k _ _ _ (s1.trans (Step.laid s1.ok n)) ⟨p :: cs, .lst upd_same (ROs.mono (Sub.refl _) (fun _ q => q) r fun c m u e => ?_), ?_, fun c m => ?_⟩ h1.2⟩
  · show upd g1.H p _ c = some u
    rw [upd_ne (ne_of_none e n)]
    exact e
  · refine List.nodup_cons.mpr ⟨fun m => ?_, nd⟩
    obtain ⟨u, hu, _⟩ := r.there p m
    rw [n] at hu; cases hu
  · rcases List.mem_cons.mp m with rfl | m
    · exact ⟨s1.ok.noF n, s1.none_ n, s1.ok.noZ n⟩
    · exact hc c m

def eB (f : List D → PQ) (ws : WA) : WE := fun env Q E => ws env (fun os => f (O.ds os) Q) E
def CallD (K : PySem.W.Frag) (r : List V → Hp → VK → Prop) (f : List D → PQ) : Prop := ∀ (g : Gh) (vs : List V) (ds : List D) (Qd : O → Prop) (Q : VK), g.Ok → Ats K g.Z g.F vs ds → f ds Qd → (∀ v o g', Step g g' → RR K g g' v o → Qd o → Q v g'.H) → r vs g.H Q
theorem le_cb {r : List V → Hp → VK → Prop} {f : List D → PQ} (hd : CallD X.K r f) (σ : L2.St) (H : Hp) (Q : VK) (h : LE X W (eB f ws) σ H Q) : tCB r (LA X W ws) σ H Q := by
  obtain ⟨g, env, Qd, Ed, e, es, h, k, kx⟩ := h
  subst e
  refine LA.go (R := fun ds => f ds Qd) es h (fun vs ds g1 s1 as h1 => ?_) kx
  exact hd g1 vs ds Qd Q s1.ok as h1 (QL.on k s1)
theorem de_blt {x : Str} {p : Pos} {id : String} {r : List V → Hp → VK → Prop} {f : List D → PQ} (hc : CallR X (.builtin id) r) (hd : CallD X.K r f) (hm : X.mg x = none) (hv : bootBuiltins x = some (.builtin id)) (ha : DA X W (e :: es) ws) (hg : Gl X x := by rfl) (hn : x ≠ "__name__" := by decide) (hdb : (x == ("__debug__" : Str)) = false := by decide)
    (he : starEach (e :: es) X.env = (false, eval e X.env) :: starEach es X.env := by rfl) (hpl : (backTo pos (starEach es X.env)).any (·.1) = false := by rfl) : DE X W (.Call (.Name x p) (e :: es) [] pos) (eB f ws) :=
  pe_imp (pe_callB hc hg hm hv ha hn hdb he hpl) (le_cb hd)
theorem de_ty {x : Str} {p : Pos} {T : String} {r : List V → Hp → VK → Prop} {f : List D → PQ} (hc : CallR X (.type T) r) (hd : CallD X.K r f) (hm : X.mg x = none) (hv : bootBuiltins x = some (.type T)) (ha : DA X W (e :: es) ws) (hg : Gl X x := by rfl) (hn : x ≠ "__name__" := by decide) (hdb : (x == ("__debug__" : Str)) = false := by decide)
    (he : starEach (e :: es) X.env = (false, eval e X.env) :: starEach es X.env := by rfl) (hpl : (backTo pos (starEach es X.env)).any (·.1) = false := by rfl) : DE X W (.Call (.Name x p) (e :: es) [] pos) (eB f ws) :=
  pe_imp (pe_callTy hc hg hm hv ha hn hdb he hpl) (le_cb hd)
end
section
variable {K : PySem.W.Frag} {X : Cx}
theorem Ats.one_inv {Z : Zs} {F : Hp} {vs : List V} {d : D} (h : Ats K Z F vs [d]) : ∃ v, vs = [v] ∧ At K Z F v d := by
  cases h with
  | cons h t => cases t; exact ⟨_, rfl, h⟩
theorem Ats.two_inv {Z : Zs} {F : Hp} {vs : List V} {d e : D} (h : Ats K Z F vs [d, e]) : ∃ v w, vs = [v, w] ∧ At K Z F v d ∧ At K Z F w e := by
  cases h with
  | cons h t =>
    obtain ⟨w, rfl, h'⟩ := t.one_inv
    exact ⟨_, _, rfl, h, h'⟩
/-- len -/
def lenD : List D → PQ
  | [.tup ds] => fun Q => Q (.val (.int ds.length))
  | [.lst ds] => fun Q => Q (.val (.int ds.length))
  | [.str x] => fun Q => x.length ≤ sizeLine ∧ Q (.val (.int x.length))
  | _ => fun _ => False
abbrev rLenD (K : PySem.W.Frag) : List V → Hp → VK → Prop := fun xs H Q => (∃ p ys, xs = [.ref p] ∧ (SqL K H p ys ∨ SqT K H p ys) ∧ Q (.int ys.length) H) ∨ ∃ z, xs = [.str z] ∧ z.length ≤ sizeLine ∧ Q (.int z.length) H
theorem call_lenD' : CallR X (.builtin "len") (rLenD X.K) := CallR.or call_len_seq call_len_str
theorem cd_len : CallD K (rLenD K) lenD := by
  intro g vs ds Qd Q ok ha hw k
  unfold lenD at hw
  split at hw
  · obtain ⟨v, rfl, a⟩ := ha.one_inv
    obtain ⟨p, vs, rfl, hp, as⟩ := a.tup_inv
    refine .inl ⟨p, vs, rfl, .inr (ok.sub.sqT hp), ?_⟩
    rw [as.length]
    exact k _ _ g ok.refl (.val (.int _)) hw
  · obtain ⟨v, rfl, a⟩ := ha.one_inv
    obtain ⟨p, vs, rfl, hp, as⟩ := a.lst_inv
    refine .inl ⟨p, vs, rfl, .inl (SqL.of (ok.sub _ _ hp)), ?_⟩
    rw [as.length]
    exact k _ _ g ok.refl (.val (.int _)) hw
  · obtain ⟨v, rfl, a⟩ := ha.one_inv
    rw [a.str_inv]
    exact .inr ⟨_, rfl, hw.1, k _ _ g ok.refl (.val (.int _)) hw.2⟩
  · exact hw.elim
/-- tuple(x), list(x) -/
def tupleD : List D → PQ
  | [.tup ds] => fun Q => Q (.val (.tup ds))
  | [.lst ds] => fun Q => Q (.val (.tup ds))
  | _ => fun _ => False
def listD : List D → PQ
  | [.tup ds] => fun Q => Q (.lst (ds.map .val))
  | [.lst ds] => fun Q => Q (.lst (ds.map .val))
  | _ => fun _ => False
theorem cd_tuple : CallD K (rToT K) tupleD := by
  intro g vs ds Qd Q ok ha hw k
  unfold tupleD at hw
  split at hw
  · obtain ⟨v, rfl, a⟩ := ha.one_inv
    have a' := a
    obtain ⟨p, vs, rfl, hp, as⟩ := a.tup_inv
    exact ⟨p, vs, rfl, .inr ⟨ok.sub.sqT hp, k _ _ g ok.refl (.val a') hw⟩⟩
  · obtain ⟨v, rfl, a⟩ := ha.one_inv
    obtain ⟨p, vs, rfl, hp, as⟩ := a.lst_inv
    exact ⟨p, vs, rfl, .inl ⟨SqL.of (ok.sub _ _ hp), fun l ob n hd => k _ _ _ (Step.laidF ok n) (RR.newT ok n hd as) hw⟩⟩
  · exact hw.elim
theorem cd_list : CallD K (fun xs H Q => ∃ p ys, xs = [.ref p] ∧ (SqL K H p ys ∨ SqT K H p ys) ∧ ∀ l, H l = none → Q (.ref l) (upd H l (.lst ys))) listD := by
  intro g vs ds Qd Q ok ha hw k
  unfold listD at hw
  split at hw
  · obtain ⟨v, rfl, a⟩ := ha.one_inv
    obtain ⟨p, vs, rfl, hp, as⟩ := a.tup_inv
    exact ⟨p, vs, rfl, .inr (ok.sub.sqT hp), fun l n => k _ _ _ (Step.laid ok n) (RR.newL ok n as) hw⟩
  · obtain ⟨v, rfl, a⟩ := ha.one_inv
    obtain ⟨p, vs, rfl, hp, as⟩ := a.lst_inv
    exact ⟨p, vs, rfl, .inl (SqL.of (ok.sub _ _ hp)), fun l n => k _ _ _ (Step.laid ok n) (RR.newL ok n as) hw⟩
  · exact hw.elim
/-- int(x), abs(x), max(x, y), min(x, y) of ints -/
def intD : List D → PQ
  | [.int i] => fun Q => Q (.val (.int i))
  | [.bl b] => fun Q => Q (.val (.int (if b then 1 else 0)))
  | _ => fun _ => False
theorem cd_int : CallD K (fun xs H Q => (∃ i, xs = [.int i] ∧ Q (.int i) H) ∨ ∃ k, xs = [.bl k] ∧ Q (.int (if k then 1 else 0)) H) intD := by
  intro g vs ds Qd Q ok ha hw k
  unfold intD at hw
  split at hw
  · obtain ⟨v, rfl, a⟩ := ha.one_inv
    rw [a.int_inv]
    exact .inl ⟨_, rfl, k _ _ g ok.refl (.val (.int _)) hw⟩
  · obtain ⟨v, rfl, a⟩ := ha.one_inv
    rw [a.bl_inv]
    exact .inr ⟨_, rfl, k _ _ g ok.refl (.val (.int _)) hw⟩
  · exact hw.elim
def absD : List D → PQ
  | [.int i] => fun Q => Q (.val (.int (if i < 0 then -i else i)))
  | _ => fun _ => False
theorem cd_abs : CallD K (fun xs H Q => ∃ i, xs = [.int i] ∧ Q (.int (if i < 0 then -i else i)) H) absD := by
  intro g vs ds Qd Q ok ha hw k
  unfold absD at hw
  split at hw
  · obtain ⟨v, rfl, a⟩ := ha.one_inv
    rw [a.int_inv]
    exact ⟨_, rfl, k _ _ g ok.refl (.val (.int _)) hw⟩
  · exact hw.elim
def max2D : List D → PQ
  | [.int i, .int j] => fun Q => Q (.val (.int (if j > i then j else i)))
  | _ => fun _ => False
def min2D : List D → PQ
  | [.int i, .int j] => fun Q => Q (.val (.int (if j < i then j else i)))
  | _ => fun _ => False
theorem cd_max2 : CallD K (fun xs H Q => ∃ i j, xs = [.int i, .int j] ∧ Q (.int (if j > i then j else i)) H) max2D := by
  intro g vs ds Qd Q ok ha hw k
  unfold max2D at hw
  split at hw
  · obtain ⟨v, w, rfl, a, b⟩ := ha.two_inv
    rw [a.int_inv, b.int_inv]
    exact ⟨_, _, rfl, k _ _ g ok.refl (.val (.int _)) hw⟩
  · exact hw.elim
theorem cd_min2 : CallD K (fun xs H Q => ∃ i j, xs = [.int i, .int j] ∧ Q (.int (if j < i then j else i)) H) min2D := by
  intro g vs ds Qd Q ok ha hw k
  unfold min2D at hw
  split at hw
  · obtain ⟨v, w, rfl, a, b⟩ := ha.two_inv
    rw [a.int_inv, b.int_inv]
    exact ⟨_, _, rfl, k _ _ g ok.refl (.val (.int _)) hw⟩
  · exact hw.elim
end

section
variable {K : PySem.W.Frag} {X : Cx}
/-- x[i] -/
def ixD : D → D → PQ
  | .tup ds, .int i => fun Q => ∃ d, atI ds i = some d ∧ Q (.val d)
  | .lst ds, .int i => fun Q => ∃ d, atI ds i = some d ∧ Q (.val d)
  | .str z, .int i => fun Q => z.length ≤ sizeLine ∧ ∃ c, atI z.cps.toList i = some c ∧ Q (.val (.str ⟨#[c]⟩))
  | _, _ => fun _ => False
theorem Ats.atI {Z : Zs} {F : Hp} {vs : List V} {ds : List D} {i : Int} {d : D} (h : Ats K Z F vs ds) (e : L2.atI ds i = some d) : ∃ v, L2.atI vs i = some v ∧ At K Z F v d := by
  unfold L2.atI at e ⊢
  rw [h.length]
  cases q : ixN ds.length i with
  | none => rw [q] at e; cases e
  | some j =>
    rw [q] at e
    exact h.get e
theorem od_ix : OpD K (rIx K) ixD := by
  intro g x y a b Qd Q ok ha hb hw k
  unfold ixD at hw
  split at hw
  · obtain ⟨p, vs, rfl, hp, as⟩ := ha.tup_inv
    rw [hb.int_inv]
    obtain ⟨d, e, q⟩ := hw
    obtain ⟨v, e', a'⟩ := as.atI e
    exact .inr (.inl ⟨p, vs, _, v, rfl, rfl, ok.sub.sqT hp, e', k _ _ g ok.refl (.val a') q⟩)
  · obtain ⟨p, vs, rfl, hp, as⟩ := ha.lst_inv
    rw [hb.int_inv]
    obtain ⟨d, e, q⟩ := hw
    obtain ⟨v, e', a'⟩ := as.atI e
    exact .inl ⟨p, vs, _, v, rfl, rfl, SqL.of (ok.sub _ _ hp), e', k _ _ g ok.refl (.val a') q⟩
  · rw [ha.str_inv, hb.int_inv]
    obtain ⟨h1, c, e, q⟩ := hw
    exact .inr (.inr ⟨_, _, c, rfl, rfl, h1, e, k _ _ g ok.refl (.val (.str _)) q⟩)
  · exact hw.elim
abbrev WO := DEnv → (Option Int → Prop) → EX → Prop
def LO (X : Cx) (W : WX) (w : WO) : TO := fun σ H Q => ∃ (g : Gh) (env : DEnv) (Qd : Option Int → Prop) (Ed : EX), g.H = H ∧ ES X.K g env σ ∧ w env Qd Ed ∧
  (∀ o g', Step g g' → Qd o → Q o g'.H) ∧ XL X W σ g Ed
abbrev DO (X : Cx) (W : WX) (e : Option Expr) (w : WO) : Prop := PO X e (LO X W w)
theorem po_imp {e : Option Expr} {t t' : TO} (h : PO X e t) (i : ∀ σ H Q, t' σ H Q → t σ H Q) : PO X e t' := ⟨fun pins s σ H Q I q => h.run pins s σ H Q I (i σ H Q q)⟩
def oNo : WO := fun _ Q _ => Q none
def oSo (w : WE) : WO := fun env Q E => w env (fun o => match o.d with | .int i => Q (some i) | _ => False) E
variable {W : WX} {w : WE} {e : Expr} {lo hi : Option Expr} {wl wh : WO} {pos p2 : Pos}
theorem do_no : DO X W none oNo := po_imp po_none fun σ H Q ⟨g, env, Qd, Ed, e, es, h, k, kx⟩ => by
  subst e
  exact k _ g es.ok.refl h
theorem do_so (h : DE X W e w) : DO X W (some e) (oSo w) := po_imp (po_some h) fun σ H Q ⟨g, env, Qd, Ed, e, es, h, k, kx⟩ => by
  subst e
  refine LE.go (R := fun d => match d with | .int i => Qd (some i) | _ => False) es h (fun v d g1 s1 a1 h1 => ?_) kx
  split at h1
  · rw [a1.int_inv]
    exact ⟨_, rfl, k _ g1 s1 h1⟩
  · exact h1.elim
def cut {α : Type} (xs : List α) (lo hi : Option Int) : List α := (xs.drop (HT.sIx xs.length 0 lo)).take (HT.sIx xs.length xs.length hi - HT.sIx xs.length 0 lo)
def sliceD : D → Option Int → Option Int → PQ
  | .tup ds, lo, hi => fun Q => Q (.val (.tup (cut ds lo hi)))
  | .lst ds, lo, hi => fun Q => Q (.lst ((cut ds lo hi).map .val))
  | _, _, _ => fun _ => False
def eSl (we : WE) (wl wh : WO) : WE := fun env Q E => we env (fun o => wl env (fun l => wh env (fun h => sliceD o.d l h Q) E) E) E
abbrev rSlD (K : PySem.W.Frag) : V → Option Int → Option Int → Hp → VK → Prop := fun x lo hi H Q => rSlF K x lo hi H Q ∨ rSlL K x lo hi H Q
theorem cut_ats {Z : Zs} {F : Hp} {vs : List V} {ds : List D} (h : Ats K Z F vs ds) (lo hi : Option Int) : Ats K Z F (cutV vs lo hi) (cut ds lo hi) := by
  unfold cutV cut
  rw [h.length]
  exact (h.drop _).take _
theorem cut_whole {α : Type} {ds : List α} {lo hi : Option Int} (h : HT.sIx ds.length 0 lo = 0 ∧ HT.sIx ds.length ds.length hi = ds.length) : cut ds lo hi = ds := by
  unfold cut
  rw [h.1, h.2, List.drop_zero, Nat.sub_zero, List.take_length]
theorem de_slice (he : DE X W e w) (hl : DO X W lo wl) (hu : DO X W hi wh) : DE X W (.Subscript e (.Slice lo hi none p2) pos) (eSl w wl wh) := pe_imp (pe_slice (sl_tupF.or sl_list) he hl hu) fun σ H Q ⟨g, env, Qd, Ed, e, es, h, k, kx⟩ => by
  subst e
  refine LE.go (R := fun d => wl env (fun l => wh env (fun h => sliceD d l h Qd) Ed) Ed) es h (fun v d g1 s1 a1 h1 => ?_) kx
  refine ⟨g1, env, _, Ed, rfl, es.step s1, h1, fun l g2 s2 h2 => ?_, XL.on kx s1⟩
  refine ⟨g2, env, _, Ed, rfl, (es.step s1).step s2, h2, fun u g3 s3 h3 => ?_, XL.on (XL.on kx s1) s2⟩
  have a3 := (a1.mono s2.up s2.zs).mono s3.up s3.zs
  have k3 : QL X g3 Qd Q := QL.on (QL.on (QL.on k s1) s2) s3
  unfold sliceD at h3
  split at h3
  · have a3' := a3
    obtain ⟨p, vs, rfl, hp, as⟩ := a3.tup_inv
    have el := as.length
    refine .inl ⟨p, vs, rfl, s3.ok.sub.sqT hp, fun hw => ?_, fun q ob n hd => ?_⟩
    · rw [el] at hw
      rw [cut_whole hw] at h3
      exact k3 _ _ g3 s3.ok.refl (.val a3') h3
    · exact k3 _ _ _ (Step.laidF s3.ok n) (RR.newT s3.ok n hd (cut_ats as _ _)) h3
  · obtain ⟨p, vs, rfl, hp, as⟩ := a3.lst_inv
    exact .inr ⟨p, vs, rfl, SqL.of (s3.ok.sub _ _ hp), fun q n => k3 _ _ _ (Step.laid s3.ok n) (RR.newL s3.ok n (cut_ats as _ _)) h3⟩
  · exact h3.elim
/-- xs[::-1] of a list -/
def revLD : D → PQ
  | .lst ds => fun Q => Q (.lst (ds.reverse.map .val))
  | _ => fun _ => False
theorem de_revL {k : Nat} {p1 p3 : Pos} (he : DE X W e w) : DE X W (.Subscript e (.Slice none none (some (.UnaryOp .USub (.Constant (.int 1) k p1) p2)) p3) pos) (eUn revLD w) := pe_imp (pe_revL he) fun σ H Q ⟨g, env, Qd, Ed, e, es, h, k, kx⟩ => by
  subst e
  refine LE.go (R := fun d => revLD d Qd) es h (fun v d g1 s1 a1 h1 => ?_) kx
  unfold revLD at h1
  split at h1
  · obtain ⟨p, vs, rfl, hp, as⟩ := a1.lst_inv
    exact ⟨p, vs, rfl, SqL.of (s1.ok.sub _ _ hp), fun q n => (QL.on k s1) _ _ _ (Step.laid s1.ok n) (RR.newL s1.ok n as.rev) h1⟩
  · exact h1.elim
end

abbrev WT := DEnv → (Bool → Prop) → EX → Prop
def LT (X : Cx) (W : WX) (w : WT) : TT := fun σ H Q => ∃ (g : Gh) (env : DEnv) (Qd : Bool → Prop) (Ed : EX), g.H = H ∧ ES X.K g env σ ∧ w env Qd Ed ∧
  (∀ b g', Step g g' → Qd b → Q b g'.H) ∧ XL X W σ g Ed
abbrev DT (X : Cx) (W : WX) (e : Expr) (w : WT) : Prop := PT X e (LT X W w)
abbrev DW (X : Cx) (W : WX) (e : Expr) (w : WT) : Prop := PW X e (LT X W w)
section
variable {X : Cx} {W : WX} {σ : L2.St} {env : DEnv} {g g0 : Gh} {w wa wb wc : WE} {t u : WT} {e a b c : Expr} {rest : List Expr} {pos : Pos}
theorem pt_imp {t t' : TT} (h : PT X e t) (i : ∀ σ H Q, t' σ H Q → t σ H Q) : PT X e t' := ⟨fun pins s σ H Q I q => h.run pins s σ H Q I (i σ H Q q)⟩
theorem pw_imp {t t' : TT} (h : PW X e t) (i : ∀ σ H Q, t' σ H Q → t σ H Q) : PW X e t' := ⟨fun wh pins s σ H Q I q => h.run wh pins s σ H Q I (i σ H Q q)⟩
theorem LT.go {Qd : Bool → Prop} {Ed : EX} {Q : Bool → Hp → Prop} (es : ES X.K g env σ) (h : t env Qd Ed) (k : ∀ b g', Step g g' → Qd b → Q b g'.H) (kx : XL X W σ g Ed) : LT X W t σ g.H Q := ⟨g, env, Qd, Ed, rfl, es, h, k, kx⟩
/-- a bool -/
def blD (Q : Bool → Prop) : D → Prop
  | .bl b => Q b
  | _ => False
def tBl (w : WE) : WT := fun env Q E => w env (fun o => blD Q o.d) E
def truD (Q : Bool → Prop) : D → Prop
  | .non => Q false
  | .bl b => Q b
  | .int i => Q (i != 0)
  | .str x => x.length ≤ sizeLine ∧ Q ((x.length : Int) != 0)
  | .tup ds => Q (!ds.isEmpty)
  | .lst ds => Q (!ds.isEmpty)
  | _ => False
def tTru (w : WE) : WT := fun env Q E => w env (fun o => truD Q o.d) E
theorem Ats.isEmpty {K : PySem.W.Frag} {Z : Zs} {F : Hp} {vs : List V} {ds : List D} (h : Ats K Z F vs ds) : vs.isEmpty = ds.isEmpty := by cases h <;> rfl
theorem dt_bl {t : TE} (h : PT X e (fun σ H Q => t σ H fun x H' => ∃ k, x = .bl k ∧ Q k H')) (i : ∀ σ H Q, LE X W w σ H Q → t σ H Q) : DT X W e (tBl w) := pt_imp h fun σ H Q ⟨g, env, Qd, Ed, e, es, hw, k, kx⟩ => by
  subst e
  refine i _ _ _ (LE.go (R := fun d => blD Qd d) es hw (fun v d g1 s1 a1 h1 => ?_) kx)
  unfold blD at h1
  split at h1
  · rw [a1.bl_inv]
    exact ⟨_, rfl, k _ g1 s1 h1⟩
  · exact h1.elim
theorem dt_cmp {op : CmpOp} {r : R2} {f : D → D → PQ} (ho : OpR X (compareOp op) r) (hd : OpD X.K r f) (ha : DE X W a wa) (hb : DE X W b wb) (hm : behindInMarks op b = false) : DT X W (.Compare a [op] [b] pos) (tBl (eBin f wa wb)) :=
  dt_bl (pt_cmpR ho ha hb hm) (le_bin hd)
theorem dt_tru (h : DE X W e w) (he : ∀ whole, isTrue e X.env whole = (do let v ← whole; standAt e.pos; holding [v] (truthy v)) := by intro _; rfl) : DT X W e (tTru w) := pt_imp (pt_truth h he) fun σ H Q ⟨g, env, Qd, Ed, e, es, hw, k, kx⟩ => by
  subst e
  refine LE.go (R := fun d => truD Qd d) es hw (fun v d g1 s1 a1 h1 => ?_) kx
  unfold truD at h1
  split at h1
  · rw [a1.non_inv]
    exact ⟨_, rfl, k _ g1 s1 h1⟩
  · rw [a1.bl_inv]
    exact ⟨_, rfl, k _ g1 s1 h1⟩
  · rw [a1.int_inv]
    exact ⟨_, rfl, k _ g1 s1 h1⟩
  · rw [a1.str_inv]
    exact ⟨_, ⟨h1.1, rfl⟩, k _ g1 s1 h1.2⟩
  · obtain ⟨p, vs, rfl, hp, as⟩ := a1.tup_inv
    exact ⟨_, .inr (.inl ⟨vs, s1.ok.sub.sqT hp, by rw [as.isEmpty]⟩), k _ g1 s1 h1⟩
  · obtain ⟨p, vs, rfl, hp, as⟩ := a1.lst_inv
    exact ⟨_, .inl ⟨vs, SqL.of (s1.ok.sub _ _ hp), by rw [as.isEmpty]⟩, k _ g1 s1 h1⟩
  · exact h1.elim
/-- a < b <= c -/
def eChain (f f' : D → D → PQ) (wa wb wc : WE) : WE := fun env Q E => wa env (fun x => wb env (fun y => f x.d y.d fun z => blD (fun k => if k = true then wc env (fun u => f' y.d u.d Q) E else Q (.val (.bl false))) z.d) E) E
theorem le_chain {r r' : R2} {f f' : D → D → PQ} (hd : OpD X.K r f) (hd' : OpD X.K r' f') (σ : L2.St) (H : Hp) (Q : VK) (h : LE X W (eChain f f' wa wb wc) σ H Q) : tChain r r' (LE X W wa) (LE X W wb) (LE X W wc) σ H Q := by
  obtain ⟨g, env, Qd, Ed, e, es, h, k, kx⟩ := h
  subst e
  refine LE.go (R := fun x => wb env (fun y => f x y.d fun z => blD (fun k => if k = true then wc env (fun u => f' y.d u.d Qd) Ed else Qd (.val (.bl false))) z.d) Ed) es h (fun x dx g1 s1 ax h1 => ?_) kx
  refine LE.go (R := fun y => f dx y fun z => blD (fun k => if k = true then wc env (fun u => f' y u.d Qd) Ed else Qd (.val (.bl false))) z.d) (es.step s1) h1 (fun y dy g2 s2 ay h2 => ?_) (XL.on kx s1)
  refine hd g2 x y dx dy _ _ s2.ok (ax.mono s2.up s2.zs) ay h2 fun z o g3 s3 r3 h3 => ?_
  obtain ⟨F', s4, up, a4⟩ := r3.freeze s3
  unfold blD at h3
  split at h3
  · rename_i bb eb
    rw [eb] at a4
    refine ⟨bb, a4.bl_inv, ?_⟩
    have s04 := (s1.trans s2).trans s4
    cases bb with
    | true =>
      rw [if_pos rfl] at h3 ⊢
      refine LE.go (g := ⟨g3.Z, F', g3.H⟩) (R := fun u => f' dy u Qd) (es.step s04) h3 (fun u du g5 s5 au h5 => ?_) (XL.on kx s04)
      exact hd' g5 y u dy du Qd Q s5.ok ((ay.mono s4.up s4.zs).mono s5.up s5.zs) au h5 (QL.on (QL.on k s04) s5)
    | false =>
      rw [if_neg (by decide)] at h3 ⊢
      exact k _ _ ⟨g3.Z, F', g3.H⟩ s04 (.val (.bl false)) h3
  · exact h3.elim
theorem de_chain {op op' : CmpOp} {r r' : R2} {f f' : D → D → PQ} (ho : OpR X (compareOp op) r) (hd : OpD X.K r f) (ho' : OpR X (compareOp op') r') (hd' : OpD X.K r' f') (ha : DE X W a wa) (hb : DE X W b wb) (hc : DE X W c wc)
    (hm : lastMarks [op, op'] [b, c] = false := by with_unfolding_all rfl) : DE X W (.Compare a [op, op'] [b, c] pos) (eChain f f' wa wb wc) := pe_imp (pe_chain ho ho' ha hb hc hm) (le_chain hd hd')
theorem dt_chain {op op' : CmpOp} {r r' : R2} {f f' : D → D → PQ} (ho : OpR X (compareOp op) r) (hd : OpD X.K r f) (ho' : OpR X (compareOp op') r') (hd' : OpD X.K r' f') (ha : DE X W a wa) (hb : DE X W b wb) (hc : DE X W c wc)
    (hm : lastMarks [op, op'] [b, c] = false := by with_unfolding_all rfl) : DT X W (.Compare a [op, op'] [b, c] pos) (tBl (eChain f f' wa wb wc)) := dt_bl (pt_chain ho ho' ha hb hc hm) (le_chain hd hd')
/-- and, or, not -/
def wAnd (t u : WT) : WT := fun env Q E => t env (fun c => if c = true then u env Q E else Q false) E
def wOr (t u : WT) : WT := fun env Q E => t env (fun c => if c = true then Q true else u env Q E) E
def wNot (t : WT) : WT := fun env Q E => t env (fun c => Q (!c)) E
theorem dw_and1 (h : DT X W a t) : DW X W (.BoolOp .And [a] pos) t := pw_and1 h
theorem dw_or1 (h : DT X W a t) : DW X W (.BoolOp .Or [a] pos) t := pw_or1 h
theorem dw_and (h : DT X W a t) (h' : DW X W (.BoolOp .And (b :: rest) pos) u) : DW X W (.BoolOp .And (a :: b :: rest) pos) (wAnd t u) := pw_imp (pw_and h h') fun σ H Q ⟨g, env, Qd, Ed, e, es, hw, k, kx⟩ => by
  subst e
  refine LT.go es hw (fun c g1 s1 h1 => ?_) kx
  cases c with
  | true =>
    rw [if_pos rfl] at h1 ⊢
    exact LT.go (es.step s1) h1 (fun b g2 s2 => k b g2 (s1.trans s2)) (XL.on kx s1)
  | false =>
    rw [if_neg (by decide)] at h1 ⊢
    exact k _ g1 s1 h1
theorem dw_or (h : DT X W a t) (h' : DW X W (.BoolOp .Or (b :: rest) pos) u) : DW X W (.BoolOp .Or (a :: b :: rest) pos) (wOr t u) := pw_imp (pw_or h h') fun σ H Q ⟨g, env, Qd, Ed, e, es, hw, k, kx⟩ => by
  subst e
  refine LT.go es hw (fun c g1 s1 h1 => ?_) kx
  cases c with
  | false =>
    rw [if_neg (by decide)] at h1 ⊢
    exact LT.go (es.step s1) h1 (fun b g2 s2 => k b g2 (s1.trans s2)) (XL.on kx s1)
  | true =>
    rw [if_pos rfl] at h1 ⊢
    exact k _ g1 s1 h1
theorem dt_w (h : DW X W e t) : DT X W e t := h.pt
theorem dt_not (h : DT X W a t) : DT X W (.UnaryOp .Not a pos) (wNot t) := pt_imp (pt_not h) fun σ H Q ⟨g, env, Qd, Ed, e, es, hw, k, kx⟩ => by
  subst e
  exact LT.go es hw (fun c g1 s1 h1 => k _ g1 s1 h1) kx
/-- .. as values, bools ahead of the last -/
def eAnd (wa wb : WE) : WE := fun env Q E => wa env (fun o => blD (fun c => if c = true then wb env Q E else Q (.val (.bl false))) o.d) E
def eOr (wa wb : WE) : WE := fun env Q E => wa env (fun o => blD (fun c => if c = true then Q (.val (.bl true)) else wb env Q E) o.d) E
def eNot (wa : WE) : WE := fun env Q E => wa env (fun o => blD (fun c => Q (.val (.bl (!c)))) o.d) E
theorem de_one {op} (h : DE X W a w) : DE X W (.BoolOp op [a] pos) w := pe_one h
theorem de_and (ha : DE X W a wa) (hb : DE X W (.BoolOp .And (b :: rest) pos) wb) : DE X W (.BoolOp .And (a :: b :: rest) pos) (eAnd wa wb) := pe_imp (pe_and ha hb) fun σ H Q ⟨g, env, Qd, Ed, e, es, hw, k, kx⟩ => by
  subst e
  refine LE.go (R := fun d => blD (fun c => if c = true then wb env Qd Ed else Qd (.val (.bl false))) d) es hw (fun v d g1 s1 a1 h1 => ?_) kx
  unfold blD at h1
  split at h1
  · rename_i c
    refine ⟨c, a1.bl_inv, ?_⟩
    cases c with
    | true =>
      rw [if_pos rfl] at h1 ⊢
      exact LE.goO (es.step s1) h1 (QL.on k s1) (XL.on kx s1)
    | false =>
      rw [if_neg (by decide)] at h1 ⊢
      exact k _ _ g1 s1 (.val (.bl false)) h1
  · exact h1.elim
theorem de_or (ha : DE X W a wa) (hb : DE X W (.BoolOp .Or (b :: rest) pos) wb) : DE X W (.BoolOp .Or (a :: b :: rest) pos) (eOr wa wb) := pe_imp (pe_or ha hb) fun σ H Q ⟨g, env, Qd, Ed, e, es, hw, k, kx⟩ => by
  subst e
  refine LE.go (R := fun d => blD (fun c => if c = true then Qd (.val (.bl true)) else wb env Qd Ed) d) es hw (fun v d g1 s1 a1 h1 => ?_) kx
  unfold blD at h1
  split at h1
  · rename_i c
    refine ⟨c, a1.bl_inv, ?_⟩
    cases c with
    | false =>
      rw [if_neg (by decide)] at h1 ⊢
      exact LE.goO (es.step s1) h1 (QL.on k s1) (XL.on kx s1)
    | true =>
      rw [if_pos rfl] at h1 ⊢
      exact k _ _ g1 s1 (.val (.bl true)) h1
  · exact h1.elim
theorem de_not (ha : DE X W a wa) : DE X W (.UnaryOp .Not a pos) (eNot wa) := pe_imp (pe_not ha) fun σ H Q ⟨g, env, Qd, Ed, e, es, hw, k, kx⟩ => by
  subst e
  refine LE.go (R := fun d => blD (fun c => Qd (.val (.bl (!c)))) d) es hw (fun v d g1 s1 a1 h1 => ?_) kx
  unfold blD at h1
  split at h1
  · exact ⟨_, a1.bl_inv, k _ _ g1 s1 (.val (.bl _)) h1⟩
  · exact h1.elim
/-- a if t else b -/
def eIf (t : WT) (wa wb : WE) : WE := fun env Q E => t env (fun c => if c = true then wa env Q E else wb env Q E) E
theorem de_if (ht : DT X W c t) (ha : DE X W a wa) (hb : DE X W b wb) : DE X W (.IfExp c a b pos) (eIf t wa wb) := pe_imp (pe_ifExp ht ha hb) fun σ H Q ⟨g, env, Qd, Ed, e, es, hw, k, kx⟩ => by
  subst e
  refine LT.go es hw (fun c g1 s1 h1 => ?_) kx
  cases c with
  | true =>
    rw [if_pos rfl] at h1 ⊢
    exact LE.goO (es.step s1) h1 (QL.on k s1) (XL.on kx s1)
  | false =>
    rw [if_neg (by decide)] at h1 ⊢
    exact LE.goO (es.step s1) h1 (QL.on k s1) (XL.on kx s1)
end
end DL
/-! DLoop -/
namespace DL
open PySem PySem.Spec PyProof.Rows L2

inductive Pat where
  | nm (i : Nat) | tp (ps : List Pat)
mutual
def Pat.slots : Pat → List Nat
  | .nm i => [i]
  | .tp ps => Pat.slotss ps
def Pat.slotss : List Pat → List Nat
  | [] => []
  | p :: ps => p.slots ++ Pat.slotss ps
end
/-- the items of a tuple or a list -/
def unD : D → Option (List D)
  | .tup ds => some ds
  | .lst ds => some ds
  | _ => none
mutual
/-- what the names hold then -/
def Pat.bind {α : Type} (f : D → α) : Pat → D → List (Option α) → Option (List (Option α))
  | .nm i, d, env => if i < env.length then some (env.set i (some (f d))) else none
  | .tp ps, d, env => match unD d with
    | some ds => Pat.binds f ps ds env
    | none => none
def Pat.binds {α : Type} (f : D → α) : List Pat → List D → List (Option α) → Option (List (Option α))
  | [], [], env => some env
  | p :: ps, d :: ds, env => match p.bind f d env with
    | some env' => Pat.binds f ps ds env'
    | none => none
  | _, _, _ => none
end
@[simp] theorem Pat.bind_nm {α : Type} (f : D → α) (i : Nat) (d : D) (env : List (Option α)) : (Pat.nm i).bind f d env = if i < env.length then some (env.set i (some (f d))) else none := by simp [Pat.bind]
@[simp] theorem Pat.bind_tup {α : Type} (f : D → α) (ps : List Pat) (ds : List D) (env : List (Option α)) : (Pat.tp ps).bind f (.tup ds) env = Pat.binds f ps ds env := by simp [Pat.bind, unD]
@[simp] theorem Pat.bind_lst {α : Type} (f : D → α) (ps : List Pat) (ds : List D) (env : List (Option α)) : (Pat.tp ps).bind f (.lst ds) env = Pat.binds f ps ds env := by simp [Pat.bind, unD]
@[simp] theorem Pat.binds_nil {α : Type} (f : D → α) (env : List (Option α)) : Pat.binds f [] [] env = some env := by simp [Pat.binds]
@[simp] theorem Pat.binds_cons {α : Type} (f : D → α) (p : Pat) (ps : List Pat) (d : D) (ds : List D) (env : List (Option α)) : Pat.binds f (p :: ps) (d :: ds) env = (match p.bind f d env with | some env' => Pat.binds f ps ds env' | none => none) := by simp [Pat.binds]
/-- the slots that may have changed -/
structure Chg (is : List Nat) (σ σ' : L2.St) : Prop where
  len : σ'.length = σ.length
  out : ∀ i, i ∉ is → σ'[i]? = σ[i]?
theorem Chg.refl (is : List Nat) (σ : L2.St) : Chg is σ σ := ⟨rfl, fun _ _ => rfl⟩
theorem Chg.trans {is js : List Nat} {σ τ ρ : L2.St} (a : Chg is σ τ) (b : Chg js τ ρ) : Chg (is ++ js) σ ρ :=
  ⟨b.len.trans a.len, fun i h => (b.out i fun m => h (by simp [m])).trans (a.out i fun m => h (by simp [m]))⟩
theorem Chg.set (σ : L2.St) (i : Nat) (v : Option V) : Chg [i] σ (σ.set i v) := ⟨by simp, fun j h => by rw [List.getElem?_set_ne]; intro e; exact h (by simp [e])⟩
theorem Chg.mono {is js : List Nat} {σ τ : L2.St} (a : Chg is σ τ) (h : ∀ i ∈ is, i ∈ js) : Chg js σ τ := ⟨a.len, fun i n => a.out i fun m => n (h i m)⟩
mutual
def tgP (K : PySem.W.Frag) : Pat → TG
  | .nm i => gName i
  | .tp ps => fun v σ H Q => gTup K ps.length (tgPs K ps) v σ H Q ∨ gLst K ps.length (tgPs K ps) v σ H Q
def tgPs (K : PySem.W.Frag) : List Pat → TGs
  | [] => gNil
  | p :: ps => gCons (tgP K p) (tgPs K ps)
end
section
variable {X : Cx} {pos : Pos} {p : Pat} {ps : List Pat} {e : Expr} {es : List Expr}
abbrev DG (X : Cx) (e : Expr) (p : Pat) : Prop := PG X e (tgP X.K p)
abbrev DGs (X : Cx) (es : List Expr) (ps : List Pat) : Prop := PGs X es (tgPs X.K ps)
theorem PG.or {e : Expr} {t t' : TG} (h : PG X e t) (h' : PG X e t') : PG X e (fun v σ H Q => t v σ H Q ∨ t' v σ H Q) := ⟨fun pins s σ H v u Q I r q => by
  rcases q with q | q
  · exact h.run pins s σ H v u Q I r q
  · exact h'.run pins s σ H v u Q I r q⟩
theorem dg_nm (i : Nat) {x : Str} (hN : X.N.Nodup) (hi : X.N[i]? = some x := by rfl) (hx : Loc X.env.scope x := by first | exact Or.inl rfl | exact Or.inr rfl) (hf : X.fn x = true ∨ X.env.scope.names.lookup x = some .local := by first | exact .inl rfl | exact .inr rfl | assumption) : DG X (.Name x pos) (.nm i) := by
  show PG X _ (tgP X.K (.nm i))
  simp only [tgP]
  exact pg_name hN hi hx hf
theorem dgs_nil : DGs X [] [] := by
  show PGs X _ (tgPs X.K [])
  simp only [tgPs]
  exact pgs_nil
theorem dgs_cons (h : DG X e p) (t : DGs X es ps) (hs : (assignEach (e :: es) X.env).map (·.2) = assign e X.env :: (assignEach es X.env).map (·.2) := by rfl) : DGs X (e :: es) (p :: ps) := by
  show PGs X _ (tgPs X.K (p :: ps))
  simp only [tgPs]
  exact pgs_cons h t hs
theorem dg_tp {k : Nat} (hc : X.calm = true) (h : DGs X es ps) (hn : (assignEach es X.env).length = ps.length := by rfl) (hst : (assignEach es X.env).findIdx? (·.1) = none := by rfl) : DG X (.Tuple es k pos) (.tp ps) := by
  show PG X _ (tgP X.K (.tp ps))
  simp only [tgP]
  exact PG.or (pg_tup hc h hn hst) (pg_lst hc h hn hst)
end
theorem List.set_get {α : Type} {l : List (Option α)} {i j : Nat} {a : Option α} {d : α} (h : (l.set i a)[j]? = some (some d)) : (i = j ∧ a = some d) ∨ (i ≠ j ∧ l[j]? = some (some d)) := by
  by_cases e : i = j
  · subst e
    by_cases hl : i < l.length
    · rw [List.getElem?_set_self hl] at h
      exact .inl ⟨rfl, Option.some.inj h⟩
    · rw [List.getElem?_eq_none (by simpa using hl)] at h
      cases h
  · rw [List.getElem?_set_ne e] at h
    exact .inr ⟨e, h⟩
theorem ES.set {K : PySem.W.Frag} {g : Gh} {env : DEnv} {σ : L2.St} {i : Nat} {v : V} {d : D} (h : ES K g env σ) (hi : i < env.length) (a : At K g.Z g.F v d) : ES K g (env.set i (some d)) (σ.set i (some v)) :=
  ⟨h.ok, by simp [h.len], fun j e q => by
    rcases List.set_get q with ⟨ej, q1⟩ | ⟨n, q1⟩
    · subst ej
      obtain rfl : d = e := Option.some.inj q1
      exact ⟨v, List.getElem?_set_self (by rw [← h.len]; exact hi), a⟩
    · obtain ⟨w, h1, h2⟩ := h.slot j e q1
      exact ⟨w, by rw [List.getElem?_set_ne n]; exact h1, h2⟩⟩
mutual
theorem tgP_es {K : PySem.W.Frag} {g : Gh} : ∀ (p : Pat) {env env' : DEnv} {σ : L2.St} {v : V} {d : D} {Q : L2.St → Hp → Prop}, ES K g env σ → At K g.Z g.F v d → p.bind id d env = some env' →
    (∀ σ', ES K g env' σ' → Chg p.slots σ σ' → Q σ' g.H) → tgP K p v σ g.H Q
  | .nm i, env, env', σ, v, d, Q, h, a, e, k => by
    simp only [tgP]
    rw [Pat.bind_nm] at e
    split at e
    · rename_i hi
      cases e
      exact k _ (h.set hi a) (by simp only [Pat.slots]; exact Chg.set σ i _)
    · cases e
  | .tp ps, env, env', σ, v, d, Q, h, a, e, k => by
    simp only [tgP]
    cases d with
    | tup ds =>
      rw [Pat.bind_tup] at e
      obtain ⟨q, vs, rfl, hq, as⟩ := a.tup_inv
      obtain ⟨hl, hh⟩ := tgPs_es ps h as e k
      exact .inl ⟨q, vs, rfl, h.ok.sub.sqT hq, hl, hh⟩
    | lst ds =>
      rw [Pat.bind_lst] at e
      obtain ⟨q, vs, rfl, hq, as⟩ := a.lst_inv
      obtain ⟨hl, hh⟩ := tgPs_es ps h as e k
      exact .inr ⟨q, vs, rfl, SqL.of (h.ok.sub _ _ hq), hl, hh⟩
    | _ => simp [Pat.bind, unD] at e
theorem tgPs_es {K : PySem.W.Frag} {g : Gh} : ∀ (ps : List Pat) {env env' : DEnv} {σ : L2.St} {vs : List V} {ds : List D} {Q : L2.St → Hp → Prop}, ES K g env σ → Ats K g.Z g.F vs ds → Pat.binds id ps ds env = some env' →
    (∀ σ', ES K g env' σ' → Chg (Pat.slotss ps) σ σ' → Q σ' g.H) → vs.length = ps.length ∧ tgPs K ps vs σ g.H Q
  | [], env, env', σ, vs, ds, Q, h, a, e, k => by
    simp only [tgPs]
    cases ds with
    | nil =>
      cases a
      rw [Pat.binds_nil] at e
      cases e
      exact ⟨rfl, rfl, k _ h (by simp only [Pat.slotss]; exact Chg.refl _ _)⟩
    | cons d ds => simp [Pat.binds] at e
  | p :: ps, env, env', σ, vs, ds, Q, h, a, e, k => by
    simp only [tgPs]
    cases ds with
    | nil => simp [Pat.binds] at e
    | cons d ds =>
      cases a with
      | cons a t =>
        rename_i v vs
        rw [Pat.binds_cons] at e
        split at e
        · rename_i env1 e1
          have len : vs.length = ps.length ∧ True := by
            -- by a dry run of the rest
            have := t.length
            have hlen : ∀ (ps : List Pat) (ds : List D) (env env' : DEnv), Pat.binds id ps ds env = some env' → ds.length = ps.length := by
              intro ps
              induction ps with
              | nil => intro ds env env' q; cases ds <;> simp [Pat.binds] at q ⊢
              | cons p ps ih =>
                intro ds env env' q
                cases ds with
                | nil => simp [Pat.binds] at q
                | cons d ds =>
                  rw [Pat.binds_cons] at q
                  split at q
                  · have := ih _ _ _ q; simp [this]
                  · cases q
            exact ⟨by rw [this, hlen _ _ _ _ e], trivial⟩
          refine ⟨by simp [len.1], v, vs, rfl, tgP_es p h a e1 fun σ1 h1 c1 => ?_⟩
          exact (tgPs_es ps h1 t e fun σ2 h2 c2 => k σ2 h2 (by simp only [Pat.slotss]; exact c1.trans c2)).2
        · cases e
end

structure Grow (g g' : Gh) : Prop where
  ok : g'.Ok
  up : Sub g.F g'.F
  zs : ∀ p ∈ g.Z, p ∈ g'.Z
theorem Step.grow {g g' : Gh} (s : Step g g') : Grow g g' := ⟨s.ok, s.up, s.zs⟩
theorem Grow.trans {g g1 g2 : Gh} (s : Grow g g1) (t : Grow g1 g2) : Grow g g2 := ⟨t.ok, s.up.trans t.up, fun p h => t.zs p (s.zs p h)⟩
structure ItOk (K : PySem.W.Frag) (g : Gh) (J : It) (ds : List D) : Prop where
  go : ∀ g', Grow g g' → ∀ (i : Nat) (d : D), ds[i]? = some d → J.go i g'.H
  yl : ∀ g', Grow g g' → ∀ (i : Nat) (d : D) (x : V) (H' : Hp), ds[i]? = some d → J.yld i g'.H x H' → ∃ F', Step g' ⟨g'.Z, F', H'⟩ ∧ At K g'.Z F' x d
  st : ∀ g', Grow g g' → ∀ (i : Nat), ds.length ≤ i → J.stop i g'.H
abbrev WI := DEnv → (List D → Prop) → EX → Prop
def LI (X : Cx) (W : WX) (w : WI) : TI := fun σ H R => ∃ (g : Gh) (env : DEnv) (Qd : List D → Prop) (Ed : EX), g.H = H ∧ ES X.K g env σ ∧ w env Qd Ed ∧
  (∀ ds J g', Step g g' → ItOk X.K g' J ds → Qd ds → R J g'.H) ∧ XL X W σ g Ed
abbrev DI (X : Cx) (W : WX) (tg iter : Expr) (w : WI) : Prop := PI X tg iter (LI X W w)
/-- what is walked leans on nothing that stands in the heap -/
def LIr (X : Cx) (W : WX) (w : WI) : TI := fun σ H R => ∃ (g : Gh) (env : DEnv) (Qd : List D → Prop) (Ed : EX), g.H = H ∧ ES X.K g env σ ∧ w env Qd Ed ∧
  (∀ ds J g', Step g g' → (∀ g1, ItOk X.K g1 J ds) → Qd ds → R J g'.H) ∧ XL X W σ g Ed
abbrev DIr (X : Cx) (W : WX) (tg iter : Expr) (w : WI) : Prop := PI X tg iter (LIr X W w)
theorem pi_imp0 {X : Cx} {tg e : Expr} {t t' : TI} (h : PI X tg e t) (i : ∀ σ H R, t' σ H R → t σ H R) : PI X tg e t' := ⟨fun pins s σ H R I q => h.run pins s σ H R I (i σ H R q)⟩
theorem DIr.di {X : Cx} {W : WX} {tg e : Expr} {w : WI} (h : DIr X W tg e w) : DI X W tg e w := pi_imp0 h fun σ H R ⟨g, env, Qd, Ed, e, es, hw, k, kx⟩ => ⟨g, env, Qd, Ed, e, es, hw, fun ds J g' s it q => k ds J g' s (it g') q, kx⟩
theorem pi_imp {X : Cx} {tg e : Expr} {t t' : TI} (h : PI X tg e t) (i : ∀ σ H R, t' σ H R → t σ H R) : PI X tg e t' := ⟨fun pins s σ H R I q => h.run pins s σ H R I (i σ H R q)⟩
/-- over data that stand where they stand -/
theorem ItOk.same {K : PySem.W.Frag} {g : Gh} {J : It} {ds : List D} {vs : List V} (a : Ats K g.Z g.F vs ds)
    (go : ∀ g', Grow g g' → ∀ (i : Nat) (v : V), vs[i]? = some v → J.go i g'.H) (yl : ∀ g', Grow g g' → ∀ (i : Nat) (v x : V) (H' : Hp), vs[i]? = some v → J.yld i g'.H x H' → H' = g'.H ∧ x = v)
    (st : ∀ g', Grow g g' → ∀ (i : Nat), vs.length ≤ i → J.stop i g'.H) : ItOk K g J ds where
  go := fun g' s i d e => by
    obtain ⟨v, h1, _⟩ := a.get e
    exact go g' s i v h1
  yl := fun g' s i d x H' e y => by
    obtain ⟨v, h1, h2⟩ := a.get e
    obtain ⟨rfl, rfl⟩ := yl g' s i v x H' h1 y
    exact ⟨g'.F, s.ok.refl, h2.mono s.up s.zs⟩
  st := fun g' s i h => st g' s i (by rw [a.length]; exact h)
theorem itok_list {K : PySem.W.Frag} {g : Gh} {a : Addr} {vs : List V} {ds : List D} (h : g.F a = some (.lst vs)) (as : Ats K g.Z g.F vs ds) : ItOk K g (Itl K a) ds :=
  have q : ∀ g', Grow g g' → SqL K g'.H a vs := fun g' s => SqL.of (s.ok.sub _ _ (s.up _ _ h))
  .same as (fun g' s i v e => ⟨vs, v, q g' s, e⟩) (fun g' s i v x H' e y => ⟨y.1, Option.some.inj ((y.2 vs (q g' s)).symm.trans e)⟩) fun g' s i h => ⟨vs, q g' s, h⟩
theorem itok_tup {K : PySem.W.Frag} {g : Gh} {a : Addr} {vs : List V} {ds : List D} (h : SqT K g.F a vs) (as : Ats K g.Z g.F vs ds) : ItOk K g (Itt K a) ds :=
  have q : ∀ g', Grow g g' → SqT K g'.H a vs := fun g' s => s.ok.sub.sqT (s.up.sqT h)
  .same as (fun g' s i v e => ⟨vs, v, q g' s, e⟩) (fun g' s i v x H' e y => ⟨y.1, Option.some.inj ((y.2 vs (q g' s)).symm.trans e)⟩) fun g' s i h => ⟨vs, q g' s, h⟩
def rng (lo hi : Int) : List D := (List.range (hi - lo).toNat).map fun k => D.int (lo + (k : Nat))
theorem rng_length (lo hi : Int) : (rng lo hi).length = (hi - lo).toNat := by simp [rng]
theorem itok_range {K : PySem.W.Frag} {g : Gh} (lo hi : Int) : ItOk K g (Itr lo (hi - lo).toNat) (rng lo hi) where
  go := fun g' s i d e => by
    have := (List.getElem?_eq_some_iff.mp e).1
    rwa [rng_length] at this
  yl := fun g' s i d x H' e y => by
    obtain ⟨rfl, rfl⟩ := y
    obtain ⟨h, rfl⟩ := List.getElem?_eq_some_iff.mp e
    refine ⟨g'.F, s.ok.refl, ?_⟩
    simp only [rng, List.getElem_map, List.getElem_range]
    exact .int _
  st := fun g' s i h => by
    rw [rng_length] at h
    exact h
section
variable {X : Cx} {W : WX} {σ : L2.St} {env : DEnv} {g g0 : Gh} {w : WE} {ws : WA} {tg e a b : Expr} {es : List Expr} {pos p : Pos}
def iSeq (w : WE) : WI := fun env Q E => w env (fun o => itemsD o.d Q) E
/-- a list or a tuple -/
def tSeqI (K : PySem.W.Frag) (tl : TE) : TI := fun σ H R => tl σ H fun x H1 => (∃ a, x = .ref a ∧ (∃ xs, SqL K H1 a xs) ∧ R (Itl K a) H1) ∨ ∃ a, x = .ref a ∧ (∃ xs, SqT K H1 a xs) ∧ R (Itt K a) H1
theorem pi_seqI {l : Expr} {tl : TE} (hl : PE X l tl) : PI X tg l (tSeqI X.K tl) := by
  refine ⟨fun pins s σ H R I h => thn (hl.run pins s σ H _ I h) fun v s1 ⟨x, H1, I1, r1, q1⟩ => ?_⟩
  have grow : ∀ {ob : Obj}, Inv X pins σ H1 { s1 with heap := s1.heap.push ob } := fun {ob} => I1.kept (t' := s1.toks) fun b o q => Heap.get?_push_of_some _ q
  have fp : ∀ b ∈ [s1.heap.objs.size], FpOk X pins H1 b := fun b hb => by
    have q : b = s1.heap.objs.size := by simpa using hb
    rw [q]
    exact I1.fpOk (Nat.le_refl _) (I1.hok.fresh (Nat.le_refl _))
  rcases q1 with ⟨a, ea, ⟨xs, hq⟩, q⟩ | ⟨a, ea, ⟨xs, hq⟩, q⟩
  · rw [ea] at r1
    obtain rfl : v = Value.ref a := r1
    obtain ⟨its, rv, pl, _⟩ := I1.list hq
    exact wpAny_pyIter_list pl.isList ⟨_, [s1.heap.objs.size], _, _, H1, rfl, grow, turn_list a _, ⟨_, Heap.get?_push_size _ rfl, rfl, rfl⟩, fp, q⟩
  · rw [ea] at r1
    obtain rfl : v = Value.ref a := r1
    obtain ⟨its, rv, pl, _⟩ := I1.tuple hq
    exact wpAny_pyIter_tuple (show s1.heap.IsTuple a its.toArray from pl) ⟨_, [s1.heap.objs.size], _, _, H1, rfl, grow, turn_tuple a _, ⟨_, Heap.get?_push_size _ rfl, rfl, rfl⟩, fp, q⟩
theorem di_seq (h : DE X W e w) : DI X W tg e (iSeq w) := pi_imp (pi_seqI h) fun σ H R ⟨g, env, Qd, Ed, e, es, hw, k, kx⟩ => by
  subst e
  refine LE.go (R := fun d => itemsD d Qd) es hw (fun v d g1 s1 a1 h1 => ?_) kx
  unfold itemsD at h1
  split at h1
  · obtain ⟨p, vs, rfl, hp, as⟩ := a1.tup_inv
    exact .inr ⟨p, rfl, ⟨vs, s1.ok.sub.sqT hp⟩, k _ _ g1 s1 (itok_tup hp as) h1⟩
  · obtain ⟨p, vs, rfl, hp, as⟩ := a1.lst_inv
    exact .inl ⟨p, rfl, ⟨vs, SqL.of (s1.ok.sub _ _ hp)⟩, k _ _ g1 s1 (itok_list hp as) h1⟩
  · exact h1.elim
def in62 (i : Int) : Prop := -(2 ^ 62) ≤ i ∧ i < 2 ^ 62
def rg1D (Q : List D → Prop) : List D → Prop
  | [.int j] => in62 j ∧ Q (rng 0 j)
  | _ => False
def rg2D (Q : List D → Prop) : List D → Prop
  | [.int i, .int j] => in62 i ∧ in62 j ∧ Q (rng i j)
  | _ => False
/-- downward by ones -/
def rngDown (lo hi : Int) : List D := (List.range (lo - hi).toNat).map fun k => D.int (lo + (k : Nat) * (-1))
def rg3D (Q : List D → Prop) : List D → Prop
  | [.int i, .int j, .int c] => c = -1 ∧ in62 i ∧ in62 j ∧ Q (rngDown i j)
  | _ => False
def iRg (f : (List D → Prop) → List D → Prop) (ws : WA) : WI := fun env Q E => ws env (fun os => f Q (O.ds os)) E
theorem di_range1r (hm : X.mg "range" = none) (ha : DA X W [a] ws) (hg : Gl X "range" := by rfl) (hs : starEach [a] X.env = [(false, eval a X.env)] := by rfl) : DIr X W tg (.Call (.Name "range" p) [a] [] pos) (iRg rg1D ws) := pi_imp (pi_range1 hg hm ha hs) fun σ H R ⟨g, env, Qd, Ed, e, es, hw, k, kx⟩ => by
  subst e
  refine LA.go (R := fun ds => rg1D Qd ds) es hw (fun vs ds g1 s1 as h1 => ?_) kx
  unfold rg1D at h1
  split at h1
  · obtain ⟨v, rfl, a1⟩ := as.one_inv
    rw [a1.int_inv]
    have it : ∀ j : Int, ∀ g1, ItOk X.K g1 (Itr 0 j.toNat) (rng 0 j) := fun j g1 => by
      have := itok_range (K := X.K) (g := g1) 0 j
      rwa [Int.sub_zero] at this
    exact ⟨_, rfl, h1.1.1, h1.1.2, k _ _ g1 s1 (it _) h1.2⟩
  · exact h1.elim
theorem di_range2r (hm : X.mg "range" = none) (ha : DA X W [a, b] ws) (hg : Gl X "range" := by rfl) (hs : starEach [a, b] X.env = [(false, eval a X.env), (false, eval b X.env)] := by rfl) (hs2 : starEach [b] X.env = [(false, eval b X.env)] := by rfl) : DIr X W tg (.Call (.Name "range" p) [a, b] [] pos) (iRg rg2D ws) := pi_imp (pi_range2 hg hm ha hs hs2) fun σ H R ⟨g, env, Qd, Ed, e, es, hw, k, kx⟩ => by
  subst e
  refine LA.go (R := fun ds => rg2D Qd ds) es hw (fun vs ds g1 s1 as h1 => ?_) kx
  unfold rg2D at h1
  split at h1
  · obtain ⟨v, w, rfl, a1, a2⟩ := as.two_inv
    rw [a1.int_inv, a2.int_inv]
    exact ⟨_, _, rfl, ⟨h1.1.1, h1.1.2, h1.2.1.1, h1.2.1.2⟩, k _ _ g1 s1 (fun _ => itok_range _ _) h1.2.2⟩
  · exact h1.elim
theorem itok_down {K : PySem.W.Frag} {g : Gh} (lo hi : Int) : ItOk K g (Itc lo (-1) (lo - hi).toNat) (rngDown lo hi) where
  go := fun g' s i d e => by
    have := (List.getElem?_eq_some_iff.mp e).1
    show i < (lo - hi).toNat
    simp only [rngDown, List.length_map, List.length_range] at this
    exact this
  yl := fun g' s i d x H' e y => by
    obtain ⟨rfl, rfl⟩ := y
    obtain ⟨h, rfl⟩ := List.getElem?_eq_some_iff.mp e
    refine ⟨g'.F, s.ok.refl, ?_⟩
    simp only [rngDown, List.getElem_map, List.getElem_range]
    exact .int _
  st := fun g' s i h => by
    show (lo - hi).toNat ≤ i
    simp only [rngDown, List.length_map, List.length_range] at h
    exact h
theorem Ats.three_inv {K : PySem.W.Frag} {Z : Zs} {F : Hp} {vs : List V} {d e f : D} (h : Ats K Z F vs [d, e, f]) : ∃ v w u, vs = [v, w, u] ∧ At K Z F v d ∧ At K Z F w e ∧ At K Z F u f := by
  cases h with
  | cons h t =>
    obtain ⟨w, u, rfl, h', h''⟩ := t.two_inv
    exact ⟨_, _, _, rfl, h, h', h''⟩
theorem di_range3r {c : Expr} (hm : X.mg "range" = none) (ha : DA X W [a, b, c] ws) (hg : Gl X "range" := by rfl) (hs : starEach [a, b, c] X.env = (false, eval a X.env) :: starEach [b, c] X.env := by rfl) (hpl : (backTo pos (starEach [b, c] X.env)).any (·.1) = false := by rfl) : DIr X W tg (.Call (.Name "range" p) [a, b, c] [] pos) (iRg rg3D ws) := pi_imp (pi_range3 hg hm ha hs hpl) fun σ H R ⟨g, env, Qd, Ed, e, es, hw, k, kx⟩ => by
  subst e
  refine LA.go (R := fun ds => rg3D Qd ds) es hw (fun vs ds g1 s1 as h1 => ?_) kx
  unfold rg3D at h1
  split at h1
  · obtain ⟨v, w, u, rfl, a1, a2, a3⟩ := as.three_inv
    obtain ⟨rfl, h2, h3, h4⟩ := h1
    rw [a1.int_inv, a2.int_inv, a3.int_inv]
    exact ⟨_, _, _, _, rfl, RgC.neg h2.1 h2.2 h3.1 h3.2, k _ _ g1 s1 (fun _ => itok_down _ _) h4⟩
  · exact h1.elim
theorem di_range1 (hm : X.mg "range" = none) (ha : DA X W [a] ws) (hg : Gl X "range" := by rfl) (hs : starEach [a] X.env = [(false, eval a X.env)] := by rfl) : DI X W tg (.Call (.Name "range" p) [a] [] pos) (iRg rg1D ws) := (di_range1r hm ha hg hs).di
theorem di_range2 (hm : X.mg "range" = none) (ha : DA X W [a, b] ws) (hg : Gl X "range" := by rfl) (hs : starEach [a, b] X.env = [(false, eval a X.env), (false, eval b X.env)] := by rfl) (hs2 : starEach [b] X.env = [(false, eval b X.env)] := by rfl) : DI X W tg (.Call (.Name "range" p) [a, b] [] pos) (iRg rg2D ws) := (di_range2r hm ha hg hs hs2).di
theorem di_range3 {c : Expr} (hm : X.mg "range" = none) (ha : DA X W [a, b, c] ws) (hg : Gl X "range" := by rfl) (hs : starEach [a, b, c] X.env = (false, eval a X.env) :: starEach [b, c] X.env := by rfl) (hpl : (backTo pos (starEach [b, c] X.env)).any (·.1) = false := by rfl) : DI X W tg (.Call (.Name "range" p) [a, b, c] [] pos) (iRg rg3D ws) := (di_range3r hm ha hg hs hpl).di
end

def wipeD {α : Type} (env : List (Option α)) : List Nat → List (Option α)
  | [] => env
  | v :: vs => (wipeD env vs).set v none
theorem wipeD_length {α : Type} (env : List (Option α)) : ∀ vs : List Nat, (wipeD env vs).length = env.length
  | [] => rfl
  | v :: vs => by simp [wipeD, wipeD_length env vs]
theorem wipeD_some {α : Type} {env : List (Option α)} {i : Nat} {x : α} : ∀ {vs : List Nat}, (wipeD env vs)[i]? = some (some x) → env[i]? = some (some x) ∧ i ∉ vs
  | [], h => ⟨h, by simp⟩
  | v :: vs, h => by
    unfold wipeD at h
    rcases List.set_get h with ⟨_, q⟩ | ⟨n, q⟩
    · cases q
    · obtain ⟨h1, h2⟩ := wipeD_some q
      exact ⟨h1, by simp only [List.mem_cons, not_or]; exact ⟨fun e => n e.symm, h2⟩⟩
theorem wipe_get {σ : L2.St} {i : Nat} : ∀ {vs : List Nat}, i ∉ vs → (wipe σ vs)[i]? = σ[i]?
  | [], _ => rfl
  | v :: vs, h => by
    simp only [List.mem_cons, not_or] at h
    unfold wipe
    rw [List.getElem?_set_ne (fun e => h.1 e.symm), wipe_get h.2]
theorem wipe_in {σ : L2.St} {i : Nat} : ∀ {vs : List Nat}, i ∈ vs → i < σ.length → (wipe σ vs)[i]? = some none
  | [], h, _ => by simp at h
  | v :: vs, h, l => by
    unfold wipe
    by_cases e : v = i
    · subst e
      rw [List.getElem?_set_self (by rw [wipe_length]; exact l)]
    · rw [List.getElem?_set_ne e]
      rcases List.mem_cons.mp h with q | q
      · exact absurd q.symm e
      · exact wipe_in q l
theorem ES.wipe {K : PySem.W.Frag} {g : Gh} {env : DEnv} {σ : L2.St} (h : ES K g env σ) (vs : List Nat) : ES K g (wipeD env vs) (L2.wipe σ vs) :=
  ⟨h.ok, by rw [wipeD_length, wipe_length, h.len], fun i d e => by
    obtain ⟨h1, h2⟩ := wipeD_some e
    obtain ⟨v, q, a⟩ := h.slot i d h1
    exact ⟨v, by rw [wipe_get h2]; exact q, a⟩⟩
theorem wipe_chg {σ τ : L2.St} {is vs : List Nat} (c : Chg is (wipe σ vs) τ) (h : ∀ i ∈ is, i ∈ vs) : wipe τ vs = wipe σ vs := by
  apply List.ext_getElem?
  intro i
  have hl : τ.length = σ.length := by rw [c.len, wipe_length]
  by_cases m : i ∈ vs
  · by_cases l : i < σ.length
    · rw [wipe_in m (by rw [hl]; exact l), wipe_in m l]
    · rw [List.getElem?_eq_none (by rw [wipe_length, hl]; omega), List.getElem?_eq_none (by rw [wipe_length]; omega)]
  · rw [wipe_get m, c.out i fun q => m (h i q)]
abbrev WF : WX := fun _ _ _ _ => False
abbrev NoX : EX := fun _ => False
def lcD (p : Pat) (wt : WT) (we : WE) (env : DEnv) : List D → List O → (List O → Prop) → Prop
  | [], acc, Q => Q acc
  | d :: ds, acc, Q => ∃ env', p.bind id d env = some env' ∧ wt env' (fun b => if b = true then we env' (fun o => acc.length < sizeLine ∧ lcD p wt we env ds (acc ++ [o]) Q) NoX else lcD p wt we env ds acc Q) NoX
def eLc (wi : WI) (p : Pat) (wt : WT) (we : WE) (vs : List Nat) : WE := fun env Q E => wi env (fun ds => lcD p wt we (wipeD env vs) ds [] (fun os => Q (.lst os))) E
theorem le_lc {X : Cx} {W : WX} {wi : WI} {p : Pat} {wt : WT} {we : WE} {vs : List Nat} (hp : ∀ i ∈ p.slots, i ∈ vs) (σ : L2.St) (H : Hp) (Q : VK) (h : LE X W (eLc wi p wt we vs) σ H Q) : tLc (LI X W wi) (tgP X.K p) (LT X WF wt) (LE X WF we) vs σ H Q := by
  obtain ⟨g, env, Qd, Ed, e, es, hw, k, kx⟩ := h
  subst e
  refine ⟨g, env, _, Ed, rfl, es, hw, fun ds J g1 s1 it hq D nD => ?_, kx⟩
  have kx0 : ∀ (σ : L2.St) (g : Gh), XL X WF σ g NoX := fun _ _ _ _ _ _ _ _ z => z.elim
  refine ⟨fun i m H => m = ds.length - i ∧ i ≤ ds.length ∧ ∃ (g' : Gh) (acc : List O) (us : List V) (cs : List Addr), g'.H = H ∧ Step g1 g' ∧ H D = some (.lst us) ∧ g'.F D = none ∧ ¬ inZ g'.Z D ∧ ROs X.K g'.Z g'.F g'.H us acc cs ∧ cs.Nodup ∧ D ∉ cs ∧
    (∀ c ∈ cs, g'.F c = none ∧ g1.H c = none ∧ ¬ inZ g'.Z c) ∧ lcD p wt we (wipeD env vs) (ds.drop i) acc fun os => Qd (.lst os),
    ⟨ds.length, by simp, Nat.zero_le _, ⟨g1.Z, g1.F, upd g1.H D (.lst [])⟩, [], [], [], rfl, Step.laid s1.ok nD, upd_same, s1.ok.noF nD, s1.ok.noZ nD, .nil, .nil, by simp, fun c hc => by simp at hc, hq⟩, ?_⟩
  rintro i m H ⟨rfl, hi, g', acc, us, cs, rfl, s', hD, fD, zD, ro, nd, Dn, hc, hl⟩
  by_cases hlt : i < ds.length
  · have ed : ds[i]? = some ds[i] := by simp [hlt]
    rw [List.drop_eq_getElem_cons hlt] at hl
    obtain ⟨env', hb, ht⟩ := hl
    refine .inr ⟨it.go g' s'.grow i _ ed, fun H' => ∃ (g'' : Gh) (acc : List O) (us : List V) (cs : List Addr), g''.H = H' ∧ Step g1 g'' ∧ H' D = some (.lst us) ∧ g''.F D = none ∧ ¬ inZ g''.Z D ∧ ROs X.K g''.Z g''.F g''.H us acc cs ∧ cs.Nodup ∧ D ∉ cs ∧
      (∀ c ∈ cs, g''.F c = none ∧ g1.H c = none ∧ ¬ inZ g''.Z c) ∧ lcD p wt we (wipeD env vs) (ds.drop (i + 1)) acc fun os => Qd (.lst os), fun H' hN => ⟨ds.length - (i + 1), by omega, rfl, hlt, hN⟩, fun x H' hy => ?_⟩
    obtain ⟨F2, s2, a2⟩ := it.yl g' s'.grow i _ x H' ed hy
    have es2 : ES X.K ⟨g'.Z, F2, H'⟩ env σ := ((es.step s1).step s').step s2
    refine tgP_es p (g := ⟨g'.Z, F2, H'⟩) (es2.wipe vs) a2 hb fun σ' es3 ch => ⟨wipe_chg ch hp, ?_⟩
    refine LT.go (g := ⟨g'.Z, F2, H'⟩) es3 ht (fun b g3 s3 h3 => ?_) (kx0 _ _)
    -- what stands through steps
    have on : ∀ {h : Gh}, Step g' h → h.H D = some (.lst us) ∧ h.F D = none ∧ ¬ inZ h.Z D ∧ ROs X.K h.Z h.F h.H us acc cs ∧ ∀ c ∈ cs, h.F c = none ∧ g1.H c = none ∧ ¬ inZ h.Z c := fun {h} t => by
      refine ⟨t.keep D _ hD zD, t.apart fD hD, fun z => ?_, ro.mono t.up t.zs fun c m u e => t.keep c u e (hc c m).2.2, fun c m => ?_⟩
      · rcases t.zn D z with q | q
        · exact zD q
        · rw [hD] at q; cases q
      · obtain ⟨u, hu, _⟩ := ro.there c m
        refine ⟨t.apart (hc c m).1 hu, (hc c m).2.1, fun z => ?_⟩
        rcases t.zn c z with q | q
        · exact (hc c m).2.2 q
        · rw [hu] at q; cases q
    have s23 := s2.trans s3
    cases b with
    | false =>
      rw [if_neg (by decide)] at h3 ⊢
      obtain ⟨q1, q2, q3, q4, q5⟩ := on s23
      exact ⟨g3, acc, us, cs, rfl, s'.trans s23, q1, q2, q3, q4, nd, Dn, q5, h3⟩
    | true =>
      rw [if_pos rfl] at h3 ⊢
      refine LE.goO (es3.step s3) h3 (fun y o g4 s4 r4 h4 => ?_) (kx0 _ _)
      have s24 := s23.trans s4
      obtain ⟨q1, q2, q3, q4, q5⟩ := on s24
      obtain ⟨p1, p2, p3, p4, p5⟩ := on s23
      obtain ⟨cs', r', nd', hc'⟩ := r4
      have Dn' : D ∉ cs' := fun m => by
        have := (hc' D m).2.1
        rw [p1] at this; cases this
      refine ⟨us, q1, by rw [ro.length]; exact h4.1, ⟨g4.Z, g4.F, upd g4.H D (.lst (us ++ [y]))⟩, acc ++ [o], us ++ [y], cs ++ cs', rfl, (s'.trans s24).own nD q2 q3, upd_same, q2, q3, ?_, ?_, ?_, ?_, h4.2⟩
      · have ro2 := q4.append (ROs.cons r' (ROs.nil (K := X.K) (Z := g4.Z) (F := g4.F) (H := g4.H)))
        rw [List.append_nil] at ro2
        refine ROs.mono (Sub.refl _) (fun _ z => z) ro2 fun c m u e => ?_
        show upd g4.H D _ c = some u
        rw [upd_ne fun z => ?_]
        · exact e
        · subst z
          rcases List.mem_append.mp m with m | m
          · exact Dn m
          · exact Dn' m
      · refine List.nodup_append.mpr ⟨nd, nd', fun c1 m1 c2 m2 z => ?_⟩
        subst z
        obtain ⟨u, hu, _⟩ := p4.there c1 m1
        have := (hc' c1 m2).2.1
        rw [hu] at this; cases this
      · intro m
        rcases List.mem_append.mp m with m | m
        · exact Dn m
        · exact Dn' m
      · intro c m
        rcases List.mem_append.mp m with m | m
        · exact q5 c m
        · exact ⟨(hc' c m).1, (s'.trans s23).none_ (hc' c m).2.1, (hc' c m).2.2⟩
  · have e : i = ds.length := by omega
    subst e
    rw [List.drop_length] at hl
    refine .inl ⟨it.st g' s'.grow _ (Nat.le_refl _), k _ _ g' (s1.trans s') ⟨D :: cs, .lst hD ro, List.nodup_cons.mpr ⟨Dn, nd⟩, fun c m => ?_⟩ hl⟩
    rcases List.mem_cons.mp m with rfl | m
    · exact ⟨fD, s1.none_ nD, zD⟩
    · exact ⟨(hc c m).1, s1.none_ (hc c m).2.1, (hc c m).2.2⟩
section
variable {X : Cx} {W : WX} {wi : WI} {p : Pat} {wt : WT} {we : WE} {elt tg iter : Expr} {ifs : List Expr} {scope : Scope} {own : List (Str × Nat)} {pos : Pos}
abbrev DTs (X : Cx) (W : WX) (ifs : List Expr) (w : WT) : Prop := PTs X ifs (LT X W w)
def wYes : WT := fun _ Q _ => Q true
theorem dts_nil : DTs X W [] wYes := ⟨fun pins s σ H Q I hw => by
  obtain ⟨g, env, Qd, Ed, e, es, h, k, kx⟩ := hw
  subst e
  exact wpAny_tests_nil ⟨g.H, I, k _ g es.ok.refl h⟩⟩
theorem dts_one {c : Expr} (h : DT X W c wt) : DTs X W [c] wt := pts_one h
theorem de_lc (hc : X.calm = true) (hN : X.N.Nodup) (hi : DI X W tg iter wi) (ok : BlkOk X.N X.env.scope scope own)
    (hg : ∀ (s : Shared) (H : Hp) (C : Addr) (cl : List (Str × Addr)) (fp : List Addr), DG (X.blk s H scope (compEnvC scope cl C X.env) fp) tg p) (ht : ∀ (s : Shared) (H : Hp) (C : Addr) (cl : List (Str × Addr)) (fp : List Addr), DTs (X.blk s H scope (compEnvC scope cl C X.env) fp) WF ifs wt)
    (he : ∀ (s : Shared) (H : Hp) (C : Addr) (cl : List (Str × Addr)) (fp : List Addr), DE (X.blk s H scope (compEnvC scope cl C X.env) fp) WF elt we) (hp : (p.slots.all fun i => (own.map (·.2)).contains i) = true := by rfl) (hs : ∀ x, foldedSetIterable iter X.env x = pure x := by intro _; rfl) :
    DE X W (.ListComp elt [⟨tg, iter, ifs, 0⟩] scope pos) (eLc wi p wt we (own.map (·.2))) :=
  pe_imp (pe_lc hc hN hi ok hg ht he hs) (le_lc fun i m => by simpa using List.all_eq_true.mp hp i m)
end
end DL
/-! DStm -/
namespace DL
open PySem PySem.Spec PyProof.Rows L2

abbrev SEnv := List (Option O)
/-- the slots, all seen as values -/
def view (env : SEnv) : DEnv := env.map (Option.map O.d)
/-- the slots that hold values alone -/
def vview (env : SEnv) : DEnv := env.map fun o => o.bind fun o => match o with
  | .val d => some d
  | _ => none
theorem view_length (env : SEnv) : (view env).length = env.length := by simp [view]
theorem vview_length (env : SEnv) : (vview env).length = env.length := by simp [vview]
theorem view_get {env : SEnv} {i : Nat} {d : D} (h : (view env)[i]? = some (some d)) : ∃ o, env[i]? = some (some o) ∧ d = o.d := by
  unfold view at h
  rw [List.getElem?_map] at h
  cases e : env[i]? with
  | none => rw [e] at h; cases h
  | some x =>
    rw [e] at h
    cases x with
    | none => simp at h
    | some o => simp at h; exact ⟨o, rfl, h.symm⟩
theorem vview_get {env : SEnv} {i : Nat} {d : D} (h : (vview env)[i]? = some (some d)) : env[i]? = some (some (.val d)) := by
  unfold vview at h
  rw [List.getElem?_map] at h
  cases e : env[i]? with
  | none => rw [e] at h; cases h
  | some x =>
    rw [e] at h
    cases x with
    | none => simp at h
    | some o => cases o <;> simp at h; rw [h]
theorem RO.val_inv {K : PySem.W.Frag} {Z : Zs} {F H : Hp} {v : V} {d : D} {cs : List Addr} (h : RO K Z F H v (.val d) cs) : At K Z F v d := by
  cases h with
  | val a => exact a
/-- the slots and some values in hand; who holds which cells -/
structure SS' (K : PySem.W.Frag) (g0 g : Gh) (env : SEnv) (σ : L2.St) (vs : List V) (os : List O) (cs : Option Nat → List Addr) : Prop where
  st : Step g0 g
  len : env.length = σ.length
  slot : ∀ (i : Nat) (o : O), env[i]? = some (some o) → ∃ v, σ[i]? = some (some v) ∧ RO K g.Z g.F g.H v o (cs (some i))
  tmp : ROs K g.Z g.F g.H vs os (cs none)
  fr : ∀ j, ∀ c ∈ cs j, g.F c = none ∧ g0.H c = none ∧ ¬ inZ g.Z c ∧ ∃ u, g.H c = some u ∧ isCellO u = true
  nd : ∀ j, (cs j).Nodup
  dj : ∀ j j' c, c ∈ cs j → c ∈ cs j' → j = j'
def SS (K : PySem.W.Frag) (g0 g : Gh) (env : SEnv) (σ : L2.St) (vs : List V) (os : List O) : Prop := ∃ cs, SS' K g0 g env σ vs os cs
def cells (cs : Option Nat → List Addr) : Addr → Prop := fun c => ∃ j, c ∈ cs j
section
variable {K : PySem.W.Frag} {g0 g g1 : Gh} {env : SEnv} {σ : L2.St} {vs : List V} {os : List O} {cs : Option Nat → List Addr}
theorem SS'.fz (h : SS' K g0 g env σ vs os cs) : ∀ c, cells cs c → g.F c = none := fun c ⟨j, m⟩ => (h.fr j c m).1
theorem SS'.nz (h : SS' K g0 g env σ vs os cs) : ∀ c, cells cs c → ¬ inZ g.Z c := fun c ⟨j, m⟩ => (h.fr j c m).2.2.1
/-- all seen as frozen -/
theorem SS'.es (h : SS' K g0 g env σ vs os cs) : ES K ⟨g.Z, thaw g.F g.H (cells cs), g.H⟩ (view env) σ :=
  ⟨h.st.ok.thaw h.nz, by rw [view_length, h.len], fun i d e => by
    obtain ⟨o, e', rfl⟩ := view_get e
    obtain ⟨v, q, r⟩ := h.slot i o e'
    exact ⟨v, q, r.at_ (thaw_up h.fz) fun c m => thaw_in ⟨_, m⟩⟩⟩
/-- values alone -/
theorem SS'.esv (h : SS' K g0 g env σ vs os cs) : ES K g (vview env) σ :=
  ⟨h.st.ok, by rw [vview_length, h.len], fun i d e => by
    obtain ⟨v, q, r⟩ := h.slot i _ (vview_get e)
    exact ⟨v, q, r.val_inv⟩⟩
/-- the same behind a step -/
theorem SS'.step (h : SS' K g0 g env σ vs os cs) (s : Step g g1) : SS' K g0 g1 env σ vs os cs where
  st := h.st.trans s
  len := h.len
  slot := fun i o e => by
    obtain ⟨v, q, r⟩ := h.slot i o e
    exact ⟨v, q, r.mono s.up s.zs fun c m u e => s.keep c u e (h.fr _ c m).2.2.1⟩
  tmp := h.tmp.mono s.up s.zs fun c m u e => s.keep c u e (h.fr _ c m).2.2.1
  fr := fun j c m => by
    obtain ⟨h1, h2, h3, u, h4, h5⟩ := h.fr j c m
    refine ⟨s.apart h1 h4, h2, fun z => ?_, u, s.keep c u h4 h3, h5⟩
    rcases s.zn c z with q | q
    · exact h3 q
    · rw [h4] at q; cases q
  nd := h.nd
  dj := h.dj
open Classical in
/-- the cells taken out of what is frozen -/
noncomputable def untw (F : Hp) (cs : Addr → Prop) : Hp := fun a => if cs a then none else F a
theorem untw_in {F : Hp} {cs : Addr → Prop} {a : Addr} (h : cs a) : untw F cs a = none := if_pos h
theorem untw_out {F : Hp} {cs : Addr → Prop} {a : Addr} (h : ¬ cs a) : untw F cs a = F a := if_neg h
/-- behind a step from the frozen view the cells are own again -/
theorem SS'.back (h : SS' K g0 g env σ vs os cs) (s : Step ⟨g.Z, thaw g.F g.H (cells cs), g.H⟩ g1) : Step g ⟨g1.Z, untw g1.F (cells cs), g1.H⟩ := by
  have sub : Sub (untw g1.F (cells cs)) g1.F := fun a u e => by
    by_cases m : cells cs a
    · rw [untw_in m] at e; cases e
    · rw [untw_out m] at e; exact e
  refine ⟨⟨sub.trans s.ok.sub, s.ok.src, fun a z => ?_⟩, fun a u e => ?_, fun a n m => ?_, s.keep, s.zs, s.zn⟩
  · show untw g1.F (cells cs) a = none
    by_cases m : cells cs a
    · exact untw_in m
    · rw [untw_out m]; exact s.ok.nz a z
  · show untw g1.F (cells cs) a = some u
    rw [untw_out fun m => by rw [h.fz a m] at e; cases e]
    exact s.up a u (thaw_up h.fz a u e)
  · have m : untw g1.F (cells cs) a ≠ none := m
    by_cases c : cells cs a
    · exact absurd (untw_in c) m
    · rw [untw_out c] at m
      refine s.new a ?_ m
      show thaw g.F g.H (cells cs) a = none
      rw [thaw_out c]
      exact n
theorem SS'.tups (h : SS' K g0 g env σ vs os cs) (s : Step ⟨g.Z, thaw g.F g.H (cells cs), g.H⟩ g1) : ∀ a u, g1.F a = some u → isTupO u = true → untw g1.F (cells cs) a = some u := fun a u e t => by
  have no : ¬ cells cs a := fun ⟨j, m⟩ => by
    obtain ⟨_, _, nz, w, hw, hc⟩ := h.fr j a m
    have h1 := s.keep a w hw nz
    have h2 := s.ok.sub a u e
    rw [h1] at h2
    cases h2
    rw [isTup_cell hc] at t
    cases t
  rw [untw_out no]
  exact e
/-- a value in hand more -/
theorem SS'.push (h : SS' K g0 g env σ vs os cs) {v : V} {o : O} {ds : List Addr} (r : RO K g.Z g.F g.H v o ds) (nd : ds.Nodup) (fr : ∀ c ∈ ds, g.F c = none ∧ g0.H c = none ∧ ¬ inZ g.Z c) (ap : ∀ j, ∀ c ∈ ds, c ∉ cs j) :
    SS' K g0 g env σ (v :: vs) (o :: os) (fun j => match j with | none => ds ++ cs none | some i => cs (some i)) where
  st := h.st
  len := h.len
  slot := h.slot
  tmp := .cons r h.tmp
  fr := fun j c m => by
    cases j with
    | some i => exact h.fr _ c m
    | none =>
      rcases List.mem_append.mp m with m | m
      · obtain ⟨h1, h2, h3⟩ := fr c m
        exact ⟨h1, h2, h3, r.there c m⟩
      · exact h.fr _ c m
  nd := fun j => by
    cases j with
    | some i => exact h.nd _
    | none => exact List.nodup_append.mpr ⟨nd, h.nd _, fun a m b m' e => ap none a m (by rw [e]; exact m')⟩
  dj := fun j j' c m m' => by
    cases j with
    | none =>
      cases j' with
      | none => rfl
      | some i' =>
        rcases List.mem_append.mp m with m | m
        · exact absurd m' (ap _ c m)
        · exact h.dj _ _ c m m'
    | some i =>
      cases j' with
      | none =>
        rcases List.mem_append.mp m' with m' | m'
        · exact absurd m (ap _ c m')
        · exact h.dj _ _ c m m'
      | some i' => exact h.dj _ _ c m m'
/-- a result comes to hand -/
theorem SS'.res (h : SS' K g0 g env σ vs os cs) {v : V} {o : O} (s : Step g g1) (r : RR K g g1 v o) : SS K g0 g1 env σ (v :: vs) (o :: os) := by
  obtain ⟨ds, r, nd, hc⟩ := r
  exact ⟨_, (h.step s).push r nd (fun c m => ⟨(hc c m).1, h.st.none_ (hc c m).2.1, (hc c m).2.2⟩) fun j c m m' => by
    obtain ⟨_, _, _, u, hu, _⟩ := h.fr j c m'
    rw [(hc c m).2.1] at hu; cases hu⟩
theorem SS'.resC (h : SS' K g0 g env σ vs os cs) {v : V} {o : O} (s : Step ⟨g.Z, thaw g.F g.H (cells cs), g.H⟩ g1) (r : RR K ⟨g.Z, thaw g.F g.H (cells cs), g.H⟩ g1 v o) (cl : o.clean = true) :
    SS K g0 ⟨g1.Z, untw g1.F (cells cs), g1.H⟩ env σ (v :: vs) (o :: os) := by
  refine h.res (h.back s) ?_
  obtain ⟨ds, r, nd, hc⟩ := r
  refine ⟨ds, RO.strip (h.tups s) r cl, nd, fun c m => ⟨?_, (hc c m).2.1, (hc c m).2.2⟩⟩
  show untw g1.F (cells cs) c = none
  by_cases q : cells cs c
  · exact untw_in q
  · rw [untw_out q]; exact (hc c m).1
end

abbrev SEX := Ex → SEnv → Prop
def Ex.clean (x : Ex) : Bool := noLsts (x.fs.map (·.2))
structure DEnds where
  nx : SEnv → Prop
  rt : O → Prop
  bk : SEnv → Prop := fun _ => False
  ct : SEnv → Prop := fun _ => False
abbrev WS := SEnv → DEnds → SEX → Prop
/-- what the ends of data are for the layer -/
structure Lk (mg : Str → Option Value) (K : PySem.W.Frag) (W : WX) (g0 : Gh) (De : DEnds) (Ee : SEX) (D : Ends) : Prop where
  nx : ∀ g env σ, SS K g0 g env σ [] [] → De.nx env → D.nx σ g.H
  bk : ∀ g env σ, SS K g0 g env σ [] [] → De.bk env → D.bk σ g.H
  ct : ∀ g env σ, SS K g0 g env σ [] [] → De.ct env → D.ct σ g.H
  rt : ∀ g v o, Step g0 g → RR K g0 g v o → De.rt o → D.rt v g.H
  ex : ∀ g env σ x cls dd, SS K g0 g env σ [] [] → XR mg K g cls dd x → Ee x env → W cls dd σ g.H
def LS (X : Cx) (W : WX) (w : WS) : TS := fun D σ H => ∃ (g0 g : Gh) (env : SEnv) (De : DEnds) (Ee : SEX), g.H = H ∧ SS X.K g0 g env σ [] [] ∧ w env De Ee ∧ Lk X.mg X.K W g0 De Ee D
abbrev DS (X : Cx) (W : WX) (st : Stmt) (w : WS) : Prop := PS X st (LS X W w)
abbrev DSs (X : Cx) (W : WX) (st : List Stmt) (w : WS) : Prop := PSs X st (LS X W w)
theorem ps_imp {X : Cx} {st : Stmt} {t t' : TS} (h : PS X st t) (i : ∀ D σ H, t' D σ H → t D σ H) : PS X st t' := ⟨fun pins s σ H D I q => h.run pins s σ H D I (i D σ H q)⟩
theorem pss_imp {X : Cx} {st : List Stmt} {t t' : TS} (h : PSs X st t) (i : ∀ D σ H, t' D σ H → t D σ H) : PSs X st t' := ⟨fun pins s σ H D I q => h.run pins s σ H D I (i D σ H q)⟩
/-- an expression at a statement's place: its result holds nothing of the own lists -/
def evC (w : WE) (env : SEnv) (Q : O → Prop) (E : SEX) : Prop := w (view env) (fun o => o.clean = true ∧ Q o) (fun x => x.clean = true ∧ E x env)
/-- .. that reads no own list -/
def evS (w : WE) (env : SEnv) (Q : O → Prop) (E : SEX) : Prop := w (vview env) Q (fun x => E x env)
def evT (t : WT) (env : SEnv) (Q : Bool → Prop) (E : SEX) : Prop := t (view env) Q (fun x => x.clean = true ∧ E x env)
section
variable {X : Cx} {W : WX} {g0 g : Gh} {env : SEnv} {σ : L2.St} {vs : List V} {os : List O} {w : WE} {Qd : O → Prop} {Ee : SEX} {Q : VK}
theorem XR.back {mg : Str → Option Value} {K : PySem.W.Frag} {g1 : Gh} {cs : Option Nat → List Addr} (h : SS' K g0 g env σ vs os cs) (s : Step ⟨g.Z, thaw g.F g.H (cells cs), g.H⟩ g1) {cls : Value} {dd : Option Addr} {x : Ex} (r : XR mg K g1 cls dd x) (cl : x.clean = true) :
    XR mg K ⟨g1.Z, untw g1.F (cells cs), g1.H⟩ cls dd x := by
  obtain ⟨C, h1, h2, h3⟩ := r
  refine ⟨C, h1, h2, ?_⟩
  rcases h3 with h3 | ⟨d, us, e1, e2, a⟩
  · exact .inl h3
  · refine .inr ⟨d, us, e1, ?_, Ats.strip (h.tups s) a cl⟩
    have no : ¬ cells cs d := fun ⟨j, m⟩ => by
      obtain ⟨_, _, nz, u, hu, hc⟩ := h.fr j d m
      have q1 := s.keep d u hu nz
      have q2 := s.ok.sub _ _ e2
      rw [q1] at q2
      cases q2
      cases hc
    show untw g1.F (cells cs) d = _
    rw [untw_out no]
    exact e2
/-- nothing in hand is needed for the exceptions' link -/
abbrev EL (X : Cx) (W : WX) (g0 : Gh) (Ee : SEX) : Prop := ∀ g env σ x cls dd, SS X.K g0 g env σ [] [] → XR X.mg X.K g cls dd x → Ee x env → W cls dd σ g.H
theorem SS.drop (h : SS X.K g0 g env σ vs os) : SS X.K g0 g env σ [] [] := by
  obtain ⟨cs, h⟩ := h
  refine ⟨fun j => match j with | none => [] | some i => cs (some i), h.st, h.len, h.slot, .nil, fun j c m => ?_, fun j => ?_, fun j j' c m m' => ?_⟩
  · cases j with
    | none => simp at m
    | some i => exact h.fr _ c m
  · cases j with
    | none => simp
    | some i => exact h.nd _
  · cases j with
    | none => simp at m
    | some i =>
      cases j' with
      | none => simp at m'
      | some i' => exact h.dj _ _ c m m'
theorem SS.goC (h : SS X.K g0 g env σ vs os) (hw : evC w env Qd Ee) (k : ∀ v o g1, SS X.K g0 g1 env σ (v :: vs) (o :: os) → Qd o → Q v g1.H) (kx : EL X W g0 Ee) : LE X W w σ g.H Q := by
  obtain ⟨cs, h⟩ := h
  refine LE.goO (g := ⟨g.Z, thaw g.F g.H (cells cs), g.H⟩) h.es hw (fun v o g1 s r q => ?_) fun x cls dd g1 s r q => ?_
  · exact k v o ⟨g1.Z, untw g1.F (cells cs), g1.H⟩ (h.resC s r q.1) q.2
  · exact kx ⟨g1.Z, untw g1.F (cells cs), g1.H⟩ env σ x cls dd (SS.drop (X := X) ⟨cs, h.step (h.back s)⟩) (r.back h s q.1) q.2
theorem SS.goS (h : SS X.K g0 g env σ vs os) (hw : evS w env Qd Ee) (k : ∀ v o g1, SS X.K g0 g1 env σ (v :: vs) (o :: os) → Qd o → Q v g1.H) (kx : EL X W g0 Ee) : LE X W w σ g.H Q := by
  obtain ⟨cs, h⟩ := h
  refine LE.goO h.esv hw (fun v o g1 s r q => k v o g1 (h.res s r) q) fun x cls dd g1 s r q => kx g1 env σ x cls dd (SS.drop (X := X) ⟨cs, h.step s⟩) r q
theorem SS.goT {t : WT} {Qb : Bool → Prop} {Q : Bool → Hp → Prop} (h : SS X.K g0 g env σ vs os) (hw : evT t env Qb Ee) (k : ∀ b g1, SS X.K g0 g1 env σ vs os → Qb b → Q b g1.H) (kx : EL X W g0 Ee) : LT X W t σ g.H Q := by
  obtain ⟨cs, h⟩ := h
  refine LT.go (g := ⟨g.Z, thaw g.F g.H (cells cs), g.H⟩) h.es hw (fun b g1 s q => ?_) fun x cls dd g1 s r q => ?_
  · exact k b ⟨g1.Z, untw g1.F (cells cs), g1.H⟩ ⟨cs, h.step (h.back s)⟩ q
  · exact kx ⟨g1.Z, untw g1.F (cells cs), g1.H⟩ env σ x cls dd (SS.drop (X := X) ⟨cs, h.step (h.back s)⟩) (r.back h s q.1) q.2

theorem SS.set {K : PySem.W.Frag} {v : V} {o : O} {i : Nat} (h : SS K g0 g env σ (v :: vs) (o :: os)) (hi : i < env.length) : SS K g0 g (env.set i (some o)) (σ.set i (some v)) vs os := by
  obtain ⟨cs, h⟩ := h
  have ht := h.tmp
  generalize hcn : cs none = cn at ht
  cases ht with
  | cons r t =>
    rename_i c1 c2
    have nd0 := h.nd none
    rw [hcn] at nd0
    obtain ⟨n1, n2, n3⟩ := List.nodup_append.mp nd0
    have inn : ∀ c, c ∈ c1 → c ∈ cs none := fun c m => by rw [hcn]; simp [m]
    have inn2 : ∀ c, c ∈ c2 → c ∈ cs none := fun c m => by rw [hcn]; simp [m]
    refine ⟨fun j => match j with | none => c2 | some l => if l = i then c1 else cs (some l), h.st, by simp [h.len], fun l p e => ?_, t, fun j c m => ?_, fun j => ?_, fun j j' c m m' => ?_⟩
    · rcases List.set_get e with ⟨el, q⟩ | ⟨n, q⟩
      · subst el
        obtain rfl : o = p := Option.some.inj q
        refine ⟨v, List.getElem?_set_self (by rw [← h.len]; exact hi), ?_⟩
        simp only [if_pos]
        exact r
      · obtain ⟨u, q1, q2⟩ := h.slot l p q
        refine ⟨u, by rw [List.getElem?_set_ne n]; exact q1, ?_⟩
        simp only [if_neg (Ne.symm n)]
        exact q2
    · cases j with
      | none => exact h.fr _ c (inn2 c m)
      | some l =>
        by_cases q : l = i
        · simp only [if_pos q] at m
          exact h.fr _ c (inn c m)
        · simp only [if_neg q] at m
          exact h.fr _ c m
    · cases j with
      | none => exact n2
      | some l =>
        by_cases q : l = i
        · simp only [if_pos q]; exact n1
        · simp only [if_neg q]; exact h.nd _
    · cases j with
      | none =>
        cases j' with
        | none => rfl
        | some l =>
          by_cases q : l = i
          · simp only [if_pos q] at m'
            exact absurd rfl (n3 c m' c m)
          · simp only [if_neg q] at m'
            exact absurd (h.dj _ _ c (inn2 c m) m') (by simp)
      | some l =>
        by_cases q : l = i
        · simp only [if_pos q] at m
          cases j' with
          | none => exact absurd rfl (n3 c m c m')
          | some l' =>
            by_cases q' : l' = i
            · rw [q, q']
            · simp only [if_neg q'] at m'
              exact absurd (h.dj _ _ c (inn c m) m') (by simp)
        · simp only [if_neg q] at m
          cases j' with
          | none => exact absurd (h.dj _ _ c m (inn2 c m')) (by simp)
          | some l' =>
            by_cases q' : l' = i
            · simp only [if_pos q'] at m'
              exact absurd (h.dj _ _ c m (inn c m')) (by simp)
            · simp only [if_neg q'] at m'
              exact h.dj _ _ c m m'
/-- the first in hand leaves with all else frozen or forgotten: a def's result -/
theorem SS.rt {K : PySem.W.Frag} {v : V} {o : O} (h : SS K g0 g env σ (v :: vs) (o :: os)) : Step g0 g ∧ RR K g0 g v o := by
  obtain ⟨cs, h⟩ := h
  have ht := h.tmp
  generalize hcn : cs none = cn at ht
  cases ht with
  | cons r t =>
    rename_i c1 c2
    have nd0 := h.nd none
    rw [hcn] at nd0
    exact ⟨h.st, c1, r, (List.nodup_append.mp nd0).1, fun c m => let ⟨a, b, c', _⟩ := h.fr none c (by rw [hcn]; simp [m]); ⟨a, b, c'⟩⟩
/-- a slot's value comes to hand, the slot is forgotten -/
theorem SS.take {K : PySem.W.Frag} {o : O} {i : Nat} (h : SS K g0 g env σ [] []) (e : env[i]? = some (some o)) : ∃ v, σ[i]? = some (some v) ∧ SS K g0 g (env.set i none) σ [v] [o] := by
  obtain ⟨cs, h⟩ := h
  obtain ⟨v, hv, r⟩ := h.slot i o e
  refine ⟨v, hv, fun j => match j with | none => cs (some i) | some l => if l = i then [] else cs (some l), h.st, by simp [h.len], fun l p q => ?_, ?_, fun j c m => ?_, fun j => ?_, fun j j' c m m' => ?_⟩
  · rcases List.set_get q with ⟨_, q⟩ | ⟨n, q⟩
    · cases q
    · obtain ⟨u, q1, q2⟩ := h.slot l p q
      refine ⟨u, q1, ?_⟩
      simp only [if_neg (Ne.symm n)]
      exact q2
  · have := ROs.cons r (ROs.nil (K := K) (Z := g.Z) (F := g.F) (H := g.H))
    rwa [List.append_nil] at this
  · cases j with
    | none => exact h.fr _ c m
    | some l =>
      by_cases q : l = i
      · simp [q] at m
      · simp only [if_neg q] at m
        exact h.fr _ c m
  · cases j with
    | none => exact h.nd _
    | some l =>
      by_cases q : l = i
      · simp [q]
      · simp only [if_neg q]; exact h.nd _
  · cases j with
    | none =>
      cases j' with
      | none => rfl
      | some l =>
        by_cases q : l = i
        · simp [q] at m'
        · simp only [if_neg q] at m'
          have := h.dj _ _ c m m'
          simp at this
          exact absurd this.symm q
    | some l =>
      by_cases q : l = i
      · simp [q] at m
      · simp only [if_neg q] at m
        cases j' with
        | none =>
          have := h.dj _ _ c m m'
          simp at this
          exact absurd this q
        | some l' =>
          by_cases q' : l' = i
          · simp [q'] at m'
          · simp only [if_neg q'] at m'
            exact h.dj _ _ c m m'
/-- some slots frozen -/
def frzA : Nat → List Nat → SEnv → SEnv
  | _, _, [] => []
  | i, l, o :: r => (if i ∈ l then o.map fun o => .val o.d else o) :: frzA (i + 1) l r
@[simp] theorem frzA_nil {i : Nat} {l : List Nat} : frzA i l [] = [] := rfl
@[simp] theorem frzA_cons {i : Nat} {l : List Nat} {o : Option O} {r : SEnv} : frzA i l (o :: r) = (if i ∈ l then o.map fun o => .val o.d else o) :: frzA (i + 1) l r := rfl
def frz (l : List Nat) (env : SEnv) : SEnv := frzA 0 l env
theorem frzA_get (l : List Nat) : ∀ (env : SEnv) (k i : Nat), (frzA k l env)[i]? = (env[i]?).map fun o => if k + i ∈ l then o.map fun o => .val o.d else o
  | [], k, i => by simp
  | x :: env, k, 0 => by simp
  | x :: env, k, i + 1 => by
    rw [frzA_cons, List.getElem?_cons_succ, List.getElem?_cons_succ, frzA_get l env (k + 1) i, show k + 1 + i = k + (i + 1) by omega]
theorem frz_get (l : List Nat) (env : SEnv) (i : Nat) : (frz l env)[i]? = (env[i]?).map fun o => if i ∈ l then o.map fun o => .val o.d else o := by
  have := frzA_get l env 0 i
  rwa [Nat.zero_add] at this
theorem frzA_length (l : List Nat) : ∀ (env : SEnv) (k : Nat), (frzA k l env).length = env.length
  | [], _ => rfl
  | x :: env, k => by simp [frzA_length l env]
theorem frz_length (l : List Nat) (env : SEnv) : (frz l env).length = env.length := frzA_length l env 0
theorem SS.frz {K : PySem.W.Frag} (l : List Nat) (h : SS K g0 g env σ [] []) : ∃ F', SS K g0 ⟨g.Z, F', g.H⟩ (frz l env) σ [] [] := by
  obtain ⟨cs, h⟩ := h
  let fc : Addr → Prop := fun c => ∃ i ∈ l, c ∈ cs (some i)
  have fcell : ∀ c, fc c → g.F c = none := fun c ⟨i, _, m⟩ => (h.fr _ c m).1
  have up := thaw_up (H := g.H) fcell
  have st : Step g ⟨g.Z, thaw g.F g.H fc, g.H⟩ → True := fun _ => trivial
  refine ⟨thaw g.F g.H fc, fun j => match j with | none => [] | some i => if i ∈ l then [] else cs (some i), ⟨h.st.ok.thaw fun c ⟨i, _, m⟩ => (h.fr _ c m).2.2.1, h.st.up.trans up, fun a n m => ?_, h.st.keep, h.st.zs, h.st.zn⟩, by rw [frz_length, h.len], fun i o e => ?_, .nil, fun j c m => ?_, fun j => ?_, fun j j' c m m' => ?_⟩
  · have m : thaw g.F g.H fc a ≠ none := m
    by_cases q : fc a
    · obtain ⟨i, _, mi⟩ := q
      exact (h.fr _ a mi).2.1
    · rw [thaw_out q] at m
      exact h.st.new a n m
  · rw [frz_get] at e
    cases q : env[i]? with
    | none => rw [q] at e; cases e
    | some x =>
      rw [q] at e
      simp only [Option.map_some, Option.some.injEq] at e
      by_cases il : i ∈ l
      · simp only [if_pos il] at e
        cases x with
        | none => cases e
        | some p =>
          simp only [Option.map_some, Option.some.injEq] at e
          subst e
          obtain ⟨v, hv, r⟩ := h.slot i p q
          refine ⟨v, hv, ?_⟩
          simp only [if_pos il]
          exact .val (r.at_ up fun c m => thaw_in ⟨i, il, m⟩)
      · simp only [if_neg il] at e
        subst e
        obtain ⟨v, hv, r⟩ := h.slot i o q
        refine ⟨v, hv, ?_⟩
        simp only [if_neg il]
        exact r.mono up (fun _ z => z) fun _ _ _ z => z
  · cases j with
    | none => simp at m
    | some i =>
      by_cases il : i ∈ l
      · simp [il] at m
      · simp only [if_neg il] at m
        obtain ⟨h1, h2, h3, h4⟩ := h.fr _ c m
        refine ⟨?_, h2, h3, h4⟩
        have no : ¬ fc c := fun ⟨i', il', m'⟩ => by
          have := h.dj _ _ c m m'
          simp at this
          subst this
          exact il il'
        show thaw g.F g.H fc c = none
        rw [thaw_out no]
        exact h1
  · cases j with
    | none => simp
    | some i =>
      by_cases il : i ∈ l
      · simp [il]
      · simp only [if_neg il]; exact h.nd _
  · cases j with
    | none => simp at m
    | some i =>
      by_cases il : i ∈ l
      · simp [il] at m
      · simp only [if_neg il] at m
        cases j' with
        | none => simp at m'
        | some i' =>
          by_cases il' : i' ∈ l
          · simp [il'] at m'
          · simp only [if_neg il'] at m'
            exact h.dj _ _ c m m'
end
theorem SS.sub {K : PySem.W.Frag} {g0 g1 g : Gh} {env : SEnv} {σ : L2.St} {vs : List V} {os : List O} (s : Step g0 g1) (h : SS K g1 g env σ vs os) : SS K g0 g env σ vs os := by
  obtain ⟨cs, h⟩ := h
  exact ⟨cs, s.trans h.st, h.len, h.slot, h.tmp, fun j c m => let ⟨a, b, d⟩ := h.fr j c m; ⟨a, s.none_ b, d⟩, h.nd, h.dj⟩
theorem Lk.sub {mg : Str → Option Value} {K : PySem.W.Frag} {W : WX} {g0 g1 : Gh} {De : DEnds} {Ee : SEX} {D : Ends} (s : Step g0 g1) (k : Lk mg K W g0 De Ee D) : Lk mg K W g1 De Ee D where
  nx := fun g env σ h => k.nx g env σ (h.sub s)
  bk := fun g env σ h => k.bk g env σ (h.sub s)
  ct := fun g env σ h => k.ct g env σ (h.sub s)
  rt := fun g v o t r => k.rt g v o (s.trans t) (r.back s)
  ex := fun g env σ x cls dd h => k.ex g env σ x cls dd (h.sub s)
/-- a later entry: all but the own cells as they stand -/
theorem SS.cut {K : PySem.W.Frag} {g0 g : Gh} {env : SEnv} {σ : L2.St} {vs : List V} {os : List O} (h : SS K g0 g env σ vs os) : ∃ g1, Step g0 g1 ∧ g1.F = g.F ∧ g1.Z = g.Z ∧ SS K g1 g env σ vs os := by
  obtain ⟨cs, h⟩ := h
  have hF : ∀ a u, g.F a = some u → untw g.H (cells cs) a = some u := fun a u e => by
    rw [untw_out fun m => by rw [h.fz a m] at e; cases e]
    exact h.st.ok.sub a u e
  have ok1 : Gh.Ok ⟨g.Z, g.F, untw g.H (cells cs)⟩ := ⟨hF, h.st.ok.src.keep fun b u z e => by
    show untw g.H (cells cs) b = some u
    rw [untw_out fun m => h.nz b m z]
    exact e, h.st.ok.nz⟩
  refine ⟨⟨g.Z, g.F, untw g.H (cells cs)⟩, ⟨ok1, h.st.up, h.st.new, fun a u e z => ?_, h.st.zs, h.st.zn⟩, rfl, rfl, cs, ⟨h.st.ok, Sub.refl _, fun a n m => absurd n m, fun a u e z => ?_, fun _ q => q, fun _ q => .inl q⟩, h.len, h.slot, h.tmp, fun j c m => ?_, h.nd, h.dj⟩
  · show untw g.H (cells cs) a = some u
    have no : ¬ cells cs a := fun ⟨j, m⟩ => by rw [(h.fr j a m).2.1] at e; cases e
    rw [untw_out no]
    exact h.st.keep a u e z
  · have e : untw g.H (cells cs) a = some u := e
    by_cases m : cells cs a
    · rw [untw_in m] at e; cases e
    · rw [untw_out m] at e; exact e
  · obtain ⟨a, _, d⟩ := h.fr j c m
    exact ⟨a, untw_in ⟨j, m⟩, d⟩
end DL
/-! DStm2 -/
namespace DL
open PySem PySem.Spec PyProof.Rows L2

section
variable {X : Cx} {W : WX} {g0 g : Gh} {env : SEnv} {σ : L2.St} {w wa wb : WE} {s s1 s2 : WS} {t : WT} {st : Stmt} {rest body orelse : List Stmt} {e a b c tg iter : Expr} {pos : Pos} {De : DEnds} {Ee : SEX} {Dn : Ends}
theorem SS.nil_ (h : SS X.K g0 g env σ [] []) : SS X.K g0 g env σ [] [] := h

def sNil : WS := fun env D _ => D.nx env
def sSeq (s1 s2 : WS) : WS := fun env D E => s1 env { D with nx := fun env' => s2 env' D E } E
theorem dss_nil : DSs X W [] sNil := pss_imp pss_nil fun Dn σ H ⟨g0, g, env, De, Ee, e, h, hw, k⟩ => by
  subst e
  exact k.nx g env σ h hw
theorem dss_cons (h1 : DS X W st s1) (h2 : DSs X W rest s2) : DSs X W (st :: rest) (sSeq s1 s2) := pss_imp (pss_cons h1 h2) fun Dn σ H ⟨g0, g, env, De, Ee, e, h, hw, k⟩ => by
  subst e
  exact ⟨g0, g, env, { De with nx := fun env' => s2 env' De Ee }, Ee, rfl, h, hw, ⟨fun g' env' σ' h' q => ⟨g0, g', env', De, Ee, rfl, h', q, k⟩, k.bk, k.ct, k.rt, k.ex⟩⟩
theorem dss_one (h1 : DS X W st s1) : DSs X W [st] s1 := pss_one h1
/-- ahead of a statement some slots are frozen -/
def sFrz (l : List Nat) (s : WS) : WS := fun env D E => s (frz l env) D E
theorem ds_frz (l : List Nat) (h : DS X W st s) : DS X W st (sFrz l s) := ps_imp h fun Dn σ H ⟨g0, g, env, De, Ee, e, h, hw, k⟩ => by
  subst e
  obtain ⟨F', h'⟩ := h.frz l
  exact ⟨g0, ⟨g.Z, F', g.H⟩, _, De, Ee, rfl, h', hw, k⟩
theorem ds_pass : DS X W (.Pass pos) sNil := ps_imp ps_pass fun Dn σ H ⟨g0, g, env, De, Ee, e, h, hw, k⟩ => by
  subst e
  exact k.nx g env σ h hw
def sBreak : WS := fun env D _ => D.bk env
def sCont : WS := fun env D _ => D.ct env
theorem ds_break : DS X W (.Break pos) sBreak := ps_imp ps_break fun Dn σ H ⟨g0, g, env, De, Ee, e, h, hw, k⟩ => by
  subst e
  exact k.bk g env σ h hw
theorem ds_cont : DS X W (.Continue pos) sCont := ps_imp ps_continue fun Dn σ H ⟨g0, g, env, De, Ee, e, h, hw, k⟩ => by
  subst e
  exact k.ct g env σ h hw

/-- e's value holds no list of another -/
def sSet (i : Nat) (w : WE) : WS := fun env D E => evC w env (fun o => i < env.length ∧ D.nx (env.set i (some o))) E
/-- e reads no own list -/
def sSetS (i : Nat) (w : WE) : WS := fun env D E => evS w env (fun o => i < env.length ∧ D.nx (env.set i (some o))) E
section
variable {i : Nat} {x : Str} {pos' : Pos}
theorem le_set {i : Nat} (h : SS X.K g0 g env σ [] []) (k : Lk X.mg X.K W g0 De Ee Dn) : ∀ v o g1, SS X.K g0 g1 env σ [v] [o] → i < env.length ∧ De.nx (env.set i (some o)) → Dn.nx (σ.set i (some v)) g1.H :=
  fun v o g1 h1 q => k.nx g1 _ _ (h1.set q.1) q.2
theorem ds_set (hN : X.N.Nodup) (he : DE X W e w) (hi : X.N[i]? = some x := by rfl) (hx : Loc X.env.scope x := by first | exact Or.inl rfl | exact Or.inr rfl) (hs : swapsWith e (some (.Name x pos')) pos.line X.env = pure false := by rfl)
    (hf : X.fn x = true ∨ X.env.scope.names.lookup x = some .local := by first | exact .inl rfl | exact .inr rfl | assumption) : DS X W (.Assign [.Name x pos'] e pos) (sSet i w) := ps_imp (ps_set hN hi hx he hs hf) fun Dn σ H ⟨g0, g, env, De, Ee, e, h, hw, k⟩ => by
  subst e
  exact h.goC hw (le_set h k) k.ex
theorem ds_setS (hN : X.N.Nodup) (he : DE X W e w) (hi : X.N[i]? = some x := by rfl) (hx : Loc X.env.scope x := by first | exact Or.inl rfl | exact Or.inr rfl) (hs : swapsWith e (some (.Name x pos')) pos.line X.env = pure false := by rfl)
    (hf : X.fn x = true ∨ X.env.scope.names.lookup x = some .local := by first | exact .inl rfl | exact .inr rfl | assumption) : DS X W (.Assign [.Name x pos'] e pos) (sSetS i w) := ps_imp (ps_set hN hi hx he hs hf) fun Dn σ H ⟨g0, g, env, De, Ee, e, h, hw, k⟩ => by
  subst e
  exact h.goS hw (le_set h k) k.ex
/-- name = [.. for ..] on one line -/
theorem ds_setLc {wi : WI} {p : Pat} {wt : WT} {we : WE} {elt : Expr} {ifs : List Expr} {scope : Scope} {own : List (Str × Nat)} {spos : Pos} (hc : X.calm = true) (hN : X.N.Nodup) (hi : DI X W tg iter wi) (ok : BlkOk X.N X.env.scope scope own)
    (hg : ∀ (s : Shared) (H : Hp) (C : Addr) (cl : List (Str × Addr)) (fp : List Addr), DG (X.blk s H scope (compEnvC scope cl C X.env) fp) tg p) (ht : ∀ (s : Shared) (H : Hp) (C : Addr) (cl : List (Str × Addr)) (fp : List Addr), DTs (X.blk s H scope (compEnvC scope cl C X.env) fp) WF ifs wt)
    (he : ∀ (s : Shared) (H : Hp) (C : Addr) (cl : List (Str × Addr)) (fp : List Addr), DE (X.blk s H scope (compEnvC scope cl C X.env) fp) WF elt we)
    (hsw : swapsWith (.ListComp elt [⟨tg, iter, ifs, 0⟩] scope pos) (some (.Name x pos')) spos.line X.env = pure true)
    (hy : X.N[i]? = some x := by rfl) (hyl : X.env.scope.names.lookup x = some .local := by rfl)
    (hp : (p.slots.all fun i => (own.map (·.2)).contains i) = true := by rfl) (hs : ∀ x, foldedSetIterable iter X.env x = pure x := by intro _; rfl) :
    DS X W (.Assign [.Name x pos'] (.ListComp elt [⟨tg, iter, ifs, 0⟩] scope pos) spos) (sSet i (eLc wi p wt we (own.map (·.2)))) := ps_imp (ps_setLc hc hN hy hyl hsw hi ok hg ht he hs) fun Dn σ H ⟨g0, g, env, De, Ee, e, h, hw, k⟩ => by
  subst e
  exact le_lc (fun i m => by simpa using List.all_eq_true.mp hp i m) σ g.H _ (h.goC hw (le_set h k) k.ex)
end

/-- the result; what own lists it holds are frozen -/
def sRet (w : WE) : WS := fun env D E => w (view env) (fun o => D.rt o) (fun x => x.clean = true ∧ E x env)
def sRetV (i : Nat) : WS := fun env D _ => match env[i]? with
  | some (some o) => D.rt o
  | _ => False
def sRetN : WS := fun _ D _ => D.rt (.val .non)
theorem SS.goR {K : PySem.W.Frag} {cs : Option Nat → List Addr} (h : SS' K g0 g env σ [] [] cs) : Step g0 ⟨g.Z, thaw g.F g.H (cells cs), g.H⟩ :=
  ⟨h.st.ok.thaw h.nz, h.st.up.trans (thaw_up h.fz), fun a n m => by
    have m : thaw g.F g.H (cells cs) a ≠ none := m
    by_cases q : cells cs a
    · obtain ⟨j, mj⟩ := q
      exact (h.fr j a mj).2.1
    · rw [thaw_out q] at m
      exact h.st.new a n m, h.st.keep, h.st.zs, h.st.zn⟩
theorem ds_ret (he : DE X W e w) : DS X W (.Return (some e) pos) (sRet w) := ps_imp (ps_ret he) fun Dn σ H ⟨g0, g, env, De, Ee, e, h, hw, k⟩ => by
  subst e
  obtain ⟨cs, h⟩ := h
  have s0 := SS.goR h
  refine LE.goO (g := ⟨g.Z, thaw g.F g.H (cells cs), g.H⟩) h.es hw (fun v o g1 s r q => k.rt g1 v o (s0.trans s) (r.back s0) q) fun x cls dd g1 s r q => ?_
  exact k.ex ⟨g1.Z, untw g1.F (cells cs), g1.H⟩ env σ x cls dd (SS.drop (X := X) ⟨cs, h.step (h.back s)⟩) (r.back h s q.1) q.2
theorem ds_retV (i : Nat) {x : Str} {pos' : Pos} (hN : X.N[i]? = some x := by rfl) (hv : Vis X.env.scope x := by first | exact Or.inl rfl | exact Or.inr (Or.inl rfl) | exact Or.inr (Or.inr rfl)) (hd : (x == ("__debug__" : Str)) = false := by decide)
    (hcd : (x == ("__classdict__" : Str)) = false := by decide) : DS X W (.Return (some (.Name x pos')) pos) (sRetV i) := ps_imp (ps_ret (pe_var hN hv hd hcd)) fun Dn σ H ⟨g0, g, env, De, Ee, e, h, hw, k⟩ => by
  subst e
  unfold sRetV at hw
  split at hw
  · rename_i o ho
    obtain ⟨v, hv, h'⟩ := h.take ho
    exact ⟨v, hv, k.rt g v o h'.rt.1 h'.rt.2 hw⟩
  · exact hw.elim
theorem ds_retN : DS X W (.Return none pos) sRetN := ps_imp ps_retN fun Dn σ H ⟨g0, g, env, De, Ee, e, h, hw, k⟩ => by
  subst e
  obtain ⟨cs, h⟩ := h
  exact k.rt g _ _ h.st (.val .non) hw

def sIf (t : WT) (s1 s2 : WS) : WS := fun env D E => evT t env (fun b => if b = true then s1 env D E else s2 env D E) E
theorem ds_if (ht : DT X W c t) (h1 : DSs X W body s1) (h2 : DSs X W orelse s2) : DS X W (.If c body orelse pos) (sIf t s1 s2) := ps_imp (ps_if ht h1 h2) fun Dn σ H ⟨g0, g, env, De, Ee, e, h, hw, k⟩ => by
  subst e
  refine h.goT hw (fun b g1 h1 q => ?_) k.ex
  cases b with
  | true =>
    rw [if_pos rfl] at q ⊢
    exact ⟨g0, g1, env, De, Ee, rfl, h1, q, k⟩
  | false =>
    rw [if_neg (by decide)] at q ⊢
    exact ⟨g0, g1, env, De, Ee, rfl, h1, q, k⟩
/-- I: what holds between two turns, by a number that falls -/
def sWhile (t : WT) (s : WS) : WS := fun env D E => ∃ I : Nat → SEnv → Prop, (∃ m, I m env) ∧ ∀ m env, I m env →
  evT t env (fun b => if b = true then s env { D with nx := fun env' => ∃ m', m' < m ∧ I m' env', ct := fun env' => ∃ m', m' < m ∧ I m' env', bk := D.nx } E else D.nx env) E
theorem ds_while (po : PassesOwn (model X.prog X.w) X.A X.env X.xe) (ht : DT X W c t) (hb : DSs X W body s) : DS X W (.While c body [] pos) (sWhile t s) := ps_imp (ps_while po ht hb) fun Dn σ H ⟨g0, g, env, De, Ee, e, h, hw, k⟩ => by
  subst e
  obtain ⟨I, ⟨m0, h0⟩, turn⟩ := hw
  refine ⟨fun m σ H => ∃ g env, g.H = H ∧ SS X.K g0 g env σ [] [] ∧ I m env, ⟨m0, g, env, rfl, h, h0⟩, ?_⟩
  rintro m σ H ⟨g, env, rfl, h, hi⟩
  refine h.goT (turn m env hi) (fun b g1 h1 q => ?_) k.ex
  cases b with
  | true =>
    rw [if_pos rfl] at q ⊢
    refine ⟨fun σ' H' => ∃ m', m' < m ∧ ∃ g env, g.H = H' ∧ SS X.K g0 g env σ' [] [] ∧ I m' env, fun σ' H' z => z, g0, g1, env, _, Ee, rfl, h1, q, ?_⟩
    exact ⟨fun g env σ h ⟨m', l, i⟩ => ⟨m', l, g, env, rfl, h, i⟩, k.nx, fun g env σ h ⟨m', l, i⟩ => ⟨m', l, g, env, rfl, h, i⟩, k.rt, k.ex⟩
  | false =>
    rw [if_neg (by decide)] at q ⊢
    exact k.nx g1 env σ h1 q

mutual
theorem tgP_ss {K : PySem.W.Frag} : ∀ (p : Pat) {env env' : SEnv} {σ : L2.St} {v : V} {d : D} {Q : L2.St → Hp → Prop}, SS K g0 g env σ [] [] → At K g.Z g.F v d → p.bind O.val d env = some env' →
    (∀ σ', SS K g0 g env' σ' [] [] → Q σ' g.H) → tgP K p v σ g.H Q
  | .nm i, env, env', σ, v, d, Q, h, a, e, k => by
    simp only [tgP]
    rw [Pat.bind_nm] at e
    split at e
    · rename_i hi
      cases e
      obtain ⟨cs, h⟩ := h
      have h1 := h.res h.st.ok.refl (RR.val (g := g) a)
      exact k _ (h1.set hi)
    · cases e
  | .tp ps, env, env', σ, v, d, Q, h, a, e, k => by
    have ok : g.Ok := by obtain ⟨cs, h⟩ := h; exact h.st.ok
    simp only [tgP]
    cases d with
    | tup ds =>
      rw [Pat.bind_tup] at e
      obtain ⟨q, vs, rfl, hq, as⟩ := a.tup_inv
      obtain ⟨hl, hh⟩ := tgPs_ss ps h as e k
      exact .inl ⟨q, vs, rfl, ok.sub.sqT hq, hl, hh⟩
    | lst ds =>
      rw [Pat.bind_lst] at e
      obtain ⟨q, vs, rfl, hq, as⟩ := a.lst_inv
      obtain ⟨hl, hh⟩ := tgPs_ss ps h as e k
      exact .inr ⟨q, vs, rfl, SqL.of (ok.sub _ _ hq), hl, hh⟩
    | _ => simp [Pat.bind, unD] at e
theorem tgPs_ss {K : PySem.W.Frag} : ∀ (ps : List Pat) {env env' : SEnv} {σ : L2.St} {vs : List V} {ds : List D} {Q : L2.St → Hp → Prop}, SS K g0 g env σ [] [] → Ats K g.Z g.F vs ds → Pat.binds O.val ps ds env = some env' →
    (∀ σ', SS K g0 g env' σ' [] [] → Q σ' g.H) → vs.length = ps.length ∧ tgPs K ps vs σ g.H Q
  | [], env, env', σ, vs, ds, Q, h, a, e, k => by
    simp only [tgPs]
    cases ds with
    | nil =>
      cases a
      rw [Pat.binds_nil] at e
      cases e
      exact ⟨rfl, rfl, k _ h⟩
    | cons d ds => simp [Pat.binds] at e
  | p :: ps, env, env', σ, vs, ds, Q, h, a, e, k => by
    simp only [tgPs]
    cases ds with
    | nil => simp [Pat.binds] at e
    | cons d ds =>
      cases a with
      | cons a t =>
        rename_i v vs
        have len := t.length
        rw [Pat.binds_cons] at e
        split at e
        · rename_i env1 e1
          have hlen : ∀ (ps : List Pat) (ds : List D) (env env' : SEnv), Pat.binds O.val ps ds env = some env' → ds.length = ps.length := by
            intro ps
            induction ps with
            | nil => intro ds env env' q; cases ds <;> simp [Pat.binds] at q ⊢
            | cons p ps ih =>
              intro ds env env' q
              cases ds with
              | nil => simp [Pat.binds] at q
              | cons d ds =>
                rw [Pat.binds_cons] at q
                split at q
                · have := ih _ _ _ q; simp [this]
                · cases q
          refine ⟨by simp [len, hlen _ _ _ _ e], v, vs, rfl, tgP_ss p h a e1 fun σ1 h1 => ?_⟩
          exact (tgPs_ss ps h1 t e k).2
        · cases e
end
/-- a loop over what is known -/
def loopD (p : Pat) (s : WS) (De : DEnds) (Ee : SEX) : List D → SEnv → Prop
  | [], env => De.nx env
  | d :: ds, env => ∃ env', p.bind O.val d env = some env' ∧ s env' { De with nx := fun env'' => loopD p s De Ee ds env'', ct := fun env'' => loopD p s De Ee ds env'', bk := De.nx } Ee
theorem loop_ok {p : Pat} {ds : List D} {J : It} {wb : WS} (it : ItOk X.K g J ds) (h : SS X.K g0 g env σ [] []) (hl : loopD p wb De Ee ds env) (k : Lk X.mg X.K W g0 De Ee Dn) :
    ∃ Wn : Nat → Nat → L2.St → Hp → Prop, (∃ m, Wn 0 m σ g.H) ∧ ∀ i m σ H, Wn i m σ H → (J.stop i H ∧ Dn.nx σ H) ∨ (J.go i H ∧ ∃ N : L2.St → Hp → Prop, (∀ σ' H', N σ' H' → ∃ m', m' < m ∧ Wn (i + 1) m' σ' H') ∧ ∀ x H', J.yld i H x H' → tgP X.K p x σ H' fun σ2 H2 => LS X W wb { Dn with nx := N, ct := N, bk := Dn.nx } σ2 H2) := by
  obtain ⟨g1, s1, eF, eZ, h1⟩ := h.cut
  have k1 := k.sub s1
  have gr : ∀ g', Step g1 g' → Grow g g' := fun g' s => ⟨s.ok, by rw [← eF]; exact s.up, by rw [← eZ]; exact s.zs⟩
  refine ⟨fun i m σ H => m = ds.length - i ∧ i ≤ ds.length ∧ ∃ g' env, g'.H = H ∧ SS X.K g1 g' env σ [] [] ∧ loopD p wb De Ee (ds.drop i) env, ⟨ds.length, by simp, Nat.zero_le _, g, env, rfl, h1, hl⟩, ?_⟩
  rintro i m σ H ⟨rfl, hi, g', env, rfl, h', hl⟩
  have st' : Step g1 g' := by obtain ⟨cs, h'⟩ := h'; exact h'.st
  by_cases hlt : i < ds.length
  · have ed : ds[i]? = some ds[i] := by simp [hlt]
    rw [List.drop_eq_getElem_cons hlt] at hl
    obtain ⟨env', hb, hs⟩ := hl
    refine .inr ⟨it.go g' (gr g' st') i _ ed, fun σ' H' => ∃ g' env, g'.H = H' ∧ SS X.K g1 g' env σ' [] [] ∧ loopD p wb De Ee (ds.drop (i + 1)) env, fun σ' H' z => ⟨ds.length - (i + 1), by omega, rfl, hlt, z⟩, fun x H' hy => ?_⟩
    obtain ⟨F2, s2, a2⟩ := it.yl g' (gr g' st') i _ x H' ed hy
    have h2 : SS X.K g1 ⟨g'.Z, F2, H'⟩ env σ [] [] := by
      obtain ⟨cs, h'⟩ := h'
      exact ⟨cs, h'.step s2⟩
    refine tgP_ss p (g := ⟨g'.Z, F2, H'⟩) h2 a2 hb fun σ' h3 => ⟨g1, ⟨g'.Z, F2, H'⟩, env', _, Ee, rfl, h3, hs, ?_⟩
    exact ⟨fun g env σ h q => ⟨g, env, rfl, h, q⟩, fun g env σ h q => k1.nx g env σ h q, fun g env σ h q => ⟨g, env, rfl, h, q⟩, k1.rt, k1.ex⟩
  · have e : i = ds.length := by omega
    subst e
    rw [List.drop_length] at hl
    exact .inl ⟨it.st g' (gr g' st') _ (Nat.le_refl _), k1.nx g' env σ h' hl⟩
/-- what is walked holds nothing of the own lists -/
def sFor (wi : WI) (p : Pat) (s : WS) : WS := fun env D E => wi (vview env) (fun ds => loopD p s D E ds env) (fun x => E x env)
/-- .. is a range -/
def sForR (wi : WI) (p : Pat) (s : WS) : WS := fun env D E => wi (view env) (fun ds => loopD p s D E ds env) (fun x => x.clean = true ∧ E x env)
theorem ds_for {wi : WI} {p : Pat} {wb : WS} (po : PassesOwn (model X.prog X.w) X.A X.env X.xe) (hc : X.calm = true) (hi : DI X W tg iter wi) (hg : DG X tg p) (hb : DSs X W body wb) (hs : ∀ x, foldedSetIterable iter X.env x = pure x := by intro _; rfl) : DS X W (.For tg iter body [] pos) (sFor wi p wb) :=
  ps_imp (ps_for po hc hi hg hb hs) fun Dn σ H ⟨g0, g, env, De, Ee, e, h, hw, k⟩ => by
  subst e
  obtain ⟨cs, h⟩ := h
  exact ⟨g, vview env, _, _, rfl, h.esv, hw, fun ds J g1 s it q => loop_ok it ⟨cs, h.step s⟩ q k, fun x cls dd g1 s r q => k.ex g1 env σ x cls dd ⟨cs, h.step s⟩ r q⟩
theorem ds_forR {wi : WI} {p : Pat} {wb : WS} (po : PassesOwn (model X.prog X.w) X.A X.env X.xe) (hc : X.calm = true) (hi : DIr X W tg iter wi) (hg : DG X tg p) (hb : DSs X W body wb) (hs : ∀ x, foldedSetIterable iter X.env x = pure x := by intro _; rfl) : DS X W (.For tg iter body [] pos) (sForR wi p wb) :=
  ps_imp (ps_for po hc hi hg hb hs) fun Dn σ H ⟨g0, g, env, De, Ee, e, h, hw, k⟩ => by
  subst e
  obtain ⟨cs, h⟩ := h
  refine ⟨⟨g.Z, thaw g.F g.H (cells cs), g.H⟩, view env, _, _, rfl, h.es, hw, fun ds J g1 s it q => ?_, fun x cls dd g1 s r q => ?_⟩
  · exact loop_ok (g := ⟨g1.Z, untw g1.F (cells cs), g1.H⟩) (it _) ⟨cs, h.step (h.back s)⟩ q k
  · exact k.ex ⟨g1.Z, untw g1.F (cells cs), g1.H⟩ env σ x cls dd ⟨cs, h.step (h.back s)⟩ (r.back h s q.1) q.2
end
end DL
/-! DFun -/
namespace DL
open PySem PySem.Spec PyProof.Rows L2

/-- a def's promise where nothing is being shown (repr leans on that) -/
structure FnG (P : Program) (w : World) (K : PySem.W.Frag) (mg : Str → Option Value) (base : Heap) (CX : CXT) (k : Nat) (f : Addr) (fd : FuncData) (ps : List Str) (sp : Sp) : Prop where
  len : ∀ vs H Q E, sp vs H Q E → vs.length = ps.length
  run : ∀ (A : Around) (outer : List Env) (s : Shared) (H : Hp) (args : Args) (us : List Value) (vs : List V) (Q : VK) (E : XK), Room k A → A.guards = some [] → Env0 P w K mg base A outer s H → BindsTo s fd args (ps.zip us) → Vals vs us → sp vs H Q E →
    codeAny (model P w) A (.call (.ref f) args) (CR CX outer P w H s Q E) s
theorem FnG.mono {P : Program} {w : World} {K : PySem.W.Frag} {mg : Str → Option Value} {base : Heap} {CX : CXT} {j k : Nat} {f : Addr} {fd : FuncData} {ps : List Str} {sp : Sp} (F : FnG P w K mg base CX j f fd ps sp) (h : j ≤ k) : FnG P w K mg base CX k f fd ps sp :=
  ⟨F.len, fun A outer s H args us vs Q E hr hg => F.run A outer s H args us vs Q E (hr.mono h) hg⟩
section
variable {P : Program} {w : World} {K : PySem.W.Frag} {mg : Str → Option Value} {base : Heap} {CX : CXT} {k : Nat} {f : Addr} {x qual : Str} {params : Arguments} {body : List Stmt} {scope : Scope} {dvs : List V} {kws : List (Str × V)} {fd : FuncData} {N ps : List Str} {sp : Sp}
theorem fng_of (F : FunD K x qual params body scope dvs kws f fd) (S : FnScope N ps scope) (hlen : ∀ vs H Q E, sp vs H Q E → vs.length = ps.length)
    (hb : ∀ (cdv : Value) (A : Around) (outer : List Env) (s : Shared) (H : Hp) (vs : List V) (Q : VK) (E : XK), Room k (A.deeper (envOfC qual scope s.heap.objs.size f cdv)) → A.guards = some [] → sp vs H Q E →
      ∃ t, PSs (cxOf CX P w K mg base N qual scope f cdv A outer s H E) body t ∧ t { nx := fun _ H' => Q .non H', rt := Q } (start N vs) H) : FnG P w K mg base CX (k + 1) f fd ps sp := by
  obtain ⟨oc, od, dV, kV, doc, pm, an, cdv, ct, osl, rfl, lk, hcd, _, _⟩ := F.ex
  refine ⟨hlen, fun A outer s H args us vs Q E hr hgd he hbind hv hs => ?_⟩
  have hn := hlen _ _ _ _ hs
  have kin : K.In s.heap := he.mod.kin.keeps fun b o q => (he.bs b o q).1
  have nol : s.heap.NoLimit := he.mod.nolimit.keeps fun b o q => (he.bs b o q).1
  have kinds : ∀ z ∈ ps.zip us, scope.names.lookup z.1 = some .local ∨ (scope.names.lookup z.1 = some .cell ∧ ((cellsFrom (s.heap.objs.size + 1) scope.names []).lookup z.1).isSome = true) := by
    rintro ⟨n, v⟩ hz
    rcases S.par n (List.of_mem_zip hz).1 with q | q
    · exact .inl q
    · exact .inr ⟨q, PySem.W.cellsFrom_some _ _ _ (.inl q)⟩
  refine codeAny_call_function hr.depth (kin _ _ lk) rfl S.co S.gen rfl (PySem.W.codeRec_of kin hcd) (hbind _ _ _ _ (wpAny_newFunctionEnv_cells S.kind kinds ?_))
  rintro env henv s1 ic
  subst henv
  refine ⟨nol.keeps ic.toInCall.keep, codeAny_func ?_⟩
  obtain ⟨t, ht, hq⟩ := hb cdv A outer s H vs Q E (hr.deeper _) hgd hs
  have I0 := inv_start (CX := CX) (E := E) S hr.hd he hn hv ic
  refine wpAny_mono (ht.run [] s1 (start N vs) H _ I0 hq) (fun fl s' z => ?_) fun e s' z => z
  cases fl with
  | ret u =>
    obtain ⟨v, σ', H', J, rv, q⟩ := z
    exact ⟨v, H', J.os, J.bare, J.base, J.hok, rv, q⟩
  | next =>
    obtain ⟨σ', H', J, q⟩ := z
    exact ⟨.non, H', J.os, J.bare, J.base, J.hok, rfl, q⟩
  | brk =>
    obtain ⟨_, _, _, q⟩ := z
    exact q.elim
  | cont =>
    obtain ⟨_, _, _, q⟩ := z
    exact q.elim
end

/-- a promise by data -/
abbrev FSp := List D → (O → Prop) → EX → Prop
def lift (mg : Str → Option Value) (K : PySem.W.Frag) (n : Nat) (sp : FSp) : Sp := fun vs H Q E => vs.length = n ∧ ∃ (g : Gh) (ds : List D) (Qd : O → Prop) (Ed : EX), g.H = H ∧ g.Ok ∧ Ats K g.Z g.F vs ds ∧ sp ds Qd Ed ∧
  (∀ v o g', Step g g' → RR K g g' v o → Qd o → Q v g'.H) ∧ (∀ x cls dd g', Step g g' → XR mg K g' cls dd x → Ed x → E cls dd g'.H)
structure Fn (P : Program) (w : World) (K : PySem.W.Frag) (mg : Str → Option Value) (base : Heap) (k : Nat) (x : Str) (ps : List Str) (sp : FSp) : Prop where
  len : ∀ ds Q E, sp ds Q E → ds.length = ps.length
  ex : ∃ f fd, mg x = some (.ref f) ∧ PySem.W.keepIn K (.ref f) = true ∧ Binds K fd ps [] ∧ FnG P w K mg base (L2.CX P w) k f fd ps (lift mg K ps.length sp)
/-- where a body runs -/
structure Good (X : Cx) (k : Nat) : Prop where
  calm : X.calm = true
  room : Room k X.A
  grd : X.A.guards = some []
theorem Good.mono {X : Cx} {j k : Nat} (g : Good X k) (h : j ≤ k) : Good X j := ⟨g.calm, g.room.mono h, g.grd⟩
theorem Good.blk {X : Cx} {k : Nat} (g : Good X k) {s : Shared} {H : Hp} {scope : Scope} {cenv : Env} {fp : List Addr} : Good (X.blk s H scope cenv fp) k := ⟨g.calm, g.room, g.grd⟩
theorem Good.tr {X : Cx} {k : Nat} (g : Good X k) {pn : List (Addr × Obj)} {xe : Value → Shared → Prop} : Good (X.tr pn xe) k := ⟨g.calm, g.room, g.grd⟩
/-- f(e, ..) -/
def eCall (sp : FSp) (ws : WA) : WE := fun env Q E => ws env (fun os => sp (O.ds os) Q E) E
section
variable {X : Cx} {W : WX} {k : Nat} {x : Str} {ps : List Str} {sp : FSp} {ws : WA} {e : Expr} {es : List Expr} {p pos : Pos}
theorem run_fng {f : Addr} {fd : FuncData} {sp : Sp} {pins : List (Addr × Obj)} {σ : L2.St} {H : Hp} {s : Shared} {Q : VK} {us : List Value} {vs : List V} {E : XK} (F : FnG X.prog X.w X.K X.mg X.base (L2.CX X.prog X.w) k f fd ps sp) (G : Good X k) (hb : Binds X.K fd ps [])
    (tk : Takes X W) (hE : ∀ c d H, E c d H → W c d σ H) (I : Inv X pins σ H s) (r : Vals vs us) (h : sp vs H Q E) : wpAny (model X.prog X.w) X.A (call (.ref f) us) (EP X pins σ Q) X.xe s := by
  have hl : us.length = ps.length := by rw [← r.length, F.len _ _ _ _ h]
  have hbb := hb s us I.kIn (by rw [List.append_nil]; exact hl)
  rw [List.append_nil] at hbb
  refine wpAny_call (codeAny_mono (F.run X.A X.stack s H ⟨us, []⟩ us vs Q E G.room G.grd I.env0 hbb r h) fun res s' hq => ?_)
  rcases res with er | (u | _ | _ | _)
  · exact tk er s' (XE.of_call I (fun c d H' q => hE c d H' q) hq)
  · exact hq.elim
  · exact hq.elim
  · exact hq.elim
  · exact I.after hq
theorem de_call (F : Fn X.prog X.w X.K X.mg X.base k x ps sp) (G : Good X k) (tk : Takes X W) (ha : DA X W (e :: es) ws) (hg : Gl X x := by rfl) (hdb : (x == ("__debug__" : Str)) = false := by decide)
    (he : starEach (e :: es) X.env = (false, eval e X.env) :: starEach es X.env := by rfl) (hpl : (backTo pos (starEach es X.env)).any (·.1) = false := by rfl) : DE X W (.Call (.Name x p) (e :: es) [] pos) (eCall sp ws) := by
  obtain ⟨f, fd, hm, hk, hb, FG⟩ := F.ex
  refine ⟨fun pins s σ H Q I h => wpAny_Call_Name_kw (ld_glob I hg hm ?_ hdb)⟩
  obtain ⟨g, env, Qd, Ed, eH, es', hw, kq, kx⟩ := h
  subst eH
  have h2 : LA X W ws σ g.H fun vs H1 => lift X.mg X.K ps.length sp vs H1 Q fun c d H => W c d σ H := by
    refine LA.go (R := fun ds => sp ds Qd Ed) es' hw (fun vs ds g1 s1 as h1 => ?_) kx
    exact ⟨by rw [as.length, F.len _ _ _ h1], g1, ds, Qd, Ed, rfl, s1.ok, as, h1, fun v o g' s' r q => QL.on (Q := Q) kq s1 v o g' s' r q, fun y c d g' s' r q => XL.on kx s1 y c d g' s' r q⟩
  refine PySem.W.callWith_K (h₀ := X.base) I.ok.mod.kin hk (thn (ha.run pos pins s σ g.H _ I h2) fun us s1 hz => ?_) he hpl
  obtain ⟨vs, H1, I1, r, q⟩ := hz
  exact ⟨I1.kIn, run_fng FG G hb tk (fun _ _ _ z => z) I1 r q⟩
/-- f() -/
theorem de_call0 (F : Fn X.prog X.w X.K X.mg X.base k x ps sp) (G : Good X k) (tk : Takes X W) (hg : Gl X x := by rfl) (hdb : (x == ("__debug__" : Str)) = false := by decide) : DE X W (.Call (.Name x p) [] [] pos) (eCall sp aNil) := by
  obtain ⟨f, fd, hm, hk, hb, FG⟩ := F.ex
  refine ⟨fun pins s σ H Q I h => wpAny_Call_Name_kw (ld_glob I hg hm ?_ hdb)⟩
  obtain ⟨g, env, Qd, Ed, eH, es', hw, kq, kx⟩ := h
  subst eH
  have hw : sp [] Qd Ed := by
    have := hw
    simp only [eCall, aNil, O.ds_nil] at this
    exact this
  refine PySem.W.callWith_K0 I.kIn hk (run_fng (us := []) (vs := []) (E := fun c d H => W c d σ H) FG G hb tk (fun _ _ _ z => z) I .nil ?_)
  exact ⟨by have := F.len _ _ _ hw; simpa using this, g, [], Qd, Ed, rfl, es'.ok, .nil, hw, kq, kx⟩
end

def startD (N : List Str) (ds : List D) : SEnv := ds.map (fun d => some (.val d)) ++ List.replicate (N.length - ds.length) none
/-- what leaves the def -/
abbrev WB (E : XK) : WX := fun c d _ H => E c d H
theorem SS.start {K : PySem.W.Frag} {g : Gh} {N : List Str} {vs : List V} {ds : List D} (ok : g.Ok) (a : Ats K g.Z g.F vs ds) : SS K g g (startD N ds) (start N vs) [] [] := by
  have hl := a.length
  refine ⟨fun _ => [], ok.refl, by simp [startD, L2.start, hl], fun i o e => ?_, .nil, fun _ _ m => by simp at m, fun _ => .nil, fun _ _ _ m => by simp at m⟩
  unfold startD at e
  by_cases hi : i < ds.length
  · rw [List.getElem?_append_left (by simpa using hi), List.getElem?_map] at e
    cases q : ds[i]? with
    | none => rw [q] at e; cases e
    | some d =>
      rw [q] at e
      simp only [Option.map_some, Option.some.injEq] at e
      subst e
      obtain ⟨v, h1, h2⟩ := a.get q
      refine ⟨v, ?_, .val h2⟩
      unfold L2.start
      rw [List.getElem?_append_left (by simp; omega), List.getElem?_map, h1]
      rfl
  · rw [List.getElem?_append_right (by simpa using hi), List.getElem?_replicate] at e
    split at e <;> cases e
section
variable {P : Program} {w : World} {K : PySem.W.Frag} {mg : Str → Option Value} {base : Heap} {k : Nat} {f : Addr} {x qual : Str} {params : Arguments} {body : List Stmt} {scope : Scope} {fd : FuncData} {N ps : List Str} {sp : FSp} {wb : WS}
theorem fng_mk (F : FunD K x qual params body scope [] [] f fd) (S : FnScope N ps scope)
    (hbody : ∀ (cdv : Value) (A : Around) (outer : List Env) (s : Shared) (H : Hp) (E : XK), Good (cxOf (L2.CX P w) P w K mg base N qual scope f cdv A outer s H E) k → DSs (cxOf (L2.CX P w) P w K mg base N qual scope f cdv A outer s H E) (WB E) body wb)
    (hsp : ∀ ds Q E, sp ds Q E → wb (startD N ds) { nx := fun _ => Q (.val .non), rt := Q } (fun x _ => E x)) : FnG P w K mg base (L2.CX P w) (k + 1) f fd ps (lift mg K ps.length sp) := by
  refine fng_of F S (fun vs H Q E h => h.1) fun cdv A outer s H vs Q E hr hgd h => ?_
  obtain ⟨hl, g, ds, Qd, Ed, rfl, ok, as, hs, kq, kx⟩ := h
  refine ⟨_, hbody cdv A outer s g.H E ⟨rfl, hr, hgd⟩, g, g, _, _, _, rfl, SS.start ok as, hsp ds Qd Ed hs, ?_⟩
  refine ⟨fun g' env σ h q => ?_, fun _ _ _ _ q => q.elim, fun _ _ _ _ q => q.elim, fun g' v o s r q => kq v o g' s r q, fun g' env σ y cls dd h r q => ?_⟩
  · obtain ⟨cs, h⟩ := h
    exact kq _ _ g' h.st (.val .non) q
  · obtain ⟨cs, h⟩ := h
    exact kx y cls dd g' h.st r q
theorem fn_mk (F : FunD K x qual params body scope [] [] f fd) (hm : mg x = some (.ref f)) (hb : Binds K fd ps []) (S : FnScope N ps scope) (hlen : ∀ ds Q E, sp ds Q E → ds.length = ps.length)
    (hbody : ∀ (cdv : Value) (A : Around) (outer : List Env) (s : Shared) (H : Hp) (E : XK), Good (cxOf (L2.CX P w) P w K mg base N qual scope f cdv A outer s H E) k → DSs (cxOf (L2.CX P w) P w K mg base N qual scope f cdv A outer s H E) (WB E) body wb)
    (hsp : ∀ ds Q E, sp ds Q E → wb (startD N ds) { nx := fun _ => Q (.val .non), rt := Q } (fun x _ => E x)) : Fn P w K mg base (k + 1) x ps sp :=
  ⟨hlen, f, fd, hm, F.kp, hb, fng_mk F S hbody hsp⟩
theorem Fn.mono {j : Nat} (F : Fn P w K mg base j x ps sp) (h : j ≤ k) : Fn P w K mg base k x ps sp := by
  obtain ⟨f, fd, a, b, c, d⟩ := F.ex
  exact ⟨F.len, f, fd, a, b, c, d.mono h⟩
/-- a weaker promise -/
theorem Fn.imp {sp' : FSp} (F : Fn P w K mg base k x ps sp) (h : ∀ ds Q E, sp' ds Q E → sp ds Q E) : Fn P w K mg base k x ps sp' := by
  obtain ⟨f, fd, a, b, c, d⟩ := F.ex
  refine ⟨fun ds Q E q => F.len _ _ _ (h _ _ _ q), f, fd, a, b, c, fun vs H Q E q => q.1, fun A outer s H args us vs Q E hr hg he hbb hv q => d.run A outer s H args us vs Q E hr hg he hbb hv ?_⟩
  obtain ⟨hl, g, ds, Qd, Ed, e1, ok, as, hs, kq, kx⟩ := q
  exact ⟨hl, g, ds, Qd, Ed, e1, ok, as, h _ _ _ hs, kq, kx⟩
theorem takes_cx {N : List Str} {cdv : Value} {A : Around} {outer : List Env} {s : Shared} {H : Hp} {E : XK} : Takes (cxOf (L2.CX P w) P w K mg base N qual scope f cdv A outer s H E) (WB E) := takes_of rfl rfl rfl rfl
theorem passes_cx {N : List Str} {cdv : Value} {A : Around} {outer : List Env} {s : Shared} {H : Hp} {E : XK} : PassesOwn (model P w) (cxOf (L2.CX P w) P w K mg base N qual scope f cdv A outer s H E).A (cxOf (L2.CX P w) P w K mg base N qual scope f cdv A outer s H E).env (cxOf (L2.CX P w) P w K mg base N qual scope f cdv A outer s H E).xe := passes_of rfl
theorem takesF {X : Cx} : Takes X WF := fun _ _ z => by
  obtain ⟨_, _, _, _, _, _, _, _, _, _, _, _, _, _, _, _, q⟩ := z
  exact q.elim
end
end DL
/-! DStm3 -/
namespace DL
open PySem PySem.Spec PyProof.Rows L2

theorem ROs.split {K : PySem.W.Frag} {Z : Zs} {F H : Hp} : ∀ {ps qs : List O} {vs : List V} {cs : List Addr}, ROs K Z F H vs (ps ++ qs) cs → ∃ us ws c1 c2, vs = us ++ ws ∧ cs = c1 ++ c2 ∧ ROs K Z F H us ps c1 ∧ ROs K Z F H ws qs c2
  | [], qs, vs, cs, h => ⟨[], vs, [], cs, rfl, rfl, .nil, h⟩
  | p :: ps, qs, vs, cs, h => by
    cases h with
    | cons r t =>
      obtain ⟨us, ws, c1, c2, rfl, rfl, h1, h2⟩ := ROs.split t
      exact ⟨_ :: us, ws, _ ++ c1, c2, rfl, by rw [List.append_assoc], .cons r h1, h2⟩
theorem ROs.one_inv {K : PySem.W.Frag} {Z : Zs} {F H : Hp} {vs : List V} {o : O} {cs : List Addr} (h : ROs K Z F H vs [o] cs) : ∃ v, vs = [v] ∧ RO K Z F H v o cs := by
  cases h with
  | cons r t =>
    cases t
    exact ⟨_, rfl, by rwa [List.append_nil]⟩
/-- the j-th is another -/
theorem ROs.set {K : PySem.W.Frag} {Z : Zs} {F H : Hp} {v : V} {o : O} {d : List Addr} (r : RO K Z F H v o d) : ∀ {os : List O} {vs : List V} {cs : List Addr} (j : Nat), ROs K Z F H vs os cs → j < os.length →
    ∃ c', ROs K Z F H (vs.set j v) (os.set j o) c' ∧ ∀ c, c'.count c ≤ cs.count c + d.count c
  | [], _, _, _, _, h => by simp at h
  | p :: ps, _, _, 0, .cons (cs := c1) (ds := c2) r' t, _ => ⟨d ++ c2, .cons r t, fun c => by rw [List.count_append, List.count_append]; omega⟩
  | p :: ps, _, _, j + 1, .cons (cs := c1) (ds := c2) r' t, h => by
    obtain ⟨c', h1, h2⟩ := ROs.set r (j := j) t (by simpa using h)
    exact ⟨c1 ++ c', .cons r' h1, fun c => by rw [List.count_append, List.count_append]; have := h2 c; omega⟩
section
variable {X : Cx} {W : WX} {K : PySem.W.Frag} {g0 g : Gh} {env : SEnv} {σ : L2.St} {vs vs' : List V} {os os' : List O} {cs : Option Nat → List Addr}
/-- what is to know of an own list -/
theorem SS'.own (h : SS' K g0 g env σ vs os cs) {i : Nat} {ps : List O} (e : env[i]? = some (some (.lst ps))) : ∃ l us c0, σ[i]? = some (some (.ref l)) ∧ g.H l = some (.lst us) ∧ cs (some i) = l :: c0 ∧ ROs K g.Z g.F g.H us ps c0 := by
  obtain ⟨v, hv, r⟩ := h.slot i _ e
  generalize hc : cs (some i) = cc at r
  cases r with
  | lst hl hs => exact ⟨_, _, _, hv, hl, rfl, hs⟩
/-- the list at l is written: what it holds comes from what it held and what was in hand -/
theorem SS'.put (h : SS' K g0 g env σ vs os cs) {i l : Nat} {us us' : List V} {ps ps' : List O} {c0 c1 ct : List Addr} (e : env[i]? = some (some (.lst ps))) (hl : σ[i]? = some (some (.ref l))) (hH : g.H l = some (.lst us)) (hc : cs (some i) = l :: c0)
    (r1 : ROs K g.Z g.F g.H us' ps' c1) (r2 : ROs K g.Z g.F g.H vs' os' ct) (cnt : ∀ c, c1.count c + ct.count c ≤ c0.count c + (cs none).count c) :
    SS K g0 ⟨g.Z, g.F, upd g.H l (.lst us')⟩ (env.set i (some (.lst ps'))) σ vs' os' := by
  have lin : l ∈ cs (some i) := by rw [hc]; simp
  obtain ⟨lF, l0, lZ, _⟩ := h.fr _ l lin
  have nd := h.nd (some i)
  rw [hc] at nd
  obtain ⟨lc0, nd0⟩ := List.nodup_cons.mp nd
  have old : ∀ c, c ∈ c0 → c ∈ cs (some i) := fun c m => by rw [hc]; simp [m]
  have from1 : ∀ c, c ∈ c1 ∨ c ∈ ct → c ∈ c0 ∨ c ∈ cs none := fun c m => by
    have := cnt c
    have p1 : c ∈ c1 → 0 < c1.count c := List.count_pos_iff.mpr
    have p2 : c ∈ ct → 0 < ct.count c := List.count_pos_iff.mpr
    by_cases q : c ∈ c0
    · exact .inl q
    · refine .inr (List.count_pos_iff.mp ?_)
      have := List.count_eq_zero.mpr q
      rcases m with m | m
      · have := p1 m; omega
      · have := p2 m; omega
  have ap : ∀ c, c ∈ c0 → c ∈ cs none → False := fun c m m' => by have := h.dj _ _ c (old c m) m'; cases this
  have le1 : ∀ c, c0.count c + (cs none).count c ≤ 1 := fun c => by
    have a1 := List.nodup_iff_count.mp nd0 c
    have a2 := List.nodup_iff_count.mp (h.nd none) c
    by_cases q : c ∈ c0
    · have := List.count_eq_zero.mpr fun m => ap c q m
      omega
    · have := List.count_eq_zero.mpr q
      omega
  have lno : ∀ c, c ∈ c1 ∨ c ∈ ct → c ≠ l := fun c m q => by
    subst q
    rcases from1 c m with q | q
    · exact lc0 q
    · have := h.dj _ _ c lin q; cases this
  have fr1 : ∀ c, c ∈ c1 ∨ c ∈ ct → g.F c = none ∧ g0.H c = none ∧ ¬ inZ g.Z c ∧ ∃ u, g.H c = some u ∧ isCellO u = true := fun c m => by
    rcases from1 c m with q | q
    · exact h.fr _ c (old c q)
    · exact h.fr _ c q
  have oth : ∀ {i' c}, i' ≠ i → c ∈ cs (some i') → c ≠ l ∧ ¬ (c ∈ c1 ∨ c ∈ ct) := fun {i' c} n m => by
    refine ⟨fun q => ?_, fun q => ?_⟩
    · subst q
      have := h.dj _ _ c m lin
      simp at this
      exact n this
    · rcases from1 c q with q | q
      · have := h.dj _ _ c m (old c q)
        simp at this
        exact n this
      · have := h.dj _ _ c m q; cases this
  have kp : ∀ c u, c ≠ l → g.H c = some u → upd g.H l (.lst us') c = some u := fun c u n q => by rw [upd_ne n]; exact q
  refine ⟨fun j => match j with | none => ct | some i' => if i' = i then l :: c1 else cs (some i'), h.st.own l0 lF lZ, by simp [h.len], fun i' o q => ?_, ROs.mono (Sub.refl _) (fun _ z => z) r2 fun c m u q => kp c u (lno c (.inr m)) q, fun j c m => ?_, fun j => ?_, fun j j' c m m' => ?_⟩
  · rcases List.set_get q with ⟨ei, q1⟩ | ⟨n, q1⟩
    · subst ei
      obtain rfl : O.lst ps' = o := Option.some.inj q1
      refine ⟨_, hl, ?_⟩
      simp only [if_pos]
      exact .lst upd_same (ROs.mono (Sub.refl _) (fun _ z => z) r1 fun c m u q => kp c u (lno c (.inl m)) q)
    · obtain ⟨v, h1, h2⟩ := h.slot i' o q1
      refine ⟨v, h1, ?_⟩
      simp only [if_neg (Ne.symm n)]
      exact h2.mono (Sub.refl _) (fun _ z => z) fun c m u q => kp c u (oth (Ne.symm n) m).1 q
  · have put : (g.F c = none ∧ g0.H c = none ∧ ¬ inZ g.Z c ∧ ∃ u, g.H c = some u ∧ isCellO u = true) → g.F c = none ∧ g0.H c = none ∧ ¬ inZ g.Z c ∧ ∃ u, upd g.H l (.lst us') c = some u ∧ isCellO u = true := fun ⟨a, b, d, u, hu, hk⟩ => by
      refine ⟨a, b, d, ?_⟩
      by_cases q : c = l
      · subst q; exact ⟨_, upd_same, rfl⟩
      · exact ⟨u, kp c u q hu, hk⟩
    cases j with
    | none => exact put (fr1 c (.inr m))
    | some i' =>
      by_cases q : i' = i
      · simp only [if_pos q] at m
        rcases List.mem_cons.mp m with rfl | m
        · exact put (h.fr _ _ lin)
        · exact put (fr1 c (.inl m))
      · simp only [if_neg q] at m
        exact put (h.fr _ c m)
  · cases j with
    | none =>
      show ct.Nodup
      exact List.nodup_iff_count.mpr fun c => by have := cnt c; have := le1 c; omega
    | some i' =>
      by_cases q : i' = i
      · simp only [if_pos q]
        exact List.nodup_cons.mpr ⟨fun m => lno l (.inl m) rfl, List.nodup_iff_count.mpr fun c => by have := cnt c; have := le1 c; omega⟩
      · simp only [if_neg q]; exact h.nd _
  · have no : ∀ c, c ∈ c1 → c ∈ ct → False := fun c a b => by
      have := cnt c
      have := le1 c
      have := List.count_pos_iff.mpr a
      have := List.count_pos_iff.mpr b
      omega
    cases j with
    | none =>
      cases j' with
      | none => rfl
      | some i' =>
        by_cases q : i' = i
        · simp only [if_pos q] at m'
          rcases List.mem_cons.mp m' with rfl | m'
          · exact absurd rfl (lno c (.inr m))
          · exact (no c m' m).elim
        · simp only [if_neg q] at m'
          exact absurd (.inr m) (oth q m').2
    | some i1 =>
      by_cases q : i1 = i
      · simp only [if_pos q] at m
        cases j' with
        | none =>
          rcases List.mem_cons.mp m with rfl | m
          · exact absurd rfl (lno c (.inr m'))
          · exact (no c m m').elim
        | some i2 =>
          by_cases q' : i2 = i
          · rw [q, q']
          · simp only [if_neg q'] at m'
            rcases List.mem_cons.mp m with rfl | m
            · exact absurd rfl (oth q' m').1
            · exact absurd (.inl m) (oth q' m').2
      · simp only [if_neg q] at m
        cases j' with
        | none => exact absurd (.inr m') (oth q m).2
        | some i2 =>
          by_cases q' : i2 = i
          · simp only [if_pos q'] at m'
            rcases List.mem_cons.mp m' with rfl | m'
            · exact absurd rfl (oth q m).1
            · exact absurd (.inl m') (oth q m).2
          · simp only [if_neg q'] at m'
            exact h.dj _ _ c m m'
end

section
variable {X : Cx} {W : WX} {g0 g : Gh} {env : SEnv} {σ : L2.St} {w we wi : WE} {ws : WA} {e ei a b : Expr} {es : List Expr} {pos p ap cp tp : Pos} {i : Nat} {x : Str}
/-- a value that is thrown away -/
def sExpr (w : WE) : WS := fun env D E => evC w env (fun _ => D.nx env) E
theorem ds_expr (he : DE X W e w) (hs : swapsWith e none pos.line X.env = pure false := by rfl) : DS X W (.Expr e pos) (sExpr w) := ps_imp (ps_expr he hs) fun Dn σ H ⟨g0, g, env, De, Ee, eH, h, hw, k⟩ => by
  subst eH
  exact h.goC hw (fun v o g1 h1 q => k.nx g1 env σ (SS.drop (X := X) h1) q) k.ex
theorem ds_doc {y : Str} {j : Nat} {p' : Pos} : DS X W (.Expr (.Constant (.str y) j p') pos) sNil := ps_imp ps_doc fun Dn σ H ⟨g0, g, env, De, Ee, eH, h, hw, k⟩ => by
  subst eH
  exact k.nx g env σ h hw
/-- x.append(e) -/
def ownD (o : Option (Option O)) (Q : List O → Prop) : Prop := match o with
  | some (some (.lst os)) => Q os
  | _ => False
theorem ownD_inv {o : Option (Option O)} {Q : List O → Prop} (h : ownD o Q) : ∃ os, o = some (some (.lst os)) ∧ Q os := by
  unfold ownD at h
  split at h
  · exact ⟨_, rfl, h⟩
  · exact h.elim
def sApp (i : Nat) (w : WE) : WS := fun env D E => ownD env[i]? fun os => evC w env (fun o => os.length < sizeLine ∧ D.nx (env.set i (some (.lst (os ++ [o]))))) E
/-- .. e reads no own list -/
def sAppS (i : Nat) (w : WE) : WS := fun env D E => ownD env[i]? fun os => evS w env (fun o => os.length < sizeLine ∧ D.nx (env.set i (some (.lst (os ++ [o]))))) E
theorem app_fin {De : DEnds} {Ee : SEX} {Dn : Ends} {l : Addr} {ps : List O} (e : env[i]? = some (some (.lst ps))) (hl : σ[i]? = some (some (.ref l))) (k : Lk X.mg X.K W g0 De Ee Dn) : ∀ v o g1, SS X.K g0 g1 env σ [v] [o] → ps.length < sizeLine ∧ De.nx (env.set i (some (.lst (ps ++ [o])))) →
    rAppend (.ref l) [v] g1.H fun _ H1 => Dn.nx σ H1 := fun v o g1 h1 q => by
  obtain ⟨cs, h1⟩ := h1
  obtain ⟨l', us, c0, e1, e2, e3, e4⟩ := h1.own e
  rw [hl] at e1
  obtain rfl : l = l' := by simpa using e1
  obtain ⟨w, ew, rw'⟩ := h1.tmp.one_inv
  obtain rfl : v = w := by simpa using ew
  refine ⟨l, us, v, rfl, rfl, e2, by rw [e4.length]; exact q.1, k.nx _ _ _ (h1.put (us' := us ++ [v]) (vs' := []) (os' := []) (ct := []) e hl e2 e3 (e4.append (.cons rw' .nil)) .nil fun c => ?_) q.2⟩
  simp only [List.append_nil, List.count_append, List.count_nil, Nat.add_zero]
  exact Nat.le_refl _
theorem ds_app (hs : DE X W e w) (hN : X.N[i]? = some x := by rfl) (hv : Vis X.env.scope x := by first | exact Or.inl rfl | exact Or.inr (Or.inl rfl) | exact Or.inr (Or.inr rfl)) (hd : (x == ("__debug__" : Str)) = false := by decide) (hcd : (x == ("__classdict__" : Str)) = false := by decide)
    (hb : attributeBase (.Name x p) "append" X.env (eval (.Name x p) X.env) = eval (.Name x p) X.env := by rfl)
    (hfew : ((backTo cp (starEach [e] X.env)).all (fun x => !x.1) && (backToKw cp (keywordEach [] X.env)).all (fun x => x.1.isSome) && decide ([e].length + ([] : List Keyword).length + (if ([] : List Keyword).isEmpty then 0 else 1) < 30)) = true := by rfl)
    (hline : (ap.endLine == cp.line) = true := by rfl) (hst : starEach [e] X.env = (false, eval e X.env) :: starEach [] X.env := by rfl) (hpl : (backTo cp (starEach [] X.env)).any (·.1) = false := by rfl) (hsw : swapsWith (.Call (.Attribute (.Name x p) "append" ap) [e] [] cp) none pos.line X.env = pure false := by rfl) :
    DS X W (.Expr (.Call (.Attribute (.Name x p) "append" ap) [e] [] cp) pos) (sApp i w) := ps_imp (ps_expr (pe_bm PySem.F.plainAttrs_list PySem.F.slot_list_append PySem.F.type_list_append mt_append (pe_var hN hv hd hcd) (pa_cons hs pa_nil hst) hb hfew hline hst hpl) hsw) fun Dn σ H ⟨g0, g, env, De, Ee, eH, h, hw, k⟩ => by
  subst eH
  obtain ⟨ps, e1, hw⟩ := ownD_inv hw
  obtain ⟨cs, h⟩ := h
  obtain ⟨l, us, c0, q1, q2, q3, q4⟩ := h.own e1
  exact ⟨.ref l, q1, .inl ⟨rfl, us, SqL.of q2⟩, SS.goC (X := X) ⟨cs, h⟩ hw (app_fin e1 q1 k) k.ex⟩
theorem ds_appS (hs : DE X W e w) (hN : X.N[i]? = some x := by rfl) (hv : Vis X.env.scope x := by first | exact Or.inl rfl | exact Or.inr (Or.inl rfl) | exact Or.inr (Or.inr rfl)) (hd : (x == ("__debug__" : Str)) = false := by decide) (hcd : (x == ("__classdict__" : Str)) = false := by decide)
    (hb : attributeBase (.Name x p) "append" X.env (eval (.Name x p) X.env) = eval (.Name x p) X.env := by rfl)
    (hfew : ((backTo cp (starEach [e] X.env)).all (fun x => !x.1) && (backToKw cp (keywordEach [] X.env)).all (fun x => x.1.isSome) && decide ([e].length + ([] : List Keyword).length + (if ([] : List Keyword).isEmpty then 0 else 1) < 30)) = true := by rfl)
    (hline : (ap.endLine == cp.line) = true := by rfl) (hst : starEach [e] X.env = (false, eval e X.env) :: starEach [] X.env := by rfl) (hpl : (backTo cp (starEach [] X.env)).any (·.1) = false := by rfl) (hsw : swapsWith (.Call (.Attribute (.Name x p) "append" ap) [e] [] cp) none pos.line X.env = pure false := by rfl) :
    DS X W (.Expr (.Call (.Attribute (.Name x p) "append" ap) [e] [] cp) pos) (sAppS i w) := ps_imp (ps_expr (pe_bm PySem.F.plainAttrs_list PySem.F.slot_list_append PySem.F.type_list_append mt_append (pe_var hN hv hd hcd) (pa_cons hs pa_nil hst) hb hfew hline hst hpl) hsw) fun Dn σ H ⟨g0, g, env, De, Ee, eH, h, hw, k⟩ => by
  subst eH
  obtain ⟨ps, e1, hw⟩ := ownD_inv hw
  obtain ⟨cs, h⟩ := h
  obtain ⟨l, us, c0, q1, q2, q3, q4⟩ := h.own e1
  exact ⟨.ref l, q1, .inl ⟨rfl, us, SqL.of q2⟩, SS.goS (X := X) ⟨cs, h⟩ hw (app_fin e1 q1 k) k.ex⟩
/-- x.extend(e), e a list -/
def lstO : O → Option (List O)
  | .lst os => some os
  | .val (.lst ds) => some (ds.map .val)
  | _ => none
theorem lstO_inv {o : O} {ps : List O} (h : lstO o = some ps) {K : PySem.W.Frag} {g : Gh} (ok : g.Ok) {v : V} {c : List Addr} (r : RO K g.Z g.F g.H v o c) : ∃ b zs c', v = .ref b ∧ g.H b = some (.lst zs) ∧ ROs K g.Z g.F g.H zs ps c' ∧ ∀ x, c'.count x ≤ c.count x := by
  unfold lstO at h
  split at h
  · cases h
    cases r with
    | lst a b => exact ⟨_, _, _, rfl, a, b, fun x => List.count_le_count_cons⟩
  · cases h
    obtain ⟨b, zs, rfl, h1, h2⟩ := r.val_inv.lst_inv
    exact ⟨b, zs, [], rfl, ok.sub _ _ h1, .vals h2, fun x => by simp⟩
  · cases h
def extD (os : List O) (o : O) (Q : List O → Prop) : Prop := ∃ ps, lstO o = some ps ∧ os.length + ps.length ≤ sizeLine ∧ Q (os ++ ps)
def sExt (i : Nat) (w : WE) : WS := fun env D E => ownD env[i]? fun os => evC w env (fun o => extD os o fun os' => D.nx (env.set i (some (.lst os')))) E
def sExtS (i : Nat) (w : WE) : WS := fun env D E => ownD env[i]? fun os => evS w env (fun o => extD os o fun os' => D.nx (env.set i (some (.lst os')))) E
theorem ext_fin {De : DEnds} {Ee : SEX} {Dn : Ends} {l : Addr} {ps : List O} (e : env[i]? = some (some (.lst ps))) (hl : σ[i]? = some (some (.ref l))) (k : Lk X.mg X.K W g0 De Ee Dn) : ∀ v o g1, SS X.K g0 g1 env σ [v] [o] → extD ps o (fun os' => De.nx (env.set i (some (.lst os')))) →
    rExtend (.ref l) [v] g1.H fun _ H1 => Dn.nx σ H1 := fun v o g1 h1 q => by
  obtain ⟨cs, h1⟩ := h1
  obtain ⟨l', us, c0, e1, e2, e3, e4⟩ := h1.own e
  rw [hl] at e1
  obtain rfl : l = l' := by simpa using e1
  obtain ⟨w, ew, rw'⟩ := h1.tmp.one_inv
  obtain rfl : v = w := by simpa using ew
  obtain ⟨qs, q1, q2, q3⟩ := q
  obtain ⟨b, zs, c', rfl, hb, rz, cn⟩ := lstO_inv q1 h1.st.ok rw'
  refine ⟨l, b, us, zs, rfl, rfl, e2, hb, by rw [e4.length, rz.length]; exact q2, k.nx _ _ _ (h1.put (us' := us ++ zs) (vs' := []) (os' := []) (ct := []) e hl e2 e3 (e4.append rz) .nil fun c => ?_) q3⟩
  simp only [List.count_append, List.count_nil, Nat.add_zero]
  have := cn c
  omega
theorem ds_ext (hs : DE X W e w) (hN : X.N[i]? = some x := by rfl) (hv : Vis X.env.scope x := by first | exact Or.inl rfl | exact Or.inr (Or.inl rfl) | exact Or.inr (Or.inr rfl)) (hd : (x == ("__debug__" : Str)) = false := by decide) (hcd : (x == ("__classdict__" : Str)) = false := by decide)
    (hb : attributeBase (.Name x p) "extend" X.env (eval (.Name x p) X.env) = eval (.Name x p) X.env := by rfl)
    (hfew : ((backTo cp (starEach [e] X.env)).all (fun x => !x.1) && (backToKw cp (keywordEach [] X.env)).all (fun x => x.1.isSome) && decide ([e].length + ([] : List Keyword).length + (if ([] : List Keyword).isEmpty then 0 else 1) < 30)) = true := by rfl)
    (hline : (ap.endLine == cp.line) = true := by rfl) (hst : starEach [e] X.env = (false, eval e X.env) :: starEach [] X.env := by rfl) (hpl : (backTo cp (starEach [] X.env)).any (·.1) = false := by rfl) (hsw : swapsWith (.Call (.Attribute (.Name x p) "extend" ap) [e] [] cp) none pos.line X.env = pure false := by rfl) :
    DS X W (.Expr (.Call (.Attribute (.Name x p) "extend" ap) [e] [] cp) pos) (sExt i w) := ps_imp (ps_expr (pe_bm PySem.F.plainAttrs_list PySem.F.slot_list_extend PySem.F.type_list_extend mt_extend (pe_var hN hv hd hcd) (pa_cons hs pa_nil hst) hb hfew hline hst hpl) hsw) fun Dn σ H ⟨g0, g, env, De, Ee, eH, h, hw, k⟩ => by
  subst eH
  obtain ⟨ps, e1, hw⟩ := ownD_inv hw
  obtain ⟨cs, h⟩ := h
  obtain ⟨l, us, c0, q1, q2, q3, q4⟩ := h.own e1
  exact ⟨.ref l, q1, .inl ⟨rfl, us, SqL.of q2⟩, SS.goC (X := X) ⟨cs, h⟩ hw (ext_fin e1 q1 k) k.ex⟩
theorem ds_extS (hs : DE X W e w) (hN : X.N[i]? = some x := by rfl) (hv : Vis X.env.scope x := by first | exact Or.inl rfl | exact Or.inr (Or.inl rfl) | exact Or.inr (Or.inr rfl)) (hd : (x == ("__debug__" : Str)) = false := by decide) (hcd : (x == ("__classdict__" : Str)) = false := by decide)
    (hb : attributeBase (.Name x p) "extend" X.env (eval (.Name x p) X.env) = eval (.Name x p) X.env := by rfl)
    (hfew : ((backTo cp (starEach [e] X.env)).all (fun x => !x.1) && (backToKw cp (keywordEach [] X.env)).all (fun x => x.1.isSome) && decide ([e].length + ([] : List Keyword).length + (if ([] : List Keyword).isEmpty then 0 else 1) < 30)) = true := by rfl)
    (hline : (ap.endLine == cp.line) = true := by rfl) (hst : starEach [e] X.env = (false, eval e X.env) :: starEach [] X.env := by rfl) (hpl : (backTo cp (starEach [] X.env)).any (·.1) = false := by rfl) (hsw : swapsWith (.Call (.Attribute (.Name x p) "extend" ap) [e] [] cp) none pos.line X.env = pure false := by rfl) :
    DS X W (.Expr (.Call (.Attribute (.Name x p) "extend" ap) [e] [] cp) pos) (sExtS i w) := ps_imp (ps_expr (pe_bm PySem.F.plainAttrs_list PySem.F.slot_list_extend PySem.F.type_list_extend mt_extend (pe_var hN hv hd hcd) (pa_cons hs pa_nil hst) hb hfew hline hst hpl) hsw) fun Dn σ H ⟨g0, g, env, De, Ee, eH, h, hw, k⟩ => by
  subst eH
  obtain ⟨ps, e1, hw⟩ := ownD_inv hw
  obtain ⟨cs, h⟩ := h
  obtain ⟨l, us, c0, q1, q2, q3, q4⟩ := h.own e1
  exact ⟨.ref l, q1, .inl ⟨rfl, us, SqL.of q2⟩, SS.goS (X := X) ⟨cs, h⟩ hw (ext_fin e1 q1 k) k.ex⟩
/-- x.pop() -/
def sPop (i : Nat) : WS := fun env D _ => ownD env[i]? fun os => os ≠ [] ∧ D.nx (env.set i (some (.lst os.dropLast)))
/-- y = x.pop() -/
def sSetPop (j i : Nat) : WS := fun env D _ => ownD env[i]? fun os => ∃ ps o, os = ps ++ [o] ∧ j < env.length ∧ D.nx ((env.set i (some (.lst ps))).set j (some o))
theorem pop_own (h : SS X.K g0 g env σ [] []) {ps : List O} {o : O} (e : env[i]? = some (some (.lst (ps ++ [o])))) : ∃ l us y, σ[i]? = some (some (.ref l)) ∧ g.H l = some (.lst us) ∧ us[us.length - 1]? = some y ∧ SS X.K g0 ⟨g.Z, g.F, upd g.H l (.lst us.dropLast)⟩ (env.set i (some (.lst ps))) σ [y] [o] := by
  obtain ⟨cs, h⟩ := h
  obtain ⟨l, us, c0, q1, q2, q3, q4⟩ := h.own e
  obtain ⟨us1, us2, c1, c2, rfl, rfl, r1, r2⟩ := q4.split
  obtain ⟨y, rfl, r3⟩ := r2.one_inv
  refine ⟨l, _, y, q1, q2, by simp, ?_⟩
  rw [List.dropLast_concat]
  refine h.put (ct := c2) e q1 q2 q3 r1 r2 fun c => ?_
  simp only [List.count_append]
  omega
theorem ds_pop (hN : X.N[i]? = some x := by rfl) (hv : Vis X.env.scope x := by first | exact Or.inl rfl | exact Or.inr (Or.inl rfl) | exact Or.inr (Or.inr rfl)) (hd : (x == ("__debug__" : Str)) = false := by decide) (hcd : (x == ("__classdict__" : Str)) = false := by decide)
    (hb : attributeBase (.Name x p) "pop" X.env (eval (.Name x p) X.env) = eval (.Name x p) X.env := by rfl) (hline : (ap.endLine == cp.line) = true := by rfl) (hsw : swapsWith (.Call (.Attribute (.Name x p) "pop" ap) [] [] cp) none pos.line X.env = pure false := by rfl) :
    DS X W (.Expr (.Call (.Attribute (.Name x p) "pop" ap) [] [] cp) pos) (sPop i) := ps_imp (ps_expr (pe_bm0 PySem.F.plainAttrs_list PySem.F.slot_list_pop PySem.F.type_list_pop mt_pop (pe_var hN hv hd hcd) hb hline) hsw) fun Dn σ H ⟨g0, g, env, De, Ee, eH, h, hw, k⟩ => by
  subst eH
  obtain ⟨os, e1, hne, hw⟩ := ownD_inv hw
  rw [← List.dropLast_concat_getLast hne] at e1
  obtain ⟨l, us, y, q1, q2, q3, q4⟩ := pop_own h e1
  exact ⟨.ref l, q1, .inl ⟨rfl, us, SqL.of q2⟩, l, us, y, rfl, rfl, q2, q3, k.nx _ _ _ (SS.drop (X := X) q4) hw⟩
theorem ds_setPop {j : Nat} {y : Str} {py : Pos} (hNd : X.N.Nodup) (hN : X.N[i]? = some x := by rfl) (hv : Vis X.env.scope x := by first | exact Or.inl rfl | exact Or.inr (Or.inl rfl) | exact Or.inr (Or.inr rfl)) (hd : (x == ("__debug__" : Str)) = false := by decide) (hcd : (x == ("__classdict__" : Str)) = false := by decide)
    (hb : attributeBase (.Name x p) "pop" X.env (eval (.Name x p) X.env) = eval (.Name x p) X.env := by rfl) (hline : (ap.endLine == cp.line) = true := by rfl) (hsw : swapsWith (.Call (.Attribute (.Name x p) "pop" ap) [] [] cp) (some (.Name y py)) pos.line X.env = pure false := by rfl)
    (hi : X.N[j]? = some y := by rfl) (hx : Loc X.env.scope y := by first | exact Or.inl rfl | exact Or.inr rfl) (hf : X.fn y = true ∨ X.env.scope.names.lookup y = some .local := by first | exact .inl rfl | exact .inr rfl | assumption) :
    DS X W (.Assign [.Name y py] (.Call (.Attribute (.Name x p) "pop" ap) [] [] cp) pos) (sSetPop j i) := ps_imp (ps_set hNd hi hx (pe_bm0 PySem.F.plainAttrs_list PySem.F.slot_list_pop PySem.F.type_list_pop mt_pop (pe_var hN hv hd hcd) hb hline) hsw hf) fun Dn σ H ⟨g0, g, env, De, Ee, eH, h, hw, k⟩ => by
  subst eH
  obtain ⟨os, e1, ps, o, rfl, hj, hw⟩ := ownD_inv hw
  obtain ⟨l, us, yv, q1, q2, q3, q4⟩ := pop_own h e1
  exact ⟨.ref l, q1, .inl ⟨rfl, us, SqL.of q2⟩, l, us, yv, rfl, rfl, q2, q3, k.nx _ _ _ (q4.set (by simpa using hj)) hw⟩
/-- x[k] = e -/
def sIx (i : Nat) (wi we : WE) : WS := fun env D E => ownD env[i]? fun os => evC we env (fun o => evC wi env (fun k => ∃ n j, k.d = .int n ∧ ixN os.length n = some j ∧ D.nx (env.set i (some (.lst (os.set j o))))) E) E
theorem ixN_lt {n : Nat} {i : Int} {j : Nat} (h : ixN n i = some j) : j < n := (ixN_seq h).2.1
theorem At.int_of {K : PySem.W.Frag} {Z : Zs} {F : Hp} {v : V} {d : D} {n : Int} (h : At K Z F v d) (e : d = .int n) : v = .int n := by subst e; exact h.int_inv
theorem RO.int_of {K : PySem.W.Frag} {Z : Zs} {F H : Hp} {v : V} {o : O} {n : Int} {c : List Addr} (h : RO K Z F H v o c) (e : o.d = .int n) : v = .int n := by
  cases h with
  | val a => exact a.int_of (by simpa using e)
  | lst _ _ => simp at e
  | dctK _ _ _ => simp at e
  | dctT _ _ _ _ _ => simp at e
/-- x[k] = v behind both -/
theorem ix_fin {De : DEnds} {Ee : SEX} {Dn : Ends} {l : Addr} {ps : List O} (e : env[i]? = some (some (.lst ps))) (hl : σ[i]? = some (some (.ref l))) (k : Lk X.mg X.K W g0 De Ee Dn) {vk v : V} {ok o : O} {g1 : Gh} {n : Int} {j : Nat} (h1 : SS X.K g0 g1 env σ [vk, v] [ok, o])
    (en : ok.d = .int n) (ej : ixN ps.length n = some j) (q : De.nx (env.set i (some (.lst (ps.set j o))))) : rSetL (.ref l) vk v g1.H fun H => Dn.nx σ H := by
  obtain ⟨cs, h1⟩ := h1
  obtain ⟨l', us, c0, e1, e2, e3, e4⟩ := h1.own e
  rw [hl] at e1
  obtain rfl : l = l' := by simpa using e1
  have ht := h1.tmp
  generalize hcn : cs none = cn at ht
  cases ht with
  | cons r t =>
    rename_i c1 c2
    obtain ⟨v', ev, r'⟩ := t.one_inv
    obtain rfl : v = v' := by simpa using ev
    have hj := ixN_lt ej
    obtain ⟨c', r3, cn3⟩ := ROs.set r' j e4 hj
    refine ⟨l, us, n, j, rfl, r.int_of en, e2, by rw [e4.length]; exact ej, k.nx _ _ _ (h1.put (vs' := []) (os' := []) (ct := []) e hl e2 e3 r3 .nil fun c => ?_) q⟩
    have := cn3 c
    rw [hcn]
    simp only [List.count_append, List.count_nil, Nat.add_zero]
    omega
theorem ds_ix (he : DE X W e we) (hi : DE X W ei wi) (hN : X.N[i]? = some x := by rfl) (hv : Vis X.env.scope x := by first | exact Or.inl rfl | exact Or.inr (Or.inl rfl) | exact Or.inr (Or.inr rfl)) (hd : (x == ("__debug__" : Str)) = false := by decide) (hcd : (x == ("__classdict__" : Str)) = false := by decide)
    (ha : ∀ v, assign (.Subscript (.Name x p) ei tp) X.env v = (do
      let ov ← holding [v] (eval (.Name x p) X.env)
      let iv ← holding [v, ov] (eval ei X.env)
      standAt tp
      holding [v, ov, iv] (setItem ov iv v)
      release [v, ov, iv] []) := by intro _; rfl)
    (hs : swapsWithSole [.Subscript (.Name x p) ei tp] e pos.line X.env = pure false := by rfl) (hw : swappedStores [.Subscript (.Name x p) ei tp] e X.env = pure none := by rfl) (h1 : (assignEach [.Subscript (.Name x p) ei tp] X.env).map (·.2) = [assign (.Subscript (.Name x p) ei tp) X.env] := by rfl) :
    DS X W (.Assign [.Subscript (.Name x p) ei tp] e pos) (sIx i wi we) := ps_imp (ps_asg he (pg_sub (pe_var hN hv hd hcd) hi set_list ha) hs hw h1) fun Dn σ H ⟨g0, g, env, De, Ee, eH, h, hw, k⟩ => by
  subst eH
  obtain ⟨ps, e1, hw⟩ := ownD_inv hw
  have hl : ∃ l, σ[i]? = some (some (.ref l)) := by
    obtain ⟨cs, h⟩ := h
    obtain ⟨l, us, c0, q1, _⟩ := h.own e1
    exact ⟨l, q1⟩
  obtain ⟨l, hl⟩ := hl
  refine h.goC hw (fun v o g1 h1 q => ⟨.ref l, hl, ?_⟩) k.ex
  exact h1.goC q (fun vk ok g2 h2 ⟨n, j, en, ej, q⟩ => ix_fin e1 hl k h2 en ej q) k.ex
/-- x op= e, x a name that holds a value -/
def valD (o : Option (Option O)) (Q : D → Prop) : Prop := match o with
  | some (some (.val d)) => Q d
  | _ => False
theorem valD_inv {o : Option (Option O)} {Q : D → Prop} (h : valD o Q) : ∃ d, o = some (some (.val d)) ∧ Q d := by
  unfold valD at h
  split at h
  · exact ⟨_, rfl, h⟩
  · exact h.elim
theorem env_lt {o : O} (e : env[i]? = some (some o)) : i < env.length := (List.getElem?_eq_some_iff.mp e).1
def sAug (i : Nat) (f : D → D → PQ) (w : WE) : WS := fun env D E => valD env[i]? fun d => noLst d = true ∧ evC w env (fun o => f d o.d fun z => z.clean = true ∧ D.nx (env.set i (some z))) E
theorem ds_aug {op : Operator} {r : R2} {f : D → D → PQ} {p' : Pos} (hNd : X.N.Nodup) (ho : OpR X (inplaceOp op) r) (hf : OpD X.K r f) (he : DE X W e w) (hN : X.N[i]? = some x := by rfl) (hx : Loc X.env.scope x := by first | exact Or.inl rfl | exact Or.inr rfl)
    (hfn : X.fn x = true ∨ X.env.scope.names.lookup x = some .local := by first | exact .inl rfl | exact .inr rfl | assumption) : DS X W (.AugAssign (.Name x p') op e pos) (sAug i f w) :=
  ps_imp (ps_aug (ti := fun x y H Q => r x y H Q) hNd hN hx he (fun pins s σ H x y v u Q I rx ry h => ho pins s σ H x y v u Q I rx ry h) hfn) fun Dn σ H ⟨g0, g, env, De, Ee, eH, h, hw, k⟩ => by
  subst eH
  obtain ⟨d, e1, nl, hw⟩ := valD_inv hw
  have hv : ∃ v, σ[i]? = some (some v) ∧ At X.K g.Z g.F v d := by
    obtain ⟨cs, h⟩ := h
    obtain ⟨v, q1, q2⟩ := h.slot i _ e1
    exact ⟨v, q1, q2.val_inv⟩
  obtain ⟨v, hv, av⟩ := hv
  refine ⟨v, hv, h.goC hw (fun y o g1 h1 q => ?_) k.ex⟩
  obtain ⟨cs, h1⟩ := h1
  -- the operator sees all frozen
  obtain ⟨v', q1, q2⟩ := h1.slot i _ e1
  rw [hv] at q1
  obtain rfl : v = v' := by simpa using q1
  obtain ⟨w', ew, rw'⟩ := h1.tmp.one_inv
  obtain rfl : y = w' := by simpa using ew
  have up := thaw_up (H := g1.H) h1.fz
  refine hf ⟨g1.Z, thaw g1.F g1.H (cells cs), g1.H⟩ v y d o.d _ _ (h1.st.ok.thaw h1.nz) (q2.val_inv.mono up fun _ z => z) (rw'.at_ up fun c m => thaw_in ⟨_, m⟩) q fun z oz g2 s2 r2 qz => ?_
  obtain ⟨hc, hn⟩ := qz
  have h3 := h1.resC s2 r2 hc
  exact k.nx ⟨g2.Z, untw g2.F (cells cs), g2.H⟩ _ _ (SS.drop (X := X) (h3.set (env_lt e1))) hn

def evA (w : WA) (env : SEnv) (Q : List O → Prop) (E : SEX) : Prop := w (view env) (fun os => O.cleans os = true ∧ Q os) (fun x => x.clean = true ∧ E x env)
theorem SS'.resA {g1 : Gh} {cs : Option Nat → List Addr} (h : SS' X.K g0 g env σ [] [] cs) {vs : List V} {os : List O} (s : Step ⟨g.Z, thaw g.F g.H (cells cs), g.H⟩ g1) (r : RRs X.K ⟨g.Z, thaw g.F g.H (cells cs), g.H⟩ g1 vs os) (cl : O.cleans os = true) :
    SS X.K g0 ⟨g1.Z, untw g1.F (cells cs), g1.H⟩ env σ vs os := by
  obtain ⟨ds, r, nd, hc⟩ := r
  have h2 := h.step (h.back s)
  have cn : cs none = [] := by
    have := h.tmp
    generalize cs none = c at this
    cases this
    rfl
  have ap : ∀ j, ∀ c ∈ ds, c ∉ cs j := fun j c m m' => by
    obtain ⟨_, _, _, u, hu, _⟩ := h.fr j c m'
    have e2 : g.H c = none := (hc c m).2.1
    rw [e2] at hu; cases hu
  refine ⟨fun j => match j with | none => ds | some i => cs (some i), h2.st, h2.len, h2.slot, ROs.strip (h.tups s) r cl, fun j c m => ?_, fun j => ?_, fun j j' c m m' => ?_⟩
  · cases j with
    | some i => exact h2.fr _ c m
    | none =>
      refine ⟨?_, h.st.none_ (hc c m).2.1, (hc c m).2.2, r.there c m⟩
      show untw g1.F (cells cs) c = none
      rw [untw_out fun ⟨j, mj⟩ => ap j c m mj]
      exact (hc c m).1
  · cases j with
    | some i => exact h.nd _
    | none => exact nd
  · cases j with
    | none =>
      cases j' with
      | none => rfl
      | some i' => exact absurd m' (ap _ c m)
    | some i =>
      cases j' with
      | none => exact absurd m (ap _ c m')
      | some i' => exact h.dj _ _ c m m'
theorem SS.goA {Ee : SEX} {Qd : List O → Prop} {Q : List V → Hp → Prop} (h : SS X.K g0 g env σ [] []) (hw : evA ws env Qd Ee) (k : ∀ vs os g1, SS X.K g0 g1 env σ vs os → Qd os → Q vs g1.H) (kx : EL X W g0 Ee) : LA X W ws σ g.H Q := by
  obtain ⟨cs, h⟩ := h
  refine LA.goO (g := ⟨g.Z, thaw g.F g.H (cells cs), g.H⟩) h.es hw (fun vs os g1 s r q => ?_) fun x cls dd g1 s r q => ?_
  · exact k vs os ⟨g1.Z, untw g1.F (cells cs), g1.H⟩ (h.resA s r q.1) q.2
  · exact kx ⟨g1.Z, untw g1.F (cells cs), g1.H⟩ env σ x cls dd ⟨cs, h.step (h.back s)⟩ (r.back h s q.1) q.2
def sPar (is : List Nat) (ws : WA) : WS := fun env D E => evA ws env (fun os => os.length = is.length ∧ (∀ i ∈ is, i < env.length) ∧ D.nx ((is.zip os).foldl (fun env p => env.set p.1 (some p.2)) env)) E
theorem ds_par {j : Nat} {y : Str} {px py pt : Pos} {kt k2 : Nat} {pt2 : Pos} (hc : X.calm = true) (hN : X.N.Nodup) (ha : DA X W [a, b] ws) (hi : X.N[i]? = some x := by rfl) (hj : X.N[j]? = some y := by rfl) (hij : i ≠ j := by decide)
    (hx : X.env.scope.names.lookup x = some .local := by rfl) (hy : X.env.scope.names.lookup y = some .local := by rfl)
    (hw : swappedStores [.Tuple [.Name x px, .Name y py] kt pt] (.Tuple [a, b] k2 pt2) X.env = pure (some [x, y]) := by rfl)
    (hs : swapsWithSole [.Tuple [.Name x px, .Name y py] kt pt] (.Tuple [a, b] k2 pt2) pos.line X.env = pure false := by rfl) :
    DS X W (.Assign [.Tuple [.Name x px, .Name y py] kt pt] (.Tuple [a, b] k2 pt2) pos) (sPar [i, j] ws) := ps_imp (ps_par hc hN hi hj hij hx hy ha hw hs) fun Dn σ H ⟨g0, g, env, De, Ee, eH, h, hw, k⟩ => by
  subst eH
  refine h.goA hw (fun vs os g1 h1 q => ?_) k.ex
  obtain ⟨q1, q2, q3⟩ := q
  match os, q1, h1, q3 with
  | [o1, o2], _, h1, q3 =>
    have hl : vs.length = 2 := by
      obtain ⟨cs, h1⟩ := h1
      exact h1.tmp.length
    match vs, hl, h1 with
    | [v1, v2], _, h1 => exact ⟨v1, v2, rfl, k.nx g1 _ _ ((h1.set (q2 i (by simp))).set (by simpa using q2 j (by simp))) q3⟩
theorem ds_par3 {j l : Nat} {y z : Str} {c : Expr} {px py pz pt : Pos} {kt k2 : Nat} {pt2 : Pos} (hc : X.calm = true) (hN : X.N.Nodup) (ha : DA X W [a, b, c] ws) (hi : X.N[i]? = some x := by rfl) (hj : X.N[j]? = some y := by rfl) (hl : X.N[l]? = some z := by rfl) (hij : i ≠ j := by decide) (hil : i ≠ l := by decide) (hjl : j ≠ l := by decide)
    (hx : X.env.scope.names.lookup x = some .local := by rfl) (hy : X.env.scope.names.lookup y = some .local := by rfl) (hz : X.env.scope.names.lookup z = some .local := by rfl)
    (hw : swappedStores [.Tuple [.Name x px, .Name y py, .Name z pz] kt pt] (.Tuple [a, b, c] k2 pt2) X.env = pure (some [x, y, z]) := by rfl)
    (hs : swapsWithSole [.Tuple [.Name x px, .Name y py, .Name z pz] kt pt] (.Tuple [a, b, c] k2 pt2) pos.line X.env = pure false := by rfl) :
    DS X W (.Assign [.Tuple [.Name x px, .Name y py, .Name z pz] kt pt] (.Tuple [a, b, c] k2 pt2) pos) (sPar [i, j, l] ws) := ps_imp (ps_par3 hc hN hi hj hl hij hil hjl hx hy hz ha hw hs) fun Dn σ H ⟨g0, g, env, De, Ee, eH, h, hw, k⟩ => by
  subst eH
  refine h.goA hw (fun vs os g1 h1 q => ?_) k.ex
  obtain ⟨q1, q2, q3⟩ := q
  match os, q1, h1, q3 with
  | [o1, o2, o3], _, h1, q3 =>
    have hl : vs.length = 3 := by
      obtain ⟨cs, h1⟩ := h1
      exact h1.tmp.length
    match vs, hl, h1 with
    | [v1, v2, v3], _, h1 => exact ⟨v1, v2, v3, rfl, k.nx g1 _ _ (((h1.set (q2 i (by simp))).set (by simpa using q2 j (by simp))).set (by simpa using q2 l (by simp))) q3⟩
/-- a, b = x, y by way of the pair itself (captured names) -/
theorem tgs_par {K : PySem.W.Frag} {Q : L2.St → Hp → Prop} : ∀ (is : List Nat) {vs : List V} {os : List O} {env : SEnv} {σ : L2.St}, SS K g0 g env σ vs os → os.length = is.length → (∀ i ∈ is, i < env.length) →
    (∀ σ', SS K g0 g ((is.zip os).foldl (fun env p => env.set p.1 (some p.2)) env) σ' [] [] → Q σ' g.H) → vs.length = is.length ∧ tgPs K (is.map Pat.nm) vs σ g.H Q
  | [], vs, os, env, σ, h, hl, hi, k => by
    have hv : vs.length = os.length := by
      obtain ⟨cs, h⟩ := h
      exact h.tmp.length
    cases os with
    | cons o os => simp at hl
    | nil =>
      cases vs with
      | cons v vs => simp at hv
      | nil =>
        simp only [List.map_nil, tgPs]
        exact ⟨rfl, rfl, k _ h⟩
  | i :: is, vs, os, env, σ, h, hl, hi, k => by
    have hv : vs.length = os.length := by
      obtain ⟨cs, h⟩ := h
      exact h.tmp.length
    cases os with
    | nil => simp at hl
    | cons o os =>
      cases vs with
      | nil => simp at hv
      | cons v vs =>
        obtain ⟨h1, h2⟩ := tgs_par is (h.set (hi i (by simp))) (by simpa using hl) (fun j m => by simpa using hi j (by simp [m])) k
        simp only [List.map_cons, tgPs, tgP]
        exact ⟨by simp [h1], v, vs, rfl, h2⟩
theorem ds_parT {tgs : List Expr} {k1 k2 : Nat} {p1 p2 : Pos} {is : List Nat} (hc : X.calm = true) (ha : DA X W es ws) (hg : DGs X tgs (is.map .nm)) (hn : (assignEach tgs X.env).length = is.length := by rfl) (hst : (assignEach tgs X.env).findIdx? (·.1) = none := by rfl) (hz : is.length ≤ 100 := by decide)
    (hs : swapsWithSole [.Tuple tgs k1 p1] (.Tuple es k2 p2) pos.line X.env = pure false := by rfl) (hw : swappedStores [.Tuple tgs k1 p1] (.Tuple es k2 p2) X.env = pure none := by rfl) (h1 : (assignEach [.Tuple tgs k1 p1] X.env).map (·.2) = [assign (.Tuple tgs k1 p1) X.env] := by rfl) :
    DS X W (.Assign [.Tuple tgs k1 p1] (.Tuple es k2 p2) pos) (sPar is ws) := ps_imp (ps_asg (pe_tup ha) (pg_tup hc hg hn hst) hs hw h1) fun Dn σ H ⟨g0, g, env, De, Ee, eH, h, hw, k⟩ => by
  subst eH
  show LA X W ws σ g.H fun vs H1 => vs.length ≤ sizeLine ∧ ∀ p, H1 p = none → gTup X.K is.length (tgPs X.K (is.map .nm)) (.ref p) σ (upd H1 p (.tup vs)) Dn.nx
  refine h.goA hw (fun vs os g1 h1 q => ?_) k.ex
  obtain ⟨q1, q2, q3⟩ := q
  have hv : vs.length = os.length := by
    obtain ⟨cs, h1⟩ := h1
    exact h1.tmp.length
  refine ⟨by rw [hv, q1]; exact Nat.le_trans hz (by rw [sizeLine_eq]; decide), fun p n => ?_⟩
  have h2 : SS X.K g0 ⟨g1.Z, g1.F, upd g1.H p (.tup vs)⟩ env σ vs os := by
    obtain ⟨cs, h1⟩ := h1
    exact ⟨cs, h1.step (Step.laid h1.st.ok n)⟩
  obtain ⟨h3, h4⟩ := tgs_par (Q := fun σ' H' => Dn.nx σ' H') is h2 q1 q2 fun σ' h' => k.nx _ _ _ h' q3
  exact ⟨p, vs, rfl, SqT.of upd_same, h3, h4⟩
/-- a, b = e -/
def sAsgP (p : Pat) (w : WE) : WS := fun env D E => evC w env (fun o => noLst o.d = true ∧ ∃ env', p.bind O.val o.d env = some env' ∧ D.nx env') E
def sAsgPS (p : Pat) (w : WE) : WS := fun env D E => evS w env (fun o => ∃ env', p.bind O.val o.d env = some env' ∧ D.nx env') E
theorem RO.nolst {K : PySem.W.Frag} {Z : Zs} {F H : Hp} {v : V} {o : O} {c : List Addr} (h : RO K Z F H v o c) (n : noLst o.d = true) : At K Z F v o.d := by
  cases h with
  | val a => simpa using a
  | lst _ _ => simp at n
  | dctK _ _ _ => simp at n
  | dctT _ _ _ _ _ => simp at n
theorem ds_asgP {pt : Pat} {tg : Expr} (he : DE X W e w) (hg : DG X tg pt) (hs : swapsWithSole [tg] e pos.line X.env = pure false := by rfl) (hw : swappedStores [tg] e X.env = pure none := by rfl) (h1 : (assignEach [tg] X.env).map (·.2) = [assign tg X.env] := by rfl) : DS X W (.Assign [tg] e pos) (sAsgP pt w) :=
  ps_imp (ps_asg he hg hs hw h1) fun Dn σ H ⟨g0, g, env, De, Ee, eH, h, hw, k⟩ => by
  subst eH
  refine h.goC hw (fun v o g1 h1 q => ?_) k.ex
  obtain ⟨nl, env', hb, hn⟩ := q
  have a : At X.K g1.Z g1.F v o.d := by
    obtain ⟨cs, h1⟩ := h1
    obtain ⟨w', ew, r⟩ := h1.tmp.one_inv
    obtain rfl : v = w' := by simpa using ew
    exact r.nolst nl
  exact tgP_ss pt (SS.drop (X := X) h1) a hb fun σ' h' => k.nx _ _ _ h' hn
theorem ds_asgPS {pt : Pat} {tg : Expr} (he : DE X W e w) (hg : DG X tg pt) (hs : swapsWithSole [tg] e pos.line X.env = pure false := by rfl) (hw : swappedStores [tg] e X.env = pure none := by rfl) (h1 : (assignEach [tg] X.env).map (·.2) = [assign tg X.env] := by rfl) : DS X W (.Assign [tg] e pos) (sAsgPS pt w) :=
  ps_imp (ps_asg he hg hs hw h1) fun Dn σ H ⟨g0, g, env, De, Ee, eH, h, hw, k⟩ => by
  subst eH
  obtain ⟨cs, h⟩ := h
  refine LE.go (R := fun d => ∃ env', pt.bind O.val d env = some env' ∧ De.nx env') h.esv hw (fun v d g1 s1 a q => ?_) fun x cls dd g1 s r q => k.ex g1 env σ x cls dd ⟨cs, h.step s⟩ r q
  obtain ⟨env', hb, hn⟩ := q
  exact tgP_ss pt (g := g1) ⟨cs, h.step s1⟩ a hb fun σ' h' => k.nx _ _ _ h' hn
end
end DL
/-! DPrim -/
namespace DL
open PySem PySem.Spec PyProof.Rows L2
section
variable {prog : Program} {w : World} {A : Around} {E : Value → Shared → Prop} {s : Shared}
theorem revPlaces (n : Nat) : Builtin.Slice.slicePlaces ((n : Int) - 1) (-1) (-1) = n := by
  unfold Builtin.Slice.slicePlaces
  rw [if_neg (by decide)]
  by_cases h : n = 0
  · subst h; decide
  · rw [if_pos (by omega)]
    have e : ((n : Int) - 1 - -1 - 1) / (- -1) + 1 = (n : Int) := by
      rw [show (- -1 : Int) = 1 by decide, Int.ediv_one]
      omega
    rw [e]
    exact Int.toNat_natCast n
theorem sliceRev {sl : Addr} {vl vu vk : Value} {n : Nat} {Q : Int × Int × Nat → Shared → Prop} (hs : s.heap.IsSliceOf sl vl vu vk) (pl : IsPart vl none) (pu : IsPart vu none) (pk : IsPart vk (some (-1)))
    (h : Q ((n : Int) - 1, -1, n) s) : wpAny (model prog w) A (Builtin.Slice.sliceApplied (.ref sl) (pure (n : Int))) Q E s := by
  obtain ⟨os, hos, hcs, hds⟩ := id hs
  unfold Builtin.Slice.sliceApplied Builtin.Slice.sliceFields
  refine wpAny_bind (wpAny_bind (wpAny_field hos hds (x := vl) rfl (wpAny_bind (wpAny_field hos hds (x := vu) rfl (wpAny_bind (wpAny_field hos hds (x := vk) rfl (wpAny_pure ?_)))))))
  refine wpAny_bind (HT.slicePart_ pk ?_)
  show wpAny _ _ (if ((-1 : Int) == 0) = true then _ else _) _ _ s
  rw [if_neg (by decide)]
  refine wpAny_bind (HT.slicePart_ pl (wpAny_bind (HT.slicePart_ pu (wpAny_bind (wpAny_pure ?_)))))
  show wpAny _ _ (pure ((n : Int) - 1, (-1 : Int), Builtin.Slice.slicePlaces ((n : Int) - 1) (-1) (-1))) _ _ s
  rw [revPlaces]
  exact wpAny_pure h
theorem pickRev (xs : Array Value) : ((List.range xs.size).filterMap fun (m : Nat) => xs[((xs.size : Int) - 1 + (m : Int) * -1).toNat]?).toArray = xs.toList.reverse.toArray := by
  congr 1
  have key : ∀ n, n ≤ xs.size → (List.range n).filterMap (fun (m : Nat) => xs[((xs.size : Int) - 1 + (m : Int) * -1).toNat]?) = (xs.toList.drop (xs.size - n)).reverse := by
    intro n
    induction n with
    | zero => intro _; simp
    | succ n ih =>
      intro h
      rw [List.range_succ, List.filterMap_append, ih (by omega)]
      have e : (((xs.size : Int) - 1 + (n : Int) * -1).toNat) = xs.size - (n + 1) := by omega
      have hlt : xs.size - (n + 1) < xs.toList.length := by simp; omega
      have hd : xs.toList.drop (xs.size - (n + 1)) = xs.toList[xs.size - (n + 1)] :: xs.toList.drop (xs.size - n) := by
        rw [List.drop_eq_getElem_cons hlt]
        congr 2
        omega
      rw [hd, List.reverse_cons]
      congr 1
      simp only [List.filterMap_cons, List.filterMap_nil, e]
      have hlt' : xs.size - (n + 1) < xs.size := by omega
      rw [Array.getElem?_eq_getElem hlt']
      simp
  have := key xs.size (Nat.le_refl _)
  rw [Nat.sub_self, List.drop_zero] at this
  exact this
theorem getRev {t sl : Addr} {items : Array Value} {vl vu vk : Value} {Q : Value → Shared → Prop} (ht : IsTup s.heap t items) (hs : s.heap.IsSliceOf sl vl vu vk) (pl : IsPart vl none) (pu : IsPart vu none) (pk : IsPart vk (some (-1)))
    (h : Q (.ref s.heap.objs.size) { s with heap := s.heap.push { cls := .type "tuple", data := .seq items.toList.reverse.toArray } }) (hz : items.size ≤ sizeLine) : wpAny (model prog w) A (getItem (.ref t) (.ref sl)) Q E s := by
  obtain ⟨os, hos, hcs, hds⟩ := id hs
  have hT : s.TypeIs (.ref sl) "slice" := ⟨os, hos, hcs⟩
  have hk : sizeOk (.seq items.toList.reverse.toArray) := by
    show items.toList.reverse.toArray.size ≤ sizeLine
    simpa using hz
  unfold getItem
  try with_reducible refine wpAny_holding ?_
  first | refine wpAny_bind (wpAny_pure ?_) | skip
  refine wpAny_bind (wpAny_sequenceKey ht.typeIs (by decide) (wpAny_bind (wpAny_callSpecial?_slot (name := Str.ofString "__getitem__") ht.typeIs PyProof.Rows.slot_tuple_getitem (wpAny_call_entry PyProof.Rows.slot_tuple_getitem ht.typeIs entry_tuple_getitem ?_ (args_tuple_getitem _ _)))))
  show wpAny _ _ (Builtin.Tuple.tupleItemsOf (.ref t) >>= _) _ _ s
  refine wpAny_bind (tupleItemsOf_ ht (wpAny_bind (wpAny_typeOf hT ?_)))
  rw [if_pos (by decide)]
  refine wpAny_bind (sliceRev hs pl pu pk ?_)
  show wpAny _ _ (if ((items.size : Int) - 1 == 0 && (-1 : Int) == 1 && items.size == items.size) = true then _ else _) _ _ s
  rw [if_neg (by rw [show ((-1 : Int) == 1) = false by decide, Bool.and_false, Bool.false_and]; decide), pickRev]
  first
    | exact wpAny_bind (m := Builtin.Tuple.tupleExact _) (wpAny_newObj_type (wpAny_pure ⟨_, rfl, wpAny_pure h⟩) hk)
    | exact wpAny_bind (m := Builtin.Tuple.tupleExact _) (wpAny_newObj_type (wpAny_bind (wpAny_pure (wpAny_pure ⟨_, rfl, wpAny_pure h⟩))) hk)
    | exact wpAny_bind (wpAny_bind (m := Builtin.Tuple.tupleExact _) (wpAny_newObj_type (wpAny_pure (wpAny_pure ⟨_, rfl, wpAny_pure h⟩)) hk))
    | exact wpAny_bind (wpAny_bind (m := Builtin.Tuple.tupleExact _) (wpAny_newObj_type (wpAny_pure ⟨_, rfl, wpAny_pure h⟩) hk))
end
section
variable {X : Cx} {W : WX} {w : WE} {e a : Expr} {pos p2 p3 : Pos}
/-- e[::-1] of a tuple or a list -/
def tRevA (K : PySem.W.Frag) (te : TE) : TE := fun σ H Q => te σ H fun x H1 => (∃ a xs, x = .ref a ∧ SqL K H1 a xs ∧ ∀ p, H1 p = none → Q (.ref p) (upd H1 p (.lst xs.reverse))) ∨ ∃ a xs, x = .ref a ∧ SqT K H1 a xs ∧ NewT xs.reverse H1 Q
theorem pe_revA {e : Expr} {te : TE} {k : Nat} {p1 : Pos} (he : PE X e te) : PE X (.Subscript e (.Slice none none (some (.UnaryOp .USub (.Constant (.int 1) k p1) p2)) p3) pos) (tRevA X.K te) := by
  refine ⟨fun pins s σ H Q I h => Subscript_ (thn (he.run pins s σ H _ I h) fun v s1 ⟨x, H1, I1, r1, q1⟩ => ?_)⟩
  have part : PO X (some (.UnaryOp .USub (.Constant (.int 1) k p1) p2)) (tPart (tUn (rU fun i => .int (-i)) (tC (.int 1)))) := po_some (pe_un un_neg pe_int)
  refine wpAny_Slice (thn (po_none.run pins s1 σ H1 (fun o H2 => o = none ∧ H2 = H1) I1 ⟨rfl, rfl⟩) fun vl s2 ⟨l, H2, I2, pl, el, e2⟩ => ?_)
  subst el e2
  refine thn (po_none.run pins s2 σ H2 (fun o H3 => o = none ∧ H3 = H2) I2 ⟨rfl, rfl⟩) fun vu s3 ⟨u, H3, I3, pu, eu, e3⟩ => ?_
  subst eu e3
  refine thn (part.run pins s3 σ H3 (fun o H4 => o = some (-1) ∧ H4 = H3) I3 ⟨1, rfl, -1, rfl, rfl, rfl⟩) fun vk s4 ⟨o, H4, I4, pk, eo, e4⟩ => ?_
  subst eo e4
  have I5 : Inv X pins σ H4 { s4 with heap := s4.heap.push { cls := .type "slice", data := .fields #[vl, vu, vk] } } := I4.kept (t' := s4.toks) fun b ob q => Heap.get?_push_of_some _ q
  rcases q1 with ⟨a, xs, ex, hx, q⟩ | ⟨a, xs, ex, hx, q⟩
  · rw [ex] at r1
    obtain rfl : v = Value.ref a := r1
    obtain ⟨its, r, ht, hz⟩ := I5.list hx
    have hl := r.length
    show wpAny (model X.prog X.w) X.A (subscriptTail e (.Slice none none (some (.UnaryOp .USub (.Constant (.int 1) k p1) p2)) p3) (.ref a) (.ref s4.heap.objs.size)) _ X.xe { s4 with heap := s4.heap.push { cls := .type "slice", data := .fields #[vl, vu, vk] } }
    refine tail_any (ops := [.ref a, .ref s4.heap.objs.size]) ht.isList.typeIs (PySem.slot_list_getitem.lookup) (wpAny_getItem_list_slice ht.isList (Heap.IsSliceOf.new _ vl vu vk) pl pu pk (by decide) ?_ (by rw [List.size_toArray]; omega)) (by with_unfolding_all rfl)
    rw [PySem.W.krv_pick]
    refine ⟨.ref _, _, I5.laid (t' := s4.toks) (o := .lst xs.reverse) (fun b ob q => Heap.get?_push_of_some _ q) (Nat.le_refl _) ?_, rfl, q _ (I5.hok.fresh (Nat.le_refl _))⟩
    exact ⟨by simpa using hz, its.reverse, 0, r.reverse, Heap.get?_push_size _ rfl⟩
  · rw [ex] at r1
    obtain rfl : v = Value.ref a := r1
    obtain ⟨its, r, ht, hz⟩ := I5.tuple hx
    have hl := r.length
    show wpAny (model X.prog X.w) X.A (subscriptTail e (.Slice none none (some (.UnaryOp .USub (.Constant (.int 1) k p1) p2)) p3) (.ref a) (.ref s4.heap.objs.size)) _ X.xe { s4 with heap := s4.heap.push { cls := .type "slice", data := .fields #[vl, vu, vk] } }
    refine tail_any (ops := [.ref a, .ref s4.heap.objs.size]) ht.typeIs (PyProof.Rows.slot_tuple_getitem.lookup) (getRev ht (Heap.IsSliceOf.new _ vl vu vk) pl pu pk ?_ (by rw [List.size_toArray]; omega)) (by with_unfolding_all rfl)
    exact newT_here (s := { s4 with heap := s4.heap.push { cls := .type "slice", data := .fields #[vl, vu, vk] } }) I5 (by simpa using hz) r.reverse q
def revD : D → PQ
  | .lst ds => fun Q => Q (.lst (ds.reverse.map .val))
  | .tup ds => fun Q => Q (.val (.tup ds.reverse))
  | _ => fun _ => False
theorem de_rev {k : Nat} {p1 : Pos} (he : DE X W e w) : DE X W (.Subscript e (.Slice none none (some (.UnaryOp .USub (.Constant (.int 1) k p1) p2)) p3) pos) (eUn revD w) := pe_imp (pe_revA he) fun σ H Q ⟨g, env, Qd, Ed, eH, es, h, k, kx⟩ => by
  subst eH
  refine LE.go (R := fun d => revD d Qd) es h (fun v d g1 s1 a1 h1 => ?_) kx
  unfold revD at h1
  split at h1
  · obtain ⟨p, vs, rfl, hp, as⟩ := a1.lst_inv
    exact .inl ⟨p, vs, rfl, SqL.of (s1.ok.sub _ _ hp), fun q n => (QL.on k s1) _ _ _ (Step.laid s1.ok n) (RR.newL s1.ok n as.rev) h1⟩
  · obtain ⟨p, vs, rfl, hp, as⟩ := a1.tup_inv
    exact .inr ⟨p, vs, rfl, s1.ok.sub.sqT hp, fun q ob n hd => (QL.on k s1) _ _ _ (Step.laidF s1.ok n) (RR.newT s1.ok n hd as.rev) h1⟩
  · exact h1.elim
/-- reversed(e) walked -/
theorem itok_rev {K : PySem.W.Frag} {g : Gh} {a : Addr} {vs : List V} {ds : List D} (h : g.F a = some (.lst vs)) (as : Ats K g.Z g.F vs ds) : ItOk K g (Itv K a vs.length) ds.reverse := by
  have q : ∀ g', Grow g g' → SqL K g'.H a vs := fun g' s => SqL.of (s.ok.sub _ _ (s.up _ _ h))
  have ix : ∀ (i : Nat) (v : V), vs.reverse[i]? = some v → i < vs.length ∧ vs[vs.length - 1 - i]? = some v := fun i v e => by
    have hl := (List.getElem?_eq_some_iff.mp e).1
    simp only [List.length_reverse] at hl
    rw [List.getElem?_reverse hl] at e
    exact ⟨hl, e⟩
  refine .same as.rev (fun g' s i v e => ⟨(ix i v e).1, vs, v, q g' s, (ix i v e).2⟩) (fun g' s i v x H' e y => ⟨y.1, Option.some.inj ((y.2 vs (q g' s)).symm.trans (ix i v e).2)⟩) fun g' s i h => ?_
  rw [List.length_reverse] at h
  exact h
theorem itok_revT {K : PySem.W.Frag} {g : Gh} {a : Addr} {vs : List V} {ds : List D} (h : SqT K g.F a vs) (as : Ats K g.Z g.F vs ds) : ItOk K g (RT.ItvT K a vs.length) ds.reverse := by
  have q : ∀ g', Grow g g' → SqT K g'.H a vs := fun g' s => s.ok.sub.sqT (s.up.sqT h)
  have ix : ∀ (i : Nat) (v : V), vs.reverse[i]? = some v → i < vs.length ∧ vs[vs.length - 1 - i]? = some v := fun i v e => by
    have hl := (List.getElem?_eq_some_iff.mp e).1
    simp only [List.length_reverse] at hl
    rw [List.getElem?_reverse hl] at e
    exact ⟨hl, e⟩
  refine .same as.rev (fun g' s i v e => ⟨(ix i v e).1, vs, v, q g' s, (ix i v e).2⟩) (fun g' s i v x H' e y => ⟨y.1, Option.some.inj ((y.2 vs (q g' s)).symm.trans (ix i v e).2)⟩) fun g' s i h => ?_
  rw [List.length_reverse] at h
  exact h
def iRevD (w : WE) : WI := fun env Q E => w env (fun o => itemsD o.d fun ds => Q ds.reverse) E
theorem di_rev {tg : Expr} {p : Pos} (hm : X.mg "reversed" = none) (he : DE X W e w) (hg : Gl X "reversed" := by rfl) (hs : starEach [e] X.env = (false, eval e X.env) :: starEach [] X.env := by rfl) : DI X W tg (.Call (.Name "reversed" p) [e] [] pos) (iRevD w) := pi_imp (RT.pi_revA hg hm he hs) fun σ H R ⟨g, env, Qd, Ed, eH, es, hw, k, kx⟩ => by
  subst eH
  refine LE.go (R := fun d => itemsD d fun ds => Qd ds.reverse) es hw (fun v d g1 s1 a1 h1 => ?_) kx
  unfold itemsD at h1
  split at h1
  · obtain ⟨p, vs, rfl, hp, as⟩ := a1.tup_inv
    exact ⟨p, vs, rfl, .inr ⟨s1.ok.sub.sqT hp, k _ _ g1 s1 (itok_revT hp as) h1⟩⟩
  · obtain ⟨p, vs, rfl, hp, as⟩ := a1.lst_inv
    exact ⟨p, vs, rfl, .inl ⟨SqL.of (s1.ok.sub _ _ hp), k _ _ g1 s1 (itok_rev hp as) h1⟩⟩
  · exact h1.elim
end

section
variable {X : Cx} {K : PySem.W.Frag}
theorem tuple_mul1 (l : Addr) (items : Array Value) (n : Nat) (dd : Option Addr) (sl : Array (Option Value)) (u : Tok) :
    Meets (Builtin.«tuple.__mul__» ⟨[.ref l, .int 1 u], []⟩) (fun _ R s => s.heap.get? l = some { cls := .type "tuple", dict := dd, data := .seq items n, slots := sl } ∧ R (.ok (.ret (Value.ref l))) s) :=
  .of_wp fun prog w A R s h => by
    obtain ⟨hp, g, d, tk, os⟩ := s
    obtain ⟨hl, h⟩ := h
    have f1 := AutoSeq1.idx_int
    wp_walk using wpAny_loadPart' hl
    repeat (first
      | (refine wpAny_ite_false (decide_eq_false (by simp)) ?_; wp_walk using wpAny_loadPart' hl)
      | (refine wpAny_ite_true (decide_eq_true (by simp)) ?_; wp_walk using wpAny_loadPart' hl))
    exact ⟨_, rfl, h⟩
theorem tuple_mul0 (l : Addr) (items : Array Value) (n : Nat) (dd : Option Addr) (sl : Array (Option Value)) (x : Int) (u : Tok) (h0 : x ≤ 0) (h1 : -(2 ^ 63) ≤ x) (hne : items.isEmpty = false) :
    Meets (Builtin.«tuple.__mul__» ⟨[.ref l, .int x u], []⟩) (fun _ R s => s.heap.get? l = some { cls := .type "tuple", dict := dd, data := .seq items n, slots := sl } ∧
      R (.ok (.ret (Value.ref s.heap.objs.size))) { s with heap := s.heap.push { cls := Value.type "tuple", data := Data.seq #[] } }) :=
  .of_wp fun prog w A R s h => by
    obtain ⟨hp, g, d, tk, os⟩ := s
    obtain ⟨hl, h⟩ := h
    have f1 := AutoSeq1.idx_int
    have c0 : (decide (x < -(2 ^ 63)) || decide (x ≥ 2 ^ 63)) = false := by rw [decide_eq_false (by omega), decide_eq_false (by omega)]; rfl
    have c1 : (items.isEmpty || x == 1) = false := by rw [hne, Bool.false_or]; exact beq_eq_false_iff_ne.mpr (by omega)
    have c2 : (decide (x ≤ 0) || items.isEmpty) = true := by rw [decide_eq_true h0]; rfl
    wp_walk using wpAny_loadPart' hl
    repeat (first
      | (refine wpAny_ite_false (decide_eq_false (by rw [c0]; exact Bool.false_ne_true)) ?_; wp_walk using wpAny_loadPart' hl)
      | (refine wpAny_ite_false (decide_eq_false (by rw [c1]; exact Bool.false_ne_true)) ?_; wp_walk using wpAny_loadPart' hl)
      | (refine wpAny_ite_true (decide_eq_true c2) ?_; wp_walk using wpAny_loadPart' hl)
      | (refine wpAny_ite_false (decide_eq_false (by simp [sizeLine_eq])) ?_; wp_walk using wpAny_loadPart' hl))
    exact ⟨_, rfl, h⟩
end
end DL
/-! DPrim2 -/
namespace DL
open PySem PySem.Spec PyProof.Rows L2
section
variable {X : Cx} {K : PySem.W.Frag}
theorem tuple_mulE (l : Addr) (items : Array Value) (n : Nat) (dd : Option Addr) (sl : Array (Option Value)) (x : Int) (u : Tok) (h0 : -(2 ^ 63) ≤ x) (h1 : x < 2 ^ 63) (he : items.isEmpty = true) :
    Meets (Builtin.«tuple.__mul__» ⟨[.ref l, .int x u], []⟩) (fun _ R s => s.heap.get? l = some { cls := .type "tuple", dict := dd, data := .seq items n, slots := sl } ∧ R (.ok (.ret (Value.ref l))) s) :=
  .of_wp fun prog w A R s h => by
    obtain ⟨hp, g, d, tk, os⟩ := s
    obtain ⟨hl, h⟩ := h
    have f1 := AutoSeq1.idx_int
    have c0 : (decide (x < -(2 ^ 63)) || decide (x ≥ 2 ^ 63)) = false := by rw [decide_eq_false (by omega), decide_eq_false (by omega)]; rfl
    have c1 : (items.isEmpty || x == 1) = true := by rw [he]; rfl
    wp_walk using wpAny_loadPart' hl
    repeat (first
      | (refine wpAny_ite_false (decide_eq_false (by rw [c0]; exact Bool.false_ne_true)) ?_; wp_walk using wpAny_loadPart' hl)
      | (refine wpAny_ite_true (decide_eq_true c1) ?_; wp_walk using wpAny_loadPart' hl))
    exact ⟨_, rfl, h⟩
/-- t * k: nothing, t itself -/
def rRepS (K : PySem.W.Frag) : R2 := fun x y H Q => ∃ l k xs, x = .ref l ∧ y = .int k ∧ SqT K H l xs ∧ (-(2 ^ 63) ≤ k ∧ k < 2 ^ 63) ∧
  ((xs = [] ∨ k = 1) ∧ Q (.ref l) H ∨ xs ≠ [] ∧ k ≤ 0 ∧ NewT [] H Q)
theorem op_repS : OpR X (binaryOp .Mult) (rRepS X.K) := by
  intro pins s σ H x y v u Q I rx ry h
  obtain ⟨l, k, xs, rfl, rfl, hT, ⟨h1, h2⟩, q⟩ := h
  obtain rfl : v = Value.ref l := rx
  obtain ⟨t, rfl⟩ := ry
  obtain ⟨its, r, ⟨⟨cls, dd, data, sl⟩, ho, hc, n, hd⟩, hs⟩ := I.tuple hT
  simp only at hc hd
  subst hc hd
  have go : ∀ {R : Value → Shared → Prop}, wpAny (model X.prog X.w) X.A (call (.builtin "tuple.__mul__") [.ref l, .int k t]) R X.xe s → wpAny (model X.prog X.w) X.A (binaryOp .Mult (.ref l) (.int k t)) R X.xe s := fun hq =>
    wpAny_binaryOp_repeat_ref (T := "tuple") (U := "int") (by decide) ⟨_, ho, rfl⟩ (fun s' => typeIs_int s' k t) noFill_tuple_mul F.fills_int_mul F.slot_int_rmul repeat_tuple F.slot_int_index.lookup
      (call_meets F.slot_int_rmul (typeIs_int s k t) F.entry_int_rmul (F.args_int_rmul_2 _ _) (int_rmul_tuple k t l its.toArray n dd sl) ⟨ho, rfl, ⟨_, ho, rfl⟩, hq⟩)
  rcases q with ⟨c | c, q⟩ | ⟨c, hk, q⟩
  · subst c
    cases r
    exact go (call_meets F.slot_tuple_mul ⟨_, ho, rfl⟩ F.entry_tuple_mul (F.args_tuple_mul_2 _ _) (tuple_mulE l _ n dd sl k t h1 h2 rfl) ⟨ho, .ref l, H, I, rfl, q⟩)
  · subst c
    exact go (call_meets F.slot_tuple_mul ⟨_, ho, rfl⟩ F.entry_tuple_mul (F.args_tuple_mul_2 _ _) (tuple_mul1 l _ n dd sl t) ⟨ho, .ref l, H, I, rfl, q⟩)
  · have hi : its.toArray.isEmpty = false := by
      cases r with
      | nil => exact absurd rfl c
      | cons _ _ => rfl
    exact go (call_meets F.slot_tuple_mul ⟨_, ho, rfl⟩ F.entry_tuple_mul (F.args_tuple_mul_2 _ _) (tuple_mul0 l _ n dd sl k t hk h1 hi)
      ⟨ho, newT_here I (Nat.zero_le _) .nil q⟩)
/-- a * b: ints, a list or a tuple so many times -/
def mulA : D → D → PQ
  | .int i, .int j => fun Q => MulOk i j ∧ Q (.val (.int (i * j)))
  | .lst xs, .int k => fun Q => (-(2 ^ 63) ≤ k ∧ k < 2 ^ 63 ∧ xs.length * k.toNat ≤ sizeLine) ∧ Q (.lst (((List.replicate k.toNat xs).flatten).map .val))
  | .tup xs, .int k => fun Q => (-(2 ^ 63) ≤ k ∧ k ≤ 1000 ∧ xs.length ≤ 1000) ∧ Q (.val (.tup (List.replicate k.toNat xs).flatten))
  | _, _ => fun _ => False
theorem op_mulA {X : Cx} : OpR X (binaryOp .Mult) (fun x y H Q => rMulD X.K x y H Q ∨ rRepS X.K x y H Q) := op_mulD.or op_repS
theorem od_mulA : OpD K (fun x y H Q => rMulD K x y H Q ∨ rRepS K x y H Q) mulA := by
  intro g x y a b Qd Q ok ha hb hw k
  unfold mulA at hw
  split at hw
  · exact .inl (od_mul g x y _ _ Qd Q ok ha hb hw k)
  · exact .inl (od_mul g x y _ _ Qd Q ok ha hb hw k)
  · rename_i xs n
    obtain ⟨⟨h1, h2, h3⟩, hq⟩ := hw
    by_cases h : xs ≠ [] ∧ 2 ≤ n
    · exact .inl (od_mul g x y _ _ Qd Q ok ha hb ⟨⟨h.1, h.2, h2, h3⟩, hq⟩ k)
    · have ha' := ha
      obtain ⟨p, vs, rfl, hp, as⟩ := ha.tup_inv
      refine .inr ⟨p, n, vs, rfl, hb.int_inv, ok.sub.sqT hp, ⟨h1, by omega⟩, ?_⟩
      by_cases e : xs = []
      · subst e
        cases as
        have : ∀ m, (List.replicate m ([] : List D)).flatten = [] := fun m => by simp
        rw [this] at hq
        exact .inl ⟨.inl rfl, k _ _ g ok.refl (.val ha') hq⟩
      · have hn : n ≤ 1 := Int.not_lt.mp fun q => h ⟨e, by omega⟩
        have ev : vs ≠ [] := fun q => e (by subst q; cases as; rfl)
        by_cases e1 : n = 1
        · subst e1
          have : (List.replicate (1 : Int).toNat xs).flatten = xs := by simp
          rw [this] at hq
          exact .inl ⟨.inr rfl, k _ _ g ok.refl (.val ha') hq⟩
        · have hz : n ≤ 0 := by omega
          have : (List.replicate n.toNat xs).flatten = [] := by rw [Int.toNat_of_nonpos hz]; rfl
          rw [this] at hq
          exact .inr ⟨ev, hz, fun q ob hn hd => k _ _ _ (Step.laidF ok hn) (RR.newT ok hn hd .nil) hq⟩
  · exact hw.elim
end

mutual
/-- data that repr takes: empty dicts too -/
def okR : Nat → D → Bool
  | _, .non => true
  | _, .bl _ => true
  | _, .int _ => true
  | _, .str x => PyData.strOk x
  | n + 1, .tup xs => okRs n xs
  | n + 1, .lst xs => okRs n xs
  | _ + 1, .dct _ [] [] => true
  | _, _ => false
def okRs : Nat → List D → Bool
  | _, [] => true
  | n, x :: xs => okR n x && okRs n xs
end
@[simp] theorem okR_non (n : Nat) : okR n .non = true := by cases n <;> simp [okR]
@[simp] theorem okR_bl (n : Nat) (b : Bool) : okR n (.bl b) = true := by cases n <;> simp [okR]
@[simp] theorem okR_int (n : Nat) (i : Int) : okR n (.int i) = true := by cases n <;> simp [okR]
@[simp] theorem okR_str (n : Nat) (x : Str) : okR n (.str x) = PyData.strOk x := by cases n <;> simp [okR]
@[simp] theorem okR_tup (n : Nat) (xs : List D) : okR (n + 1) (.tup xs) = okRs n xs := by simp [okR]
@[simp] theorem okR_lst (n : Nat) (xs : List D) : okR (n + 1) (.lst xs) = okRs n xs := by simp [okR]
@[simp] theorem okR_dct (n : Nat) (t : Bool) : okR (n + 1) (.dct t [] []) = true := by simp [okR]
@[simp] theorem okRs_nil (n : Nat) : okRs n [] = true := by cases n <;> simp [okRs]
@[simp] theorem okRs_cons (n : Nat) (x : D) (xs : List D) : okRs n (x :: xs) = (okR n x && okRs n xs) := by cases n <;> simp [okRs]
theorem okRs_iff (n : Nat) : ∀ xs : List D, okRs n xs = true ↔ ∀ x ∈ xs, okR n x = true
  | [] => by simp
  | x :: xs => by simp [okRs_iff n xs]
@[simp] theorem okRs_append (n : Nat) (xs ys : List D) : okRs n (xs ++ ys) = (okRs n xs && okRs n ys) := by
  induction xs with
  | nil => simp
  | cons x r ih => simp [ih, Bool.and_assoc]
theorem okR_dct_inv {n : Nat} {t : Bool} {ks vs : List D} (h : okR n (.dct t ks vs) = true) : ks = [] ∧ vs = [] ∧ 1 ≤ n := by
  cases n with
  | zero =>
    have : okR 0 (.dct t ks vs) = false := by cases ks <;> cases vs <;> rfl
    rw [this] at h
    cases h
  | succ n =>
    cases ks with
    | nil =>
      cases vs with
      | nil => exact ⟨rfl, rfl, by omega⟩
      | cons _ _ => cases h
    | cons _ _ => cases h
mutual
theorem okR_of : ∀ (d : D) (n : Nat), okD n d = true → okR n d = true
  | .non, _, _ => by simp
  | .bl _, _, _ => by simp
  | .int _, _, _ => by simp
  | .str _, _, h => by simpa using h
  | .tup xs, 0, h => by simp [okD] at h
  | .tup xs, n + 1, h => by rw [okR_tup]; exact okRs_of xs n (by simpa using h)
  | .lst xs, 0, h => by simp [okD] at h
  | .lst xs, n + 1, h => by rw [okR_lst]; exact okRs_of xs n (by simpa using h)
  | .dct _ _ _, n, h => by cases n <;> simp [okD] at h
  | .src, n, h => by cases n <;> simp [okD] at h
  | .scr _, n, h => by cases n <;> simp [okD] at h
theorem okRs_of : ∀ (ds : List D) (n : Nat), okDs n ds = true → okRs n ds = true
  | [], _, _ => by simp
  | x :: xs, n, h => by
    have h' := Bool.and_eq_true_iff.mp (by simpa using h)
    simp [okR_of x n h'.1, okRs_of xs n h'.2]
end
mutual
theorem okR_depth : ∀ (d : D) (n : Nat), okR n d = true → (toPy d).depth ≤ n
  | .non, _, _ => by simp [toPy, PyData.depth]
  | .bl _, _, _ => by simp [toPy, PyData.depth]
  | .int _, _, _ => by simp [toPy, PyData.depth]
  | .str _, _, _ => by simp [toPy, PyData.depth]
  | .tup xs, 0, h => by simp [okR] at h
  | .tup xs, n + 1, h => by
    have := okRs_depth xs n (by simpa using h)
    simp only [toPy, PyData.depth]
    omega
  | .lst xs, 0, h => by simp [okR] at h
  | .lst xs, n + 1, h => by
    have := okRs_depth xs n (by simpa using h)
    simp only [toPy, PyData.depth]
    omega
  | .dct _ _ _, n, h => by
    obtain ⟨rfl, rfl, h⟩ := okR_dct_inv h
    simp only [toPy, PyData.depth, PyData.depthKv]
    omega
  | .src, n, h => by cases n <;> simp [okR] at h
  | .scr _, n, h => by cases n <;> simp [okR] at h
theorem okRs_depth : ∀ (ds : List D) (n : Nat), okRs n ds = true → PyData.depthAll (toPys ds) ≤ n
  | [], _, _ => by simp [toPys, PyData.depthAll]
  | x :: xs, n, h => by
    have h' := Bool.and_eq_true_iff.mp (by simpa using h)
    have := okR_depth x n h'.1
    have := okRs_depth xs n h'.2
    simp only [toPys, PyData.depthAll]
    omega
end
mutual
def shw : D → Bool
  | .int i => decide (i.natAbs.log2 < 1920)
  | .tup xs => shws xs
  | .lst xs => shws xs
  | _ => true
def shws : List D → Bool
  | [] => true
  | x :: xs => shw x && shws xs
end
@[simp] theorem shw_non : shw .non = true := by simp [shw]
@[simp] theorem shw_bl (b : Bool) : shw (.bl b) = true := by simp [shw]
@[simp] theorem shw_str (b : Str) : shw (.str b) = true := by simp [shw]
theorem shw_int (i : Int) : shw (.int i) = decide (i.natAbs.log2 < 1920) := by simp [shw]
@[simp] theorem shw_tup (xs : List D) : shw (.tup xs) = shws xs := by simp [shw]
@[simp] theorem shw_lst (xs : List D) : shw (.lst xs) = shws xs := by simp [shw]
@[simp] theorem shws_nil : shws [] = true := by simp [shws]
@[simp] theorem shws_cons (x : D) (xs : List D) : shws (x :: xs) = (shw x && shws xs) := by simp [shws]
theorem shws_iff : ∀ xs : List D, shws xs = true ↔ ∀ x ∈ xs, shw x = true
  | [] => by simp
  | x :: xs => by simp [shws_iff xs]
mutual
/-- no less than the text's length -/
def cost : D → Nat
  | .int i => if i.natAbs < 1000000000 then 10 else 1921
  | .str x => 10 * x.length + 2
  | .tup xs => costs xs + 3
  | .lst xs => costs xs + 2
  | _ => 5
def costs : List D → Nat
  | [] => 0
  | x :: xs => cost x + 2 + costs xs
end
@[simp] theorem cost_non : cost .non = 5 := by simp [cost]
@[simp] theorem cost_bl (b : Bool) : cost (.bl b) = 5 := by simp [cost]
theorem cost_int (i : Int) : cost (.int i) = if i.natAbs < 1000000000 then 10 else 1921 := by simp [cost]
theorem cost_int_le (i : Int) : cost (.int i) ≤ 1921 := by rw [cost_int]; split <;> omega
theorem cost_int_sm {i : Int} (h : i.natAbs < 1000000000) : cost (.int i) = 10 := by rw [cost_int, if_pos h]
@[simp] theorem cost_str (x : Str) : cost (.str x) = 10 * x.length + 2 := by simp [cost]
@[simp] theorem cost_tup (xs : List D) : cost (.tup xs) = costs xs + 3 := by simp [cost]
@[simp] theorem cost_lst (xs : List D) : cost (.lst xs) = costs xs + 2 := by simp [cost]
@[simp] theorem costs_nil : costs [] = 0 := by simp [costs]
@[simp] theorem costs_cons (x : D) (xs : List D) : costs (x :: xs) = cost x + 2 + costs xs := by simp [costs]
theorem costs_le {m : Nat} : ∀ {xs : List D}, (∀ x ∈ xs, cost x ≤ m) → costs xs ≤ xs.length * (m + 2)
  | [], _ => by simp
  | x :: xs, h => by
    have h1 := h x (by simp)
    have h2 := costs_le (m := m) (xs := xs) fun y hy => h y (by simp [hy])
    rw [costs_cons, List.length_cons, Nat.add_mul]
    omega
@[simp] theorem costs_append (xs ys : List D) : costs (xs ++ ys) = costs xs + costs ys := by
  induction xs with
  | nil => simp
  | cons x r ih => simp [ih]; omega
theorem textFrom_le : ∀ (ts : List Str) (k : Nat) (acc : Str), (textFrom k acc ts).length ≤ acc.length + piled ts
  | [], k, acc => by simp [textFrom, piled_nil]
  | t :: ts, k, acc => by
    unfold textFrom
    have h := textFrom_le ts (k + 1) (acc ++ (if k > 0 then ", " else "" : String) ++ t)
    rw [piled_cons]
    have e : (acc ++ (if k > 0 then ", " else "" : String) ++ t).length ≤ acc.length + 2 + t.length := by
      rw [strLen_append, strLen_append]
      split
      · exact Nat.le_refl _
      · have : (("" : String) : Str).length = 0 := rfl
        omega
    omega
theorem listText_le (ts : List Str) : (listText ts).length ≤ piled ts + 2 := by
  unfold listText
  rw [strLen_append]
  have h := textFrom_le ts 0 "["
  have e1 : (("[" : String) : Str).length = 1 := rfl
  have e2 : (("]" : String) : Str).length = 1 := rfl
  omega
theorem tupleText_le (ts : List Str) : (tupleText ts).length ≤ piled ts + 3 := by
  unfold tupleText
  rw [strLen_append, strLen_append]
  have e1 : (("(" : String) : Str).length = 1 := rfl
  have e3 : (((if ts.length == 1 then ",)" else ")" : String) : Str)).length ≤ 2 := by split <;> decide
  by_cases h : ts = []
  · subst h
    have : (Str.join ", " ([] : List Str)).length = 0 := rfl
    rw [piled_nil]
    omega
  · have := join_length_add ts h
    omega
mutual
theorem shown_le : ∀ (d : D) (n : Nat), okR n d = true → shw d = true → (toPy d).shown.length ≤ cost d
  | .non, _, _, _ => by simp only [toPy, PyData.shown, cost_non]; decide
  | .bl b, _, _, _ => by simp only [toPy, PyData.shown, cost_bl]; cases b <;> decide
  | .int i, _, _, h => by
    rw [shw_int] at h
    simp only [toPy, PyData.shown]
    have e : (Str.ofString (toString i)).length = (toString i).length := PySem.ofString_length _
    show (Str.ofString (toString i)).length ≤ _
    rw [e, cost_int]
    split
    · rename_i q
      exact int_text_length_le10 (k := 9) (by decide) q
    · exact int_text_length_le (by decide) (of_decide_eq_true h)
  | .str x, n, h, _ => by
    simp only [toPy, PyData.shown, cost_str]
    refine StrLaws.reprText_len x fun c hc => ?_
    rw [okR_str] at h
    unfold PyData.strOk at h
    have := Array.all_eq_true'.mp h c (by simpa using hc)
    have := of_decide_eq_true this
    omega
  | .tup xs, 0, h, _ => by simp [okR] at h
  | .tup xs, n + 1, h, s => by
    simp only [toPy, PyData.shown, cost_tup]
    exact Nat.le_trans (tupleText_le _) (Nat.add_le_add_right (showns_le xs n (by simpa using h) (by simpa using s)) 3)
  | .lst xs, 0, h, _ => by simp [okR] at h
  | .lst xs, n + 1, h, s => by
    simp only [toPy, PyData.shown, cost_lst]
    exact Nat.le_trans (listText_le _) (Nat.add_le_add_right (showns_le xs n (by simpa using h) (by simpa using s)) 2)
  | .dct _ _ _, n, h, _ => by
    obtain ⟨rfl, rfl, _⟩ := okR_dct_inv h
    simp only [toPy, PyData.shown, PyData.shownKv, cost]
    decide +kernel
  | .src, n, h, _ => by cases n <;> simp [okR] at h
  | .scr _, n, h, _ => by cases n <;> simp [okR] at h
theorem showns_le : ∀ (ds : List D) (n : Nat), okRs n ds = true → shws ds = true → piled (PyData.shownAll (toPys ds)) ≤ costs ds
  | [], _, _, _ => by simp [toPys, PyData.shownAll, piled_nil]
  | x :: xs, n, h, s => by
    have h' := Bool.and_eq_true_iff.mp (by simpa using h)
    have s' := Bool.and_eq_true_iff.mp (by simpa using s)
    simp only [toPys, PyData.shownAll, piled_cons, costs_cons]
    have := shown_le x n h'.1 s'.1
    have := showns_le xs n h'.2 s'.2
    omega
end
mutual
theorem shw_py : ∀ d : D, shw d = true → okR 64 d = true ∨ True → (∀ n, okR n d = true → (toPy d).showable = true)
  | .non, _, _ => fun _ _ => by simp [toPy, PyData.showable]
  | .bl _, _, _ => fun _ _ => by simp [toPy, PyData.showable]
  | .int i, h, _ => fun _ _ => by rw [shw_int] at h; simpa [toPy, PyData.showable] using h
  | .str _, _, _ => fun _ _ => by simp [toPy, PyData.showable]
  | .tup xs, h, _ => fun n o => by
    cases n with
    | zero => simp [okR] at o
    | succ n => simp only [toPy, PyData.showable]; exact shws_py xs (by simpa using h) n (by simpa using o)
  | .lst xs, h, _ => fun n o => by
    cases n with
    | zero => simp [okR] at o
    | succ n => simp only [toPy, PyData.showable]; exact shws_py xs (by simpa using h) n (by simpa using o)
  | .dct _ _ _, _, _ => fun n o => by
    obtain ⟨rfl, rfl, _⟩ := okR_dct_inv o
    simp [toPy, PyData.showable, PyData.showableKv]
  | .src, _, _ => fun n o => by cases n <;> simp [okR] at o
  | .scr _, _, _ => fun n o => by cases n <;> simp [okR] at o
theorem shws_py : ∀ ds : List D, shws ds = true → (∀ n, okRs n ds = true → PyData.showableAll (toPys ds) = true)
  | [], _ => fun _ _ => by simp [toPys, PyData.showableAll]
  | x :: xs, h => fun n o => by
    have h' := Bool.and_eq_true_iff.mp (by simpa using h)
    have o' := Bool.and_eq_true_iff.mp (by simpa using o)
    simp only [toPys, PyData.showableAll, shw_py x h'.1 (.inr trivial) n o'.1, shws_py xs h'.2 n o'.2, Bool.and_self]
end
/-- the text of a thing -/
def shown (d : D) : Str := (toPy d).shown
def okP (d : D) : Prop := okR 8 d = true
def reprD : List D → PQ
  | [d] => fun Q => okP d ∧ shw d = true ∧ cost d ≤ sizeLine ∧ Q (.val (.str (shown d)))
  | _ => fun _ => False
/-- a thing reads as data, its dicts empty -/
inductive RdP (h : Heap) : Value → PyData → Prop
  | non : RdP h .none .none
  | bl (b : Bool) : RdP h (.bool b) (.bool b)
  | int (i : Int) (t : Tok) : RdP h (.int i t) (.int i)
  | str (x : Str) (t : Tok) : RdP h (.str x t) (.str x)
  | lst {a : Addr} {o : Obj} {vs : List Value} {n : Nat} {xs : List PyData} : h.get? a = some o → o.cls = .type "list" → o.data = .seq vs.toArray n → vs.length = xs.length → (∀ (i : Nat) v x, vs[i]? = some v → xs[i]? = some x → RdP h v x) → RdP h (.ref a) (.list xs)
  | tup {a : Addr} {o : Obj} {vs : List Value} {n : Nat} {xs : List PyData} : h.get? a = some o → o.cls = .type "tuple" → o.data = .seq vs.toArray n → vs.length = xs.length → (∀ (i : Nat) v x, vs[i]? = some v → xs[i]? = some x → RdP h v x) → RdP h (.ref a) (.tuple xs)
  | dct {a : Addr} {o : Obj} {n : Nat} : h.get? a = some o → o.cls = .type "dict" → o.data = .dict #[] n → (a == sysModules) = false → RdP h (.ref a) (.dict [])
theorem rds_all {h : Heap} : ∀ {vs : List Value} {xs : List PyData}, vs.length = xs.length → (∀ (i : Nat) v x, vs[i]? = some v → xs[i]? = some x → ∃ as, Reads h v x as) → ∃ as, ReadsAll h vs xs as
  | [], [], _, _ => ⟨_, .nil⟩
  | v :: vs, x :: xs, hl, hi => by
    obtain ⟨as, r⟩ := hi 0 v x rfl rfl
    obtain ⟨bs, rs⟩ := rds_all (vs := vs) (xs := xs) (by simpa using hl) fun i w y h1 h2 => hi (i + 1) w y (by simpa using h1) (by simpa using h2)
    exact ⟨_, .cons r rs⟩
  | [], _ :: _, hl, _ => by simp at hl
  | _ :: _, [], hl, _ => by simp at hl
theorem RdP.reads {h : Heap} {v : Value} {d : PyData} (r : RdP h v d) : ∃ as, Reads h v d as := by
  induction r with
  | non => exact ⟨_, .none⟩
  | bl b => exact ⟨_, .bool b⟩
  | int i t => exact ⟨_, .int i t⟩
  | str x t => exact ⟨_, .str x t⟩
  | lst h1 h2 h3 hl _ ih =>
    obtain ⟨as, rs⟩ := rds_all hl ih
    exact ⟨_, .list h1 h2 h3 rs⟩
  | tup h1 h2 h3 hl _ ih =>
    obtain ⟨as, rs⟩ := rds_all hl ih
    exact ⟨_, .tuple h1 h2 h3 rs⟩
  | dct h1 h2 h3 _ => exact ⟨_, .dict (kvs := []) h1 h2 h3 .nil .nil⟩
section
variable {prog : Program} {w : World} {h0 : Heap}
theorem repr_items {d : Nat} : ∀ {vs : List Value} {xs : List PyData}, vs.length = xs.length → (∀ (i : Nat) v x, vs[i]? = some v → xs[i]? = some x → ∃ bs, ReadAtMost h0 x.depth bs ∧ ReprK prog w bs h0 x.depth v x.shown) →
    ∃ bs, ReadAtMost h0 (PyData.depthAll xs) bs ∧ ReprAllK prog w bs h0 (PyData.depthAll xs) vs (PyData.shownAll xs)
  | [], [], _, _ => ⟨[], (fun _ z => nomatch z), by simp only [PyData.shownAll]; exact .nil⟩
  | v :: vs, x :: xs, hl, hi => by
    obtain ⟨b1, m1, k1⟩ := hi 0 v x rfl rfl
    obtain ⟨b2, m2, k2⟩ := repr_items (d := d) (vs := vs) (xs := xs) (by simpa using hl) fun i w y h1 h2 => hi (i + 1) w y (by simpa using h1) (by simpa using h2)
    refine ⟨b1 ++ b2, ReadAtMost.append (m1.mono (by simp only [PyData.depthAll]; omega)) (m2.mono (by simp only [PyData.depthAll]; omega)), ?_⟩
    simp only [PyData.depthAll, PyData.shownAll]
    exact .cons ((k1.more fun b z => List.mem_append_left _ z).level_le (Nat.le_max_left _ _)) (k2.more_le (fun b z => List.mem_append_right _ z) (Nat.le_max_right _ _))
  | [], _ :: _, hl, _ => by simp at hl
  | _ :: _, [], hl, _ => by simp at hl
theorem showAll_at : ∀ {xs : List PyData} {i : Nat} {x : PyData}, PyData.showableAll xs = true → xs[i]? = some x → x.showable = true
  | [], _, _, _, e => by simp at e
  | y :: ys, 0, x, h, e => by
    simp only [List.getElem?_cons_zero, Option.some.injEq] at e
    subst e
    exact (Bool.and_eq_true_iff.mp (by simpa [PyData.showableAll] using h)).1
  | y :: ys, i + 1, x, h, e => showAll_at (i := i) (Bool.and_eq_true_iff.mp (by simpa [PyData.showableAll] using h)).2 (by simpa using e)
theorem shownAll_at : ∀ {xs : List PyData} {i : Nat} {x : PyData}, xs[i]? = some x → x.shown ∈ PyData.shownAll xs
  | [], _, _, e => by simp at e
  | y :: ys, 0, x, e => by
    simp only [List.getElem?_cons_zero, Option.some.injEq] at e
    subst e
    simp [PyData.shownAll]
  | y :: ys, i + 1, x, e => by
    simp only [PyData.shownAll]
    exact List.mem_cons_of_mem _ (shownAll_at (i := i) (by simpa using e))
theorem RdP.repr {v : Value} {d : PyData} (r : RdP h0 v d) : d.showable = true → d.shown.length ≤ sizeLine → ∃ bs, ReadAtMost h0 d.depth bs ∧ ReprK prog w bs h0 d.depth v d.shown := by
  induction r with
  | non => exact fun _ _ => ⟨[], (fun _ z => nomatch z), by simp only [PyData.shown]; exact .of_is ReprIs.none _ _ _⟩
  | bl b => exact fun _ _ => ⟨[], (fun _ z => nomatch z), by simp only [PyData.shown]; exact .of_is (ReprIs.bool b) _ _ _⟩
  | int i t => exact fun hs _ => ⟨[], (fun _ z => nomatch z), by simp only [PyData.shown]; exact .of_is (ReprIs.int t (by simpa [PyData.showable] using hs)) _ _ _⟩
  | str x t => exact fun _ hz => ⟨[], (fun _ z => nomatch z), by simp only [PyData.shown]; exact .of_is (ReprIs.str x t (by simpa only [PyData.shown] using hz)) _ _ _⟩
  | @lst a o vs n xs h1 h2 h3 hl hi ih =>
    intro hs hz
    have hz : (listText (PyData.shownAll xs)).length ≤ sizeLine := by simpa only [PyData.shown] using hz
    have hs : PyData.showableAll xs = true := by simpa [PyData.showable] using hs
    obtain ⟨bs, mb, kb⟩ := repr_items (d := 0) hl fun i u y e1 e2 => ih i u y e1 e2 (showAll_at hs e2) (Nat.le_trans (listText_mem_le (shownAll_at e2)) hz)
    obtain ⟨as, rs⟩ := rds_all hl fun i u y e1 e2 => (hi i u y e1 e2).reads
    have rd : Reads h0 (.ref a) (.list xs) _ := .list h1 h2 h3 rs
    refine ⟨a :: bs, ReadAtMost.cons rd (by simp only [PyData.depth]; omega) mb, ?_⟩
    simp only [PyData.depth, PyData.shown]
    cases vs with
    | nil =>
      cases xs with
      | cons _ _ => simp at hl
      | nil =>
        simp only [PyData.shownAll, listText_nil]
        exact ReprK.listEmpty h1 h2 h3
    | cons u us => exact ReprK.list h1 h2 h3 (not_mem_of_deeper rd (by simp only [PyData.depth]; omega) mb) (by simpa using kb.length_eq) fun i y e => kb.item i y (by simpa using e)
  | @tup a o vs n xs h1 h2 h3 hl hi ih =>
    intro hs hz
    have hz : (tupleText (PyData.shownAll xs)).length ≤ sizeLine := by simpa only [PyData.shown] using hz
    have hs : PyData.showableAll xs = true := by simpa [PyData.showable] using hs
    obtain ⟨bs, mb, kb⟩ := repr_items (d := 0) hl fun i u y e1 e2 => ih i u y e1 e2 (showAll_at hs e2) (Nat.le_trans (tupleText_mem_le (shownAll_at e2)) hz)
    obtain ⟨as, rs⟩ := rds_all hl fun i u y e1 e2 => (hi i u y e1 e2).reads
    have rd : Reads h0 (.ref a) (.tuple xs) _ := .tuple h1 h2 h3 rs
    refine ⟨a :: bs, ReadAtMost.cons rd (by simp only [PyData.depth]; omega) mb, ?_⟩
    simp only [PyData.depth, PyData.shown]
    exact ReprK.tuple h1 h2 h3 (not_mem_of_deeper rd (by simp only [PyData.depth]; omega) mb) kb
  | @dct a o n h1 h2 h3 h4 =>
    intro _ _
    have rd : Reads h0 (.ref a) (.dict []) _ := .dict (kvs := []) h1 h2 h3 .nil .nil
    refine ⟨a :: ([] ++ []), ReadAtMost.cons rd (Nat.zero_le _) (fun _ z => nomatch z), ?_⟩
    simp only [PyData.depth, PyData.shown, PyData.shownKv_eq]
    exact ReprK.dict h1 h2 h3 h4 (by simp) (ReprEntriesK.of_two [] _ _ .nil .nil)
end
section
variable {X : Cx} {k : Nat} {pins : List (Addr × Obj)} {σ : L2.St} {H : Hp} {s : Shared} {Z : Zs} {F : Hp}
mutual
theorem At.rdp (I : Inv X pins σ H s) (e : Sub F H) : ∀ {d : D} {v : V} {u : Value} {n : Nat}, At X.K Z F v d → okR n d = true → RelV v u → RdP s.heap u (toPy d)
  | .non, _, _, _, h, _, r => by rw [h.non_inv] at r; cases r; simp only [toPy]; exact .non
  | .bl b, _, _, _, h, _, r => by rw [h.bl_inv] at r; cases r; simp only [toPy]; exact .bl b
  | .int i, _, _, _, h, _, r => by rw [h.int_inv] at r; obtain ⟨t, rfl⟩ := r; simp only [toPy]; exact .int i t
  | .str x, _, _, _, h, _, r => by rw [h.str_inv] at r; obtain ⟨t, rfl⟩ := r; simp only [toPy]; exact .str x t
  | .tup xs, _, _, 0, h, o, r => by simp [okR] at o
  | .tup xs, _, _, n + 1, h, o, r => by
    obtain ⟨p, vs, rfl, hp, as⟩ := h.tup_inv
    cases r
    obtain ⟨its, rv, ⟨ob, h1, h2, m, h3⟩, _⟩ := I.tuple (e.sqT hp)
    simp only [toPy]
    obtain ⟨l, k⟩ := Ats.rdp I e as (n := n) (by simpa using o) rv
    exact .tup h1 h2 h3 l k
  | .lst xs, _, _, 0, h, o, r => by simp [okR] at o
  | .lst xs, _, _, n + 1, h, o, r => by
    obtain ⟨p, vs, rfl, hp, as⟩ := h.lst_inv
    cases r
    obtain ⟨its, rv, pl, _⟩ := I.list (SqL.of (e _ _ hp))
    obtain ⟨ob, h1, h2, m, h3⟩ := pl.isList
    simp only [toPy]
    obtain ⟨l, k⟩ := Ats.rdp I e as (n := n) (by simpa using o) rv
    exact .lst h1 h2 h3 l k
  | .dct t ks vs, v, _, n, h, o, r => by
    obtain ⟨e1, e2, _⟩ := okR_dct_inv o
    have hh : ∃ a, v = .ref a ∧ (∃ ob m, s.heap.get? a = some ob ∧ ob.cls = .type "dict" ∧ ob.data = .dict #[] m) ∧ (a == sysModules) = false := by
      cases h with
      | dctK h hs =>
        rename_i a kvs
        have ek : kvs = [] := List.map_eq_nil_iff.mp e1
        subst ek
        obtain ⟨_, q, ws, rel, ob, es, ep, g1, g2, g3, _, g5, _⟩ := dk_rd I.hok (e.rd h)
        cases rel
        have : es = #[] := by
          have : es.toList = [] := by cases g5' : es.toList with
            | nil => rfl
            | cons _ _ => rw [g5'] at g5; cases g5
          exact Array.toList_inj.mp (by simpa using this)
        subst this
        exact ⟨a, rfl, ⟨ob, ep, g1, g2.1, g3⟩, q⟩
      | dctT h hk q hs =>
        rename_i a w0 kvs
        subst e1
        have ek : kvs = [] := by cases kvs with
          | nil => rfl
          | cons _ _ => simp at q
        subst ek
        obtain ⟨_, q, _, _, ob, es, ep, g1, g2, g3, g4⟩ := (show ObjOk X.prog X.w H s.heap a (dNo w0 a []) from I.hok a _ (e _ _ h)).1
        have : es = #[] := by
          have : es.toList = [] := by cases g5' : es.toList with
            | nil => rfl
            | cons _ _ => rw [g5'] at g4; cases g4
          exact Array.toList_inj.mp (by simpa using this)
        subst this
        exact ⟨a, rfl, ⟨ob, ep, g1, g2.1, g3⟩, q⟩
    obtain ⟨a, rfl, ⟨ob, m, g1, g2, g3⟩, g4⟩ := hh
    cases r
    simp only [toPy]
    exact .dct g1 g2 g3 g4
  | .src, _, _, n, _, o, _ => by cases n <;> simp [okR] at o
  | .scr _, _, _, n, _, o, _ => by cases n <;> simp [okR] at o
theorem Ats.rdp (I : Inv X pins σ H s) (e : Sub F H) : ∀ {ds : List D} {vs : List V} {us : List Value} {n : Nat}, Ats X.K Z F vs ds → okRs n ds = true → Vals vs us → us.length = (toPys ds).length ∧ ∀ (i : Nat) v x, us[i]? = some v → (toPys ds)[i]? = some x → RdP s.heap v x
  | [], _, _, _, h, o, r => by
    cases h
    cases r
    simp [toPys]
  | d :: ds, _, _, n, h, o, r => by
    have o' := Bool.and_eq_true_iff.mp (by simpa using o)
    cases h with
    | cons a as =>
      cases r with
      | cons ra ras =>
        obtain ⟨l, k⟩ := Ats.rdp I e as o'.2 ras
        have a0 := At.rdp I e a o'.1 ra
        simp only [toPys]
        refine ⟨by simp [l], fun i v x e1 e2 => ?_⟩
        cases i with
        | zero =>
          simp only [List.getElem?_cons_zero, Option.some.injEq] at e1 e2
          subst e1 e2
          exact a0
        | succ i => exact k i v x (by simpa using e1) (by simpa using e2)
end
def rReprD (K : PySem.W.Frag) : List V → Hp → VK → Prop := fun xs H Q => ∃ (g : Gh) (v : V) (d : D), g.H = H ∧ g.Ok ∧ xs = [v] ∧ At K g.Z g.F v d ∧ okR 8 d = true ∧ shw d = true ∧ cost d ≤ sizeLine ∧ Q (.str (shown d)) H
theorem call_reprD (G : Good X k) : CallR X (.builtin "repr") (rReprD X.K) := by
  intro pins s σ H xs us Q I r h
  obtain ⟨g, v, d, eH, ok, rfl, ad, od, hs, hc, q⟩ := h
  subst eH
  obtain ⟨u, rfl, ru⟩ := vals1 r
  have rd := At.rdp I ok.sub ad od ru
  have dep := okR_depth d 8 od
  have sho := shw_py d hs (.inr trivial) 8 od
  have hz : (toPy d).shown.length ≤ sizeLine := Nat.le_trans (shown_le d 8 od hs) hc
  have fin : ∀ h' t tk, (∀ b o, s.heap.get? b = some o → h'.get? b = some o) → EP X pins σ Q (.str (shown d) t) { s with heap := h', toks := tk } := fun h' t tk kp => ⟨.str (shown d), g.H, I.kept kp, ⟨t, rfl⟩, q⟩
  have un := G.room.units
  unfold shown at fin
  generalize toPy d = py at rd dep sho hz fin
  cases rd with
  | non => exact PySem.P.repr_of_none (fin s.heap _ _ fun _ _ z => z)
  | bl b => exact PySem.P.repr_of_bool (fin s.heap _ _ fun _ _ z => z)
  | int i t => exact PySem.P.repr_of_int (by simpa [PyData.showable] using sho) (fin s.heap _ _ fun _ _ z => z)
  | str x t => exact PySem.P.repr_of_str (fin s.heap _ _ fun _ _ z => z) hz
  | @lst a o vs n xs h1 h2 h3 hl hi =>
    have hz2 : (listText (PyData.shownAll xs)).length ≤ sizeLine := by simpa only [PyData.shown] using hz
    have hs2 : PyData.showableAll xs = true := by simpa [PyData.showable] using sho
    obtain ⟨bs, mb, kb⟩ := repr_items (prog := X.prog) (w := X.w) (d := 0) hl fun i u y e1 e2 => (hi i u y e1 e2).repr (showAll_at hs2 e2) (Nat.le_trans (listText_mem_le (shownAll_at e2)) hz2)
    obtain ⟨as, rs⟩ := rds_all hl fun i u y e1 e2 => (hi i u y e1 e2).reads
    have rd : Reads s.heap (.ref a) (.list xs) _ := .list h1 h2 h3 rs
    have dp : PyData.depthAll xs + 1 ≤ 8 := by simpa only [PyData.depth] using dep
    refine call_repr_slot (by omega) ⟨o, h1, h2⟩ F.slot_list_repr.toG ?_
    simp only [PyData.shown] at fin
    cases vs with
    | nil =>
      cases xs with
      | cons _ _ => simp at hl
      | nil =>
        simp only [PyData.shownAll, listText_nil] at fin
        exact call_list_repr_empty ⟨o, h1, h2⟩ h1 h3 ⟨_, _, rfl, fin s.heap _ _ fun _ _ z => z⟩
    | cons u us => exact call_list_reprK (A := X.A.in1) h1 h2 h3 (not_mem_of_deeper rd (by simp only [PyData.depth]; omega) mb) (by simpa using kb.length_eq) (fun i y e => kb.item i y (by simpa using e)) G.grd (fun b _ => Clear.nil b) (by show X.A.units + 1 + _ < cLine; omega) (fun _ _ z => z) (fun h' t tk kp => ⟨_, _, rfl, fin h' t tk kp⟩) hz2
  | @tup a o vs n xs h1 h2 h3 hl hi =>
    have hz2 : (tupleText (PyData.shownAll xs)).length ≤ sizeLine := by simpa only [PyData.shown] using hz
    have hs2 : PyData.showableAll xs = true := by simpa [PyData.showable] using sho
    obtain ⟨bs, mb, kb⟩ := repr_items (prog := X.prog) (w := X.w) (d := 0) hl fun i u y e1 e2 => (hi i u y e1 e2).repr (showAll_at hs2 e2) (Nat.le_trans (tupleText_mem_le (shownAll_at e2)) hz2)
    obtain ⟨as, rs⟩ := rds_all hl fun i u y e1 e2 => (hi i u y e1 e2).reads
    have rd : Reads s.heap (.ref a) (.tuple xs) _ := .tuple h1 h2 h3 rs
    have dp : PyData.depthAll xs + 1 ≤ 8 := by simpa only [PyData.depth] using dep
    refine call_repr_slot (by omega) ⟨o, h1, h2⟩ F.slot_tuple_repr ?_
    simp only [PyData.shown] at fin
    exact call_tuple_reprK (A := X.A.in1) h1 h2 h3 (not_mem_of_deeper rd (by simp only [PyData.depth]; omega) mb) kb G.grd (fun b _ => Clear.nil b) (by show X.A.units + 1 + _ < cLine; omega) (fun _ _ z => z) (fun h' t tk kp => ⟨_, _, rfl, fin h' t tk kp⟩) hz2
  | @dct a o n h1 h2 h3 h4 =>
    have rd : Reads s.heap (.ref a) (.dict []) _ := .dict (kvs := []) h1 h2 h3 .nil .nil
    refine call_repr_slot (by omega) ⟨o, h1, h2⟩ F.slot_dict_repr ?_
    simp only [PyData.shown, PyData.shownKv_eq] at fin hz
    exact call_dict_reprK (A := X.A.in1) h1 h2 h3 h4 (by simp) (ReprEntriesK.of_two (as := []) (d := 0) [] _ _ .nil .nil) G.grd (fun b _ => Clear.nil b) (by show X.A.units + 1 + _ < cLine; omega) (fun _ _ z => z) (fun h' t tk kp => ⟨_, _, rfl, fin h' t tk kp⟩) hz
theorem cd_repr {K : PySem.W.Frag} : CallD K (rReprD K) reprD := by
  intro g vs ds Qd Q ok ha hw k
  unfold reprD at hw
  split at hw
  · obtain ⟨h1, h2, h3, h4⟩ := hw
    obtain ⟨v, rfl, a⟩ := ha.one_inv
    exact ⟨g, v, _, rfl, ok, rfl, a, h1, h2, h3, k _ _ g ok.refl (.val (.str _)) h4⟩
  · exact hw.elim
end

section
variable {X : Cx} {W : WX} {pos p np pos' : Pos} {x : Str}
/-- an error class of the text's own, by what the top left -/
structure ExC (mg : Str → Option Value) (K : PySem.W.Frag) (x : Str) : Prop where
  ex : ∃ C, mg x = some (.ref C) ∧ PySem.W.excIn K C [.type "ValueError", .type "Exception", .type "BaseException", .type "object"] "ValueError.__new__" = true ∧ PySem.W.keepIn K (.ref C) = true ∧ PySem.W.subIn K (.ref C) (.type "BaseException") = some true ∧ PySem.W.typeIn K (.ref C) = some (.type "type")
theorem pmk_0 {C : Addr} {bmB : List Value} {B newId initId : String} (F : ExcBaseFacts B newId initId bmB) (q : PySem.W.excIn X.K C bmB newId = true) (gC : X.mg x = some (.ref C)) (kC : PySem.W.keepIn X.K (.ref C) = true) (r : Raises X (.ref C)) (hg : Gl X x)
    (hdb : (x == ("__debug__" : Str)) = false := by decide) : PMk X (.Call (.Name x p) [] [] pos) (fun _ H Q => Q (.ref C) none H) := by
  intro pins s σ H Q I h
  refine wpAny_Call_Name_kw (ld_glob I hg gC (PySem.W.callWith_K0 I.kIn kC ?_) hdb)
  show wpAny _ _ (call (.ref C) []) _ _ _
  obtain ⟨bm, N, nm, qn, bs, hdct, sn, sub, ab, col, dd, k0, k1, k2, k3, k5, mN, hC, hN, hni, T⟩ := exc_obj I.kIn q
  exact wpAny_call_exc_subT F T hC hN hni (fun h' e hm => mk_of I hm r h (I.hok.gone hm.new)) (Nat.zero_le _)
/-- raise x() -/
def sRaise (x : Str) : WS := fun env _ E => E ⟨x, []⟩ env
theorem ds_raise (T : ExC X.mg X.K x) (hc : X.calm = true) (tk : Takes X W) (hg : Gl X x := by rfl) (hdb : (x == ("__debug__" : Str)) = false := by decide) : DS X W (.Raise (some (.Call (.Name x p) [] [] pos')) none pos) (sRaise x) := by
  obtain ⟨C, h1, h2, h3, h4, h5⟩ := T.ex
  refine ps_imp (ps_raise hc tk (pmk_0 PySem.F.excBase_ValueError h2 h1 h3 (raises_own h4 h5) hg hdb)) fun Dn σ H ⟨g0, g, env, De, Ee, eH, h, hw, k⟩ => ?_
  subst eH
  exact k.ex g env σ _ _ _ h ⟨C, rfl, h1, .inl ⟨rfl, rfl⟩⟩ hw
/-- which classes of errors the clause takes -/
structure Catch (mg : Str → Option Value) (K : PySem.W.Frag) (y : Str) (tbl : List (Str × Bool)) : Prop where
  ex : ∃ D, mg y = some (.ref D) ∧ ∀ n b C, tbl.lookup n = some b → mg n = some (.ref C) → PySem.W.exmOne K (.ref C) (.ref D) = some b
/-- try: sb except y: sh -/
def sTry (tbl : List (Str × Bool)) (sb sh : WS) : WS := fun env D E => sb env D fun e env' => match tbl.lookup e.cls with
  | some true => sh env' D fun _ _ => False
  | some false => E e env'
  | none => False
theorem ds_try {y : Str} {tbl : List (Str × Bool)} {body suite : List Stmt} {b₀ : Stmt} {sb sh : WS} (T : Catch X.mg X.K y tbl) (hs : X.stack = X.env :: X.outer) (hf : X.env.frame = some X.env.locals) (tk : Takes X W)
    (hb : ∀ (W' : WX) (pn : List (Addr × Obj)) (xe : Value → Shared → Prop), Takes (X.tr pn xe) W' → PassesOwn (model X.prog X.w) X.A X.env xe → DSs (X.tr pn xe) W' body sb)
    (hsu : ∀ (a : Addr) (oe : Obj) (pn : List (Addr × Obj)), DSs (X.suite a ((a, oe) :: pn)) WF (b₀ :: suite) sh) (hg : Gl X y := by rfl) (hdb : (y == ("__debug__" : Str)) = false := by decide) :
    DS X W (.Try body [.ExceptHandler (some (.Name y np)) none (b₀ :: suite) pos'] [] [] pos) (sTry tbl sb sh) := by
  obtain ⟨D, h1, h2⟩ := T.ex
  refine ps_imp (ps_try_only (tb := fun W' => LS X W' sb) (ts := fun _ _ _ => LS X WF sh) hs hf ⟨hg, hdb, .inl h1⟩ tk hb fun a oe cls d pn _ _ => hsu a oe pn) fun Dn σ H ⟨g0, g, env, De, Ee, eH, h, hw, k⟩ => ?_
  subst eH
  refine ⟨g0, g, env, De, _, rfl, h, hw, k.nx, k.bk, k.ct, k.rt, fun g env σ e cls dd h r q => ?_⟩
  obtain ⟨C, e1, e2, e3⟩ := id r
  cases hl : tbl.lookup e.cls with
  | none => rw [hl] at q; exact q.elim
  | some b =>
    rw [hl] at q
    refine ⟨b, by rw [e1]; exact h2 _ b C hl e2, fun hb a _ => ?_, fun hb => ?_⟩
    · subst hb
      exact ⟨g0, g, env, De, _, rfl, h, q, k.nx, k.bk, k.ct, k.rt, fun _ _ _ _ _ _ _ _ z => z.elim⟩
    · subst hb
      exact k.ex g env σ e cls dd h r q
end
end DL
/-! DPrim3 -/
namespace DL
open PySem PySem.Spec PyProof.Rows L2
section
theorem meets_enum1 {v : Value} {o : Obj} {H : Heap → Prop} (B : Begins v o H) :
    Meets (Builtin.«enumerate.__new__» ⟨[.type "enumerate", v], []⟩) (fun _ R s => H s.heap ∧ R (.ok (.ret (.ref (s.heap.push o).objs.size)))
      { s with heap := (s.heap.push o).push { cls := .type "enumerate", data := .fields #[.none, .bool false, .ref s.heap.objs.size, rawInt 0, .none, .none] } }) :=
  .of_wp fun prog w A R s h => by
    obtain ⟨hp, g, d, tk, os⟩ := s
    obtain ⟨h1, h⟩ := h
    have hsub := sub_enumerate
    have go : ∀ {A' : Around} {E : Value → Shared → Prop} {Q : Value → Shared → Prop}, Q (.ref hp.objs.size) ⟨hp.push o, g, d, tk, os⟩ → wpAny (model prog w) A' (pyIter v) Q E ⟨hp, g, d, tk, os⟩ :=
      fun q => B.iter prog w _ _ ⟨hp, g, d, tk, os⟩ _ h1 q
    wp_walk using go
    refine wpAny_stack_any fun st => wpAny_pure ?_
    split
    · rename_i c _ _ _ _ _
      cases (c == Value.type "enumerate") <;> (wp_walk using go; exact ⟨_, rfl, h⟩)
    · wp_walk using go
      exact ⟨_, rfl, h⟩
variable {prog : Program} {w : World} {A : Around} {E : Value → Shared → Prop} {s : Shared}
/-- enumerate(v): two new cells -/
theorem call_enum1 {v : Value} {o : Obj} {H : Heap → Prop} {Q : Value → Shared → Prop} (B : Begins v o H) (h1 : H s.heap)
    (h : ∀ h', IsEnum h' (s.heap.objs.size + 1) s.heap.objs.size 0 .none → h'.get? s.heap.objs.size = some o → h'.objs.size = s.heap.objs.size + 2 →
      (∀ b o, s.heap.get? b = some o → h'.get? b = some o) → Q (.ref (s.heap.objs.size + 1)) { s with heap := h' }) : wpAny (model prog w) A (call (.type "enumerate") [v]) Q E s := by
  refine callType_new F.called_enumerate (by decide) (F.typeCall_enumerate_1 _) (F.newCall_enumerate_1 _) (fun obj => F.args_object_init_2 obj _) F.entry_enumerate_new (meets_enum1 B) ⟨h1, ?_⟩
  have sz : (s.heap.push o).objs.size = s.heap.objs.size + 1 := Heap.size_push ..
  show _ ∧ _
  rw [sz]
  have at_ := Heap.get?_push_size (s.heap.push o) (o := { cls := .type "enumerate", data := .fields #[.none, .bool false, .ref s.heap.objs.size, rawInt 0, .none, .none] }) rfl
  rw [sz] at at_
  exact ⟨⟨_, at_, rfl⟩, h _ at_ (Heap.get?_push_of_some _ (Heap.get?_push_size _ B.free)) (by rw [Heap.size_push, sz]) fun b ob x => Heap.get?_push_of_some _ (Heap.get?_push_of_some _ x)⟩
end
/-- the tuple at a as it stands, its items in new pairs with their places -/
def IteT (K : PySem.W.Frag) (a : Addr) : It :=
  ⟨fun i H => ∃ (xs : List V) (x : V), SqT K H a xs ∧ xs[i]? = some x, fun i H v H' => ∃ q ob x, v = .ref q ∧ H q = none ∧ ob.dict = none ∧ H' = upd H q (.frz ob (.tup [.int (i : Nat), x])) ∧ ∀ xs, SqT K H a xs → xs[i]? = some x, fun i H => ∃ xs : List V, SqT K H a xs ∧ xs.length ≤ i⟩
theorem turn_enumT {P : Program} {w : World} {K : PySem.W.Frag} {elts : List Expr} {kk : Nat} {tpos : Pos} (a e it : Addr) :
    Turn P w K (.Tuple elts kk tpos) (IteT K a) [e, it] e (fun i h => (∃ old, IsEnum h e it ((i : Nat) : Int) old) ∧ h.IsTupleIter it a i ∧ e ≠ it) where
  mem := by simp
  obj := fun i h st b hb => by
    obtain ⟨⟨old, he⟩, ⟨o, ho, hc, hd⟩, _⟩ := st
    simp only [List.mem_cons, List.mem_nil_iff, or_false] at hb
    rcases hb with rfl | rfl
    · exact ⟨_, he, fun v q => nomatch q⟩
    · exact ⟨o, ho, fun v q => by rw [hd] at q; cases q⟩
  keep := fun i h h' st k => by
    obtain ⟨⟨old, he⟩, hi, hne⟩ := st
    exact ⟨⟨old, k e (by simp) _ he⟩, hi.at fun o q => k it (by simp) o q, hne⟩
  item := by
    intro X hP hw hK hc i pins s σ H E I hf st hg
    subst hP hw hK
    obtain ⟨⟨old, he⟩, hit, hne⟩ := st
    obtain ⟨xs, x, hq, hx⟩ := hg
    obtain ⟨its, rv, p, hz⟩ := I.tuple hq
    obtain ⟨u, hu, ru⟩ := rv.get hx
    have hel : e < s.heap.objs.size := Heap.lt_size he
    obtain ⟨oi, ei, ci, di⟩ := id hit
    have hil : it < s.heap.objs.size := Heap.lt_size ei
    obtain ⟨op, ep, cp, _⟩ := id p
    have hea : e ≠ a := fun z => by
      rw [z] at he
      have he : s.heap.get? a = some _ := he
      rw [ep] at he
      cases he
      have cp : Value.type "enumerate" = Value.type "tuple" := cp
      exact absurd cp (by decide)
    have hia : a ≠ it := fun z => by
      rw [z, ei] at ep
      cases ep
      rw [ci] at cp
      exact absurd cp (by decide)
    have hi : i < its.toArray.size := by
      have := (List.getElem?_eq_some_iff.mp hu).1
      simpa using this
    refine wpAny_pyNext_enum_itemD (i := i) (Draws.tuple (A := X.A.in1) (I.ok.hd hc) it a hia its.toArray) he ⟨hit, p⟩ hi hne (by simp [hea, hne]) fun y h' tk hy ho st' hT hsz hk => ?_
    obtain rfl : y = u := by
      have hy : its.toArray[i]? = some y := hy
      rw [List.getElem?_toArray, hu] at hy
      exact (Option.some.inj hy).symm
    refine ⟨_, rfl, wpAny_letOwnedTupleGo_enum (s := { s with heap := h', toks := tk + 1 }) ho fun h'' he' sb => ?_⟩
    have hT2 : h''.get? s.heap.objs.size = some { cls := .type "tuple", data := .seq #[.int i tk, y] } := (sb.2 _ (Nat.ne_of_gt hel)).trans hT
    have new : ObjOk X.prog X.w (upd H s.heap.objs.size (.frz { cls := .type "tuple", data := .seq #[.int i tk, y] } (.tup [.int (i : Nat), x]))) h'' s.heap.objs.size (.frz { cls := .type "tuple", data := .seq #[.int i tk, y] } (.tup [.int (i : Nat), x])) :=
      ⟨hT2, by show 2 ≤ sizeLine; decide, [.int i tk, y], .cons ⟨_, rfl⟩ (.cons ru .nil), ⟨_, hT2, rfl, _, rfl⟩⟩
    have I1 : Inv X pins σ (upd H s.heap.objs.size (.frz { cls := .type "tuple", data := .seq #[.int i tk, y] } (.tup [.int (i : Nat), x]))) { s with heap := h'', toks := tk + 1 } :=
      I.turnedNew (ch := [e, it]) (fun b ob hb q => (sb.2 b (fun z => hb (by simp [z]))).trans (hk b ob (fun z => hb (by simp [z])) (fun z => hb (by simp [z])) q)) hf (Nat.le_refl _) new
    refine ⟨.ref s.heap.objs.size, _, I1, rfl, ⟨_, _, x, rfl, I.hok.fresh (Nat.le_refl _), rfl, rfl, fun ys hy => by rw [I.tuple_inj hy hq]; exact hx⟩, ⟨⟨y, ?_⟩, st'.1.at fun o q => (sb.2 it (Ne.symm hne)).trans q, hne⟩, fun b hb => ?_⟩
    · rw [show ((i + 1 : Nat) : Int) = (i : Int) + 1 by omega]
      exact he'
    · have hb' : b < s.heap.objs.size := by
        simp only [List.mem_cons, List.mem_nil_iff, or_false] at hb
        rcases hb with rfl | rfl <;> assumption
      rw [upd_ne (Nat.ne_of_lt hb')]
      exact (hf b hb).1
  done := by
    intro X hP hw hK hc i pins s σ H E I hf st hg
    subst hP hw hK
    obtain ⟨⟨old, he⟩, hit, hne⟩ := st
    obtain ⟨xs, hq, hx⟩ := hg
    obtain ⟨its, rv, p, hz⟩ := I.tuple hq
    obtain ⟨oi, ei, ci, di⟩ := id hit
    obtain ⟨op, ep, cp, _⟩ := id p
    have hia : a ≠ it := fun z => by
      rw [z, ei] at ep
      cases ep
      rw [ci] at cp
      exact absurd cp (by decide)
    have hl := rv.length
    have hn : its.toArray[i]? = none := by simp; omega
    have D : Draws X.prog X.w X.A.in1 it [it, a] i (fun _ _ => False) (fun j h => h.IsTupleIter it a j ∧ h.IsTuple a its.toArray ∧ j = i) :=
      ⟨fun _ _ st => let ⟨o, ho, _⟩ := st.1; ⟨o, ho⟩, fun _ _ _ st k => ⟨st.1.at fun o q => k it (by simp) o q, st.2.1.at fun o q => k a (by simp) o q, st.2.2⟩,
        fun j s Q E hj st _ => absurd st.2.2 (Nat.ne_of_lt hj), fun s Q E st hE => wpAny_nextOf_tuple_end (I.ok.hd hc) st.1 st.2.1 hn hE⟩
    obtain ⟨f0, f1, f2, f3, f4, f5⟩ := hf it (by simp)
    exact wpAny_pyNext_enum_endD D he ⟨hit, p, rfl⟩ fun h' eb => ⟨rfl, I.turned (t' := s.toks) (fun b o hb q => eb b o hb q) f0 f1 f3 f4 f5⟩
  self := fun A i s Q E st h => let ⟨⟨_, he⟩, _⟩ := st; wpAny_pyIter_enum he h
/-- the list at a as it stands, its items in new pairs with their places -/
def IteL (K : PySem.W.Frag) (a : Addr) : It :=
  ⟨fun i H => ∃ (xs : List V) (x : V), SqL K H a xs ∧ xs[i]? = some x, fun i H v H' => ∃ q ob x, v = .ref q ∧ H q = none ∧ ob.dict = none ∧ H' = upd H q (.frz ob (.tup [.int (i : Nat), x])) ∧ ∀ xs, SqL K H a xs → xs[i]? = some x, fun i H => ∃ xs : List V, SqL K H a xs ∧ xs.length ≤ i⟩
theorem turn_enumL {P : Program} {w : World} {K : PySem.W.Frag} {elts : List Expr} {kk : Nat} {tpos : Pos} (a e it : Addr) :
    Turn P w K (.Tuple elts kk tpos) (IteL K a) [e, it] e (fun i h => (∃ old, IsEnum h e it ((i : Nat) : Int) old) ∧ h.IsListIter it a i ∧ e ≠ it) where
  mem := by simp
  obj := (turn_enum (K := K) (P := P) (w := w) (elts := elts) (kk := kk) (tpos := tpos) a e it).obj
  keep := (turn_enum (K := K) (P := P) (w := w) (elts := elts) (kk := kk) (tpos := tpos) a e it).keep
  item := by
    intro X hP hw hK hc i pins s σ H E I hf st hg
    subst hP hw hK
    obtain ⟨⟨last, en⟩, li, ne⟩ := st
    obtain ⟨xs, x, sq, ix⟩ := hg
    obtain ⟨us, rv, pl, _⟩ := I.list sq
    obtain ⟨u, iu, ru⟩ := rv.get ix
    have e0 : e < s.heap.objs.size := Heap.lt_size en
    have i0 : it < s.heap.objs.size := by obtain ⟨_, z, _⟩ := li; exact Heap.lt_size z
    refine wpAny_pyNext_enum_item en li pl.isList (x := u) (by simpa using iu) ne fun h1 on li1 tu _ kp => ⟨_, rfl, wpAny_letOwnedTupleGo_enum (s := { s with heap := h1, toks := s.toks + 1 }) on fun h2 en2 sb => ?_⟩
    have tu2 : h2.get? s.heap.objs.size = some { cls := .type "tuple", data := .seq #[.int i s.toks, u] } := (sb.2 _ (Nat.ne_of_gt e0)).trans tu
    have new : ObjOk X.prog X.w (upd H s.heap.objs.size (.frz { cls := .type "tuple", data := .seq #[.int i s.toks, u] } (.tup [.int (i : Nat), x]))) h2 s.heap.objs.size (.frz { cls := .type "tuple", data := .seq #[.int i s.toks, u] } (.tup [.int (i : Nat), x])) :=
      ⟨tu2, by show 2 ≤ sizeLine; decide, [.int i s.toks, u], .cons ⟨_, rfl⟩ (.cons ru .nil), ⟨_, tu2, rfl, _, rfl⟩⟩
    have I1 := I.turnedNew (t' := s.toks + 1) (ch := [e, it]) (fun b ob hb q => (sb.2 b (fun z => hb (by simp [z]))).trans (kp b ob (fun z => hb (by simp [z])) (fun z => hb (by simp [z])) q)) hf (Nat.le_refl _) new
    refine ⟨.ref s.heap.objs.size, _, I1, rfl, ⟨_, _, x, rfl, I.hok.fresh (Nat.le_refl _), rfl, rfl, fun ys hy => by rw [I.list_inj hy sq]; exact ix⟩, ⟨⟨u, ?_⟩, li1.at fun o q => (sb.2 it (Ne.symm ne)).trans q, ne⟩, fun b hb => ?_⟩
    · rw [show ((i + 1 : Nat) : Int) = (i : Int) + 1 by omega]
      exact en2
    · have lt : b < s.heap.objs.size := by
        simp only [List.mem_cons, List.mem_nil_iff, or_false] at hb
        rcases hb with rfl | rfl <;> assumption
      rw [upd_ne (Nat.ne_of_lt lt)]
      exact (hf b hb).1
  done := (turn_enum (K := K) (P := P) (w := w) (elts := elts) (kk := kk) (tpos := tpos) a e it).done
  self := (turn_enum (K := K) (P := P) (w := w) (elts := elts) (kk := kk) (tpos := tpos) a e it).self
def tEnumA (K : PySem.W.Frag) (ta : TA) : TI := fun σ H R => ta σ H fun vs H1 => ∃ a xs, vs = [.ref a] ∧ ((SqL K H1 a xs ∧ R (IteL K a) H1) ∨ (SqT K H1 a xs ∧ R (IteT K a) H1))
theorem pi_enumA {X : Cx} {e : Expr} {ta : TA} {p pos tpos : Pos} {elts : List Expr} {kk : Nat} (hg : Gl X "enumerate") (hm : X.mg "enumerate" = none) (ha : PA X [e] ta) (hs : starEach [e] X.env = [(false, eval e X.env)] := by rfl) :
    PI X (.Tuple elts kk tpos) (.Call (.Name "enumerate" p) [e] [] pos) (tEnumA X.K ta) := by
  refine ⟨fun pins s σ H R I h => Call_ (ld_blt I hg hm boot_enumerate (PyProof.Rows.callWith_type1 (thn (ha.run pos pins s σ H _ I h) fun us s1 ⟨vs, H1, I1, r1, a, xs, ex, q1⟩ => ?_) hs rfl))⟩
  subst ex
  obtain ⟨u, rfl, ru⟩ := r1.one
  obtain rfl : u = Value.ref a := ru
  have fresh2 : ∀ b ∈ [s1.heap.objs.size + 1, s1.heap.objs.size], FpOk X pins H1 b := fun b hb => by
    simp only [List.mem_cons, List.mem_nil_iff, or_false] at hb
    have hle : s1.heap.objs.size ≤ b := by rcases hb with rfl | rfl <;> omega
    exact I1.fpOk hle (I1.hok.fresh hle)
  rcases q1 with ⟨hq, q⟩ | ⟨hq, q⟩
  · obtain ⟨its, rv, p', hz⟩ := I1.list hq
    refine call_enumerate_list p'.isList fun h' he hit hsz hk => wpAny_pyIter_enum he ?_
    exact ⟨s1.heap.objs.size + 1, _, _, _, H1, rfl, I1.kept (t' := s1.toks) hk, turn_enumL a (s1.heap.objs.size + 1) s1.heap.objs.size, ⟨⟨.none, he⟩, hit, Nat.succ_ne_self _⟩, fresh2, q⟩
  · obtain ⟨its, rv, p', hz⟩ := I1.tuple hq
    refine call_enum1 (begins_tuple a its.toArray) p' fun h' he hit hsz hk => wpAny_pyIter_enum he ?_
    exact ⟨s1.heap.objs.size + 1, _, _, _, H1, rfl, I1.kept (t' := s1.toks) hk, turn_enumT a (s1.heap.objs.size + 1) s1.heap.objs.size, ⟨⟨.none, he⟩, ⟨_, hit, rfl, rfl⟩, Nat.succ_ne_self _⟩, fresh2, q⟩
/-- things with their places -/
def enumF : Int → List D → List D
  | _, [] => []
  | i, d :: ds => .tup [.int i, d] :: enumF (i + 1) ds
theorem enumF_get : ∀ (ds : List D) (k : Int) (i : Nat) (d : D), (enumF k ds)[i]? = some d → ∃ e, ds[i]? = some e ∧ d = .tup [.int (k + i), e]
  | [], _, i, d, h => by simp [enumF] at h
  | x :: ds, k, 0, d, h => by
    simp [enumF] at h
    exact ⟨x, rfl, by rw [← h]; simp⟩
  | x :: ds, k, i + 1, d, h => by
    obtain ⟨e, h1, h2⟩ := enumF_get ds (k + 1) i d (by simpa [enumF] using h)
    exact ⟨e, by simpa using h1, by rw [h2]; congr 3; omega⟩
theorem enumF_length : ∀ (ds : List D) (k : Int), (enumF k ds).length = ds.length
  | [], _ => rfl
  | x :: ds, k => by simp [enumF, enumF_length ds]
/-- a pair made at a turn, frozen -/
theorem pair_step {K : PySem.W.Frag} {g : Gh} (ok : g.Ok) {q : Addr} {ob : Obj} {v w : V} {d e : D} (n : g.H q = none) (hd : ob.dict = none) (h1 : At K g.Z g.F v d) (h2 : At K g.Z g.F w e) :
    ∃ F', Step g ⟨g.Z, F', upd g.H q (.frz ob (.tup [v, w]))⟩ ∧ At K g.Z F' (.ref q) (.tup [d, e]) := by
  have s := Step.laidF (u := .frz ob (.tup [v, w])) ok n
  exact ⟨_, s, .tup upd_same hd (.cons (h1.mono s.up fun _ q => q) (.cons (h2.mono s.up fun _ q => q) .nil))⟩
theorem itok_enum {K : PySem.W.Frag} {g : Gh} {a : Addr} {vs : List V} {ds : List D} (h : g.F a = some (.lst vs)) (as : Ats K g.Z g.F vs ds) : ItOk K g (IteL K a) (enumF 0 ds) := by
  have q : ∀ g', Grow g g' → SqL K g'.H a vs := fun g' s => SqL.of (s.ok.sub _ _ (s.up _ _ h))
  refine ⟨fun g' s i d e => ?_, fun g' s i d x H' e y => ?_, fun g' s i l => ?_⟩
  · obtain ⟨e', h1, rfl⟩ := enumF_get ds 0 i d e
    obtain ⟨v, h2, _⟩ := as.get h1
    exact ⟨vs, v, q g' s, h2⟩
  · obtain ⟨e', h1, rfl⟩ := enumF_get ds 0 i d e
    obtain ⟨v, h2, av⟩ := as.get h1
    obtain ⟨p, ob, w, rfl, n, hob, rfl, hw⟩ := y
    have : v = w := Option.some.inj (h2.symm.trans (hw vs (q g' s)))
    subst this
    rw [Int.zero_add]
    exact pair_step s.ok n hob (.int _) (av.mono s.up s.zs)
  · rw [enumF_length] at l
    exact ⟨vs, q g' s, by rw [as.length]; exact l⟩
theorem itok_enumT {K : PySem.W.Frag} {g : Gh} {a : Addr} {vs : List V} {ds : List D} (h : SqT K g.F a vs) (as : Ats K g.Z g.F vs ds) : ItOk K g (IteT K a) (enumF 0 ds) := by
  have q : ∀ g', Grow g g' → SqT K g'.H a vs := fun g' s => s.ok.sub.sqT (s.up.sqT h)
  refine ⟨fun g' s i d e => ?_, fun g' s i d x H' e y => ?_, fun g' s i l => ?_⟩
  · obtain ⟨e', h1, rfl⟩ := enumF_get ds 0 i d e
    obtain ⟨v, h2, _⟩ := as.get h1
    exact ⟨vs, v, q g' s, h2⟩
  · obtain ⟨e', h1, rfl⟩ := enumF_get ds 0 i d e
    obtain ⟨v, h2, av⟩ := as.get h1
    obtain ⟨p, ob, w, rfl, n, hob, rfl, hw⟩ := y
    have : v = w := Option.some.inj (h2.symm.trans (hw vs (q g' s)))
    subst this
    rw [Int.zero_add]
    exact pair_step s.ok n hob (.int _) (av.mono s.up s.zs)
  · rw [enumF_length] at l
    exact ⟨vs, q g' s, by rw [as.length]; exact l⟩
def iEnD (w : WE) : WI := fun env Q E => w env (fun o => itemsD o.d fun ds => Q (enumF 0 ds)) E
theorem di_enum {X : Cx} {W : WX} {w : WE} {e : Expr} {p pos tpos : Pos} {elts : List Expr} {kk : Nat} (hm : X.mg "enumerate" = none) (he : DE X W e w) (hg : Gl X "enumerate" := by rfl) (hs : starEach [e] X.env = [(false, eval e X.env)] := by rfl) :
    DI X W (.Tuple elts kk tpos) (.Call (.Name "enumerate" p) [e] [] pos) (iEnD w) := pi_imp (pi_enumA hg hm (pa_cons he pa_nil hs) hs) fun σ H R ⟨g, env, Qd, Ed, eH, es, hw, k, kx⟩ => by
  subst eH
  refine LE.go (R := fun d => itemsD d fun ds => Qd (enumF 0 ds)) es hw (fun v d g1 s1 a1 h1 => ?_) kx
  unfold itemsD at h1
  split at h1
  · obtain ⟨q, vs, rfl, hp, as⟩ := a1.tup_inv
    exact ⟨q, vs, rfl, .inr ⟨s1.ok.sub.sqT hp, k _ _ g1 s1 (itok_enumT hp as) h1⟩⟩
  · obtain ⟨q, vs, rfl, hp, as⟩ := a1.lst_inv
    exact ⟨q, vs, rfl, .inl ⟨SqL.of (s1.ok.sub _ _ hp), k _ _ g1 s1 (itok_enum hp as) h1⟩⟩
  · exact h1.elim
end DL
/-! DPrim4 -/
namespace DL
open PySem PySem.Spec PyProof.Rows L2
section
variable {X : Cx}
def rGetL (K : PySem.W.Frag) : V → V → Hp → VK → Prop := fun o i H Q => ∃ p xs k v, o = .ref p ∧ i = .int k ∧ SqL K H p xs ∧ L2.atI xs k = some v ∧ Q v H
theorem get_list : PGet X (rGetL X.K) := by
  intro pins s σ H o i ov iv Q I ro ri h
  obtain ⟨p, xs, k, z, rfl, rfl, hq, he, q⟩ := h
  cases ro
  obtain ⟨t, rfl⟩ := ri
  obtain ⟨its, r, pl, hz⟩ := I.list hq
  obtain ⟨j, h1, h2, h3, h4, h5⟩ := atI_get he
  obtain ⟨w, ew, rw'⟩ := r.get h2
  have hl := r.length
  have hn := line63
  have fin : EP X pins σ Q w s := ⟨z, H, I, rw', q⟩
  by_cases h0 : 0 ≤ k
  · have hj : k.toNat = j := by
      rw [seqIndex_of h0 h5] at h1
      exact Option.some.inj h1
    exact wpAny_getItem_list pl.isList h0 (by omega) (by rw [hj]; simpa using ew) fin
  · have hj : (k + (its.toArray.size : Int)).toNat = j := by
      rw [seqIndex_neg (by omega) h4] at h1
      rw [List.size_toArray, ← hl]
      exact Option.some.inj h1
    exact wpAny_getItem_list_neg pl.isList (by omega) (by rw [List.size_toArray]; omega) (by omega) (by rw [hj]; simpa using ew) fin
end
/-- x[k] op= e: an own list's int -/
def sAugIx (i : Nat) (f : D → D → PQ) (wi we : WE) : WS := fun env D E => ownD env[i]? fun os => evC wi env (fun k => ∃ n j m, k.d = .int n ∧ ixN os.length n = some j ∧ os[j]? = some (.val (.int m)) ∧
  evC we env (fun o => f (.int m) o.d fun z => ∃ e, z = .val e ∧ noLst e = true ∧ D.nx (env.set i (some (.lst (os.set j (.val e)))))) E) E
section
variable {X : Cx} {W : WX} {g0 g : Gh} {env : SEnv} {σ : L2.St} {i : Nat} {x : Str} {e ei : Expr} {we wi : WE} {pos p tp : Pos}
theorem ROs.getV {K : PySem.W.Frag} {Z : Zs} {F H : Hp} : ∀ {vs : List V} {os : List O} {cs : List Addr} {j : Nat} {d : D}, ROs K Z F H vs os cs → os[j]? = some (.val d) → ∃ v, vs[j]? = some v ∧ At K Z F v d
  | _, _, _, _, _, .nil, e => by simp at e
  | _, _, _, 0, d, .cons h t, e => by
    simp at e
    subst e
    exact ⟨_, rfl, h.val_inv⟩
  | _, _, _, j + 1, d, .cons h t, e => by
    obtain ⟨v, h1, h2⟩ := ROs.getV (j := j) t (by simpa using e)
    exact ⟨v, by simpa using h1, h2⟩
theorem ds_augIx {op : Operator} {r : R2} {f : D → D → PQ} (ho : OpR X (inplaceOp op) r) (hf : OpD X.K r f) (hi : DE X W ei wi) (he : DE X W e we) (hN : X.N[i]? = some x := by rfl) (hv : Vis X.env.scope x := by first | exact Or.inl rfl | exact Or.inr (Or.inl rfl) | exact Or.inr (Or.inr rfl)) (hd : (x == ("__debug__" : Str)) = false := by decide) (hcd : (x == ("__classdict__" : Str)) = false := by decide)
    (ha : ∀ ov iv new, augStore ei ov iv new = (do holding [new, ov, iv] (setItem ov iv new); release [new, ov, iv] []; pure .next) := by intros; rfl) :
    DS X W (.AugAssign (.Subscript (.Name x p) ei tp) op e pos) (sAugIx i f wi we) :=
  ps_imp (ps_augS (pe_var hN hv hd hcd) hi get_list he (fun pins s σ H x y v u Q I rx ry h => ho pins s σ H x y v u Q I rx ry h) set_list ha) fun Dn σ H ⟨g0, g, env, De, Ee, eH, h, hw, k⟩ => by
  subst eH
  obtain ⟨ps, e1, hw⟩ := ownD_inv hw
  have hl : ∃ l, σ[i]? = some (some (.ref l)) := by
    obtain ⟨cs, h⟩ := h
    obtain ⟨l, us, c0, q1, _⟩ := h.own e1
    exact ⟨l, q1⟩
  obtain ⟨l, hl⟩ := hl
  refine ⟨.ref l, hl, h.goC hw (fun vk ok g1 h1 q => ?_) k.ex⟩
  obtain ⟨n, j, m, en, ej, em, q⟩ := q
  have ek : vk = .int n := by
    obtain ⟨cs, h1⟩ := h1
    obtain ⟨w', ew, rw'⟩ := h1.tmp.one_inv
    obtain rfl : vk = w' := by simpa using ew
    exact rw'.int_of en
  subst ek
  have h1' := SS.drop (X := X) h1
  have rd : ∃ us, g1.H l = some (.lst us) ∧ us[j]? = some (.int m) ∧ us.length = ps.length := by
    obtain ⟨cs, h1⟩ := h1'
    obtain ⟨l', us, c0, q1, q2, q3, q4⟩ := h1.own e1
    rw [hl] at q1
    obtain rfl : l = l' := by simpa using q1
    obtain ⟨v, q5, q6⟩ := q4.getV em
    exact ⟨us, q2, by rw [q5, q6.int_inv], q4.length⟩
  obtain ⟨us, r1, r2, r3⟩ := rd
  refine ⟨l, us, n, .int m, rfl, rfl, SqL.of r1, ?_, ?_⟩
  · unfold L2.atI
    rw [r3, ej]
    exact r2
  refine h1'.goC q (fun y o g2 h2 q => ?_) k.ex
  obtain ⟨cs, h2⟩ := h2
  obtain ⟨w', ew, rw'⟩ := h2.tmp.one_inv
  obtain rfl : y = w' := by simpa using ew
  have up := thaw_up (H := g2.H) h2.fz
  refine hf ⟨g2.Z, thaw g2.F g2.H (cells cs), g2.H⟩ (.int m) y (.int m) o.d _ _ (h2.st.ok.thaw h2.nz) (.int m) (rw'.at_ up fun c m => thaw_in ⟨_, m⟩) q fun z oz g3 s3 r3' qz => ?_
  obtain ⟨ez, rfl, nl, hn⟩ := qz
  have h3 := h2.resC s3 r3' (by simpa using nl)
  obtain ⟨cs3, h3⟩ := h3
  obtain ⟨l', us3, c0, q1, q2, q3, q4⟩ := h3.own e1
  rw [hl] at q1
  obtain rfl : l = l' := by simpa using q1
  have ht := h3.tmp
  generalize hcn : cs3 none = cn at ht
  cases ht with
  | cons rz t =>
    rename_i c1 c2
    obtain ⟨c', r4, cn4⟩ := ROs.set rz j q4 (ixN_lt ej)
    refine ⟨l, us3, n, j, rfl, rfl, q2, by rw [q4.length]; exact ej, k.nx _ _ _ (h3.put (vs' := []) (os' := []) (ct := []) e1 hl q2 q3 r4 .nil fun c => ?_) hn⟩
    have := cn4 c
    rw [hcn]
    simp only [List.count_append, List.count_nil, Nat.add_zero]
    omega
end
def unI : D → Option Int
  | .int i => some i
  | _ => none
theorem Ats.ints_inv {K : PySem.W.Frag} {Z : Zs} {F : Hp} : ∀ {ns : List Int} {vs : List V}, Ats K Z F vs (ns.map D.int) → vs = ns.map V.int
  | [], _, h => by cases h; rfl
  | n :: ns, _, h => by
    cases h with
    | cons a t => rw [a.int_inv, Ats.ints_inv t]; rfl
theorem Ats.bls_inv {K : PySem.W.Frag} {Z : Zs} {F : Hp} : ∀ {ns : List Bool} {vs : List V}, Ats K Z F vs (ns.map D.bl) → vs = ns.map V.bl
  | [], _, h => by cases h; rfl
  | n :: ns, _, h => by
    cases h with
    | cons a t => rw [a.bl_inv, Ats.bls_inv t]; rfl
def sumD : List D → PQ
  | [.lst ds] => fun Q => ∃ ns : List Int, ds = ns.map D.int ∧ Q (.val (.int ns.sum))
  | _ => fun _ => False
def maxLD : List D → PQ
  | [.lst ds] => fun Q => ∃ ns : List Int, ds = ns.map D.int ∧ 0 < ns.length ∧ ∀ m, m ∈ ns → (∀ y, y ∈ ns → y ≤ m) → Q (.val (.int m))
  | _ => fun _ => False
def minLD : List D → PQ
  | [.lst ds] => fun Q => ∃ ns : List Int, ds = ns.map D.int ∧ 0 < ns.length ∧ ∀ m, m ∈ ns → (∀ y, y ∈ ns → m ≤ y) → Q (.val (.int m))
  | _ => fun _ => False
def allD : List D → PQ
  | [.lst ds] => fun Q => ∃ bs : List Bool, ds = bs.map D.bl ∧ Q (.val (.bl (bs.all id)))
  | _ => fun _ => False
def anyD : List D → PQ
  | [.lst ds] => fun Q => ∃ bs : List Bool, ds = bs.map D.bl ∧ Q (.val (.bl (bs.any id)))
  | _ => fun _ => False
def sortedD : List D → PQ
  | [.lst ds] => fun Q => ∃ ns : List Int, ds = ns.map D.int ∧ ∀ ns' : List Int, ns'.Perm ns → ns'.Pairwise (· ≤ ·) → Q (.lst ((ns'.map D.int).map .val))
  | _ => fun _ => False
section
variable {K : PySem.W.Frag}
theorem cd_sum : CallD K (rSum K) sumD := by
  intro g vs ds Qd Q ok ha hw k
  unfold sumD at hw
  split at hw
  · obtain ⟨v, rfl, a⟩ := ha.one_inv
    obtain ⟨p, vs, rfl, hp, as⟩ := a.lst_inv
    obtain ⟨ns, rfl, q⟩ := hw
    rw [as.ints_inv] at hp
    exact ⟨p, ns, rfl, SqL.of (ok.sub _ _ hp), k _ _ g ok.refl (.val (.int _)) q⟩
  · exact hw.elim
theorem cd_maxL : CallD K (rMax K) maxLD := by
  intro g vs ds Qd Q ok ha hw k
  unfold maxLD at hw
  split at hw
  · obtain ⟨v, rfl, a⟩ := ha.one_inv
    obtain ⟨p, vs, rfl, hp, as⟩ := a.lst_inv
    obtain ⟨ns, rfl, l, q⟩ := hw
    rw [as.ints_inv] at hp
    exact ⟨p, ns, rfl, SqL.of (ok.sub _ _ hp), l, fun m h1 h2 => k _ _ g ok.refl (.val (.int _)) (q m h1 h2)⟩
  · exact hw.elim
theorem cd_minL : CallD K (rMin K) minLD := by
  intro g vs ds Qd Q ok ha hw k
  unfold minLD at hw
  split at hw
  · obtain ⟨v, rfl, a⟩ := ha.one_inv
    obtain ⟨p, vs, rfl, hp, as⟩ := a.lst_inv
    obtain ⟨ns, rfl, l, q⟩ := hw
    rw [as.ints_inv] at hp
    exact ⟨p, ns, rfl, SqL.of (ok.sub _ _ hp), l, fun m h1 h2 => k _ _ g ok.refl (.val (.int _)) (q m h1 h2)⟩
  · exact hw.elim
theorem cd_all : CallD K (rAll K) allD := by
  intro g vs ds Qd Q ok ha hw k
  unfold allD at hw
  split at hw
  · obtain ⟨v, rfl, a⟩ := ha.one_inv
    obtain ⟨p, vs, rfl, hp, as⟩ := a.lst_inv
    obtain ⟨ns, rfl, q⟩ := hw
    rw [as.bls_inv] at hp
    exact ⟨p, ns, rfl, SqL.of (ok.sub _ _ hp), k _ _ g ok.refl (.val (.bl _)) q⟩
  · exact hw.elim
theorem cd_any : CallD K (rAny K) anyD := by
  intro g vs ds Qd Q ok ha hw k
  unfold anyD at hw
  split at hw
  · obtain ⟨v, rfl, a⟩ := ha.one_inv
    obtain ⟨p, vs, rfl, hp, as⟩ := a.lst_inv
    obtain ⟨ns, rfl, q⟩ := hw
    rw [as.bls_inv] at hp
    exact ⟨p, ns, rfl, SqL.of (ok.sub _ _ hp), k _ _ g ok.refl (.val (.bl _)) q⟩
  · exact hw.elim
theorem cd_sorted : CallD K (rSortedI K) sortedD := by
  intro g vs ds Qd Q ok ha hw k
  unfold sortedD at hw
  split at hw
  · obtain ⟨v, rfl, a⟩ := ha.one_inv
    obtain ⟨p, vs, rfl, hp, as⟩ := a.lst_inv
    obtain ⟨ns, rfl, q⟩ := hw
    rw [as.ints_inv] at hp
    exact ⟨p, ns, rfl, SqL.of (ok.sub _ _ hp), fun ns' l h1 h2 n => k _ _ _ (Step.laid ok n) (RR.newL ok n (.ints ns')) (q ns' h1 h2)⟩
  · exact hw.elim
end
section
variable {X : Cx} {W : WX} {a b : Expr} {wa wb : WE} {p pos : Pos}
abbrev WR := DEnv → (Int → Int → Prop) → EX → Prop
def LR (X : Cx) (W : WX) (w : WR) : L2.St → Hp → (Int → Int → Hp → Prop) → Prop := fun σ H Q => ∃ (g : Gh) (env : DEnv) (Qd : Int → Int → Prop) (Ed : EX), g.H = H ∧ ES X.K g env σ ∧ w env Qd Ed ∧ (∀ i j g', Step g g' → Qd i j → Q i j g'.H) ∧ XL X W σ g Ed
def DRg (X : Cx) (W : WX) (e : Expr) (w : WR) : Prop := PRg X e (LR X W w)
def intQ (Q : Int → Prop) : D → Prop
  | .int i => Q i
  | _ => False
theorem intQ_inv {Q : Int → Prop} {d : D} (h : intQ Q d) : ∃ i, d = .int i ∧ Q i := by
  unfold intQ at h
  split at h
  · exact ⟨_, rfl, h⟩
  · exact h.elim
def rg1 (wa : WE) : WR := fun env Q E => wa env (fun o => intQ (fun n => Q 0 n) o.d) E
def rg2 (wa wb : WE) : WR := fun env Q E => wa env (fun o => intQ (fun i => wb env (fun u => intQ (fun j => Q i j) u.d) E) o.d) E
theorem prg_imp {e : Expr} {t t' : L2.St → Hp → (Int → Int → Hp → Prop) → Prop} (h : PRg X e t) (i : ∀ σ H Q, t' σ H Q → t σ H Q) : PRg X e t' := fun pins s σ H Q I q => h pins s σ H Q I (i σ H Q q)
theorem dr_1 (hm : X.mg "range" = none) (ha : DE X W a wa) (hg : Gl X "range" := by rfl) (na : starEach [a] X.env = (false, eval a X.env) :: starEach [] X.env := by rfl) : DRg X W (.Call (.Name "range" p) [a] [] pos) (rg1 wa) :=
  prg_imp (prg_1 hg hm ha na) fun σ H Q ⟨g, env, Qd, Ed, eH, es, hw, k, kx⟩ => by
  subst eH
  refine LE.go (R := fun d => intQ (fun n => Qd 0 n) d) es hw (fun v d g1 s1 a1 h1 => ?_) kx
  obtain ⟨n, rfl, q⟩ := intQ_inv h1
  exact ⟨n, a1.int_inv, k 0 n g1 s1 q⟩
theorem dr_2 (hm : X.mg "range" = none) (ha : DE X W a wa) (hb : DE X W b wb) (hg : Gl X "range" := by rfl) (na : starEach [a, b] X.env = (false, eval a X.env) :: starEach [b] X.env := by rfl) (nb : starEach [b] X.env = (false, eval b X.env) :: starEach [] X.env := by rfl)
    (hp : (backTo pos (starEach [b] X.env)).any (·.1) = false := by rfl) : DRg X W (.Call (.Name "range" p) [a, b] [] pos) (rg2 wa wb) :=
  prg_imp (prg_2 hg hm ha hb na nb hp) fun σ H Q ⟨g, env, Qd, Ed, eH, es, hw, k, kx⟩ => by
  subst eH
  refine LE.go (R := fun d => intQ (fun i => wb env (fun u => intQ (fun j => Qd i j) u.d) Ed) d) es hw (fun v d g1 s1 a1 h1 => ?_) kx
  obtain ⟨i, rfl, q⟩ := intQ_inv h1
  refine LE.go (R := fun d => intQ (fun j => Qd i j) d) (es.step s1) q (fun v' d' g2 s2 a2 h2 => ?_) (XL.on kx s1)
  obtain ⟨j, rfl, q⟩ := intQ_inv h2
  exact ⟨i, j, a1.int_inv, a2.int_inv, k i j g2 (s1.trans s2) q⟩
theorem rgV_eq (i j : Int) : ∀ Z F, Ats X.K Z F (rgV i j) (rng i j) := fun Z F => by
  have : rgV i j = ((List.range (j - i).toNat).map fun (k : Nat) => i + (k : Int)).map V.int := by unfold rgV; rw [List.map_map]; rfl
  have e2 : rng i j = ((List.range (j - i).toNat).map fun (k : Nat) => i + (k : Int)).map D.int := by unfold rng; rw [List.map_map]; rfl
  rw [this, e2]
  exact .ints _
def eLstRg (w : WR) : WE := fun env Q E => w env (fun i j => RgOk i j ∧ Q (.lst ((rng i j).map .val))) E
def eTupRg (w : WR) : WE := fun env Q E => w env (fun i j => RgOk i j ∧ Q (.val (.tup (rng i j)))) E
variable {e : Expr} {w : WR}
theorem de_lstRg (hc : X.calm = true) (hm : X.mg "list" = none) (he : DRg X W e w) (hg : Gl X "list" := by rfl) (na : starEach [e] X.env = (false, eval e X.env) :: starEach [] X.env := by rfl) : DE X W (.Call (.Name "list" p) [e] [] pos) (eLstRg w) :=
  pe_imp (pe_listRg hc hg hm he na) fun σ H Q ⟨g, env, Qd, Ed, eH, es, hw, k, kx⟩ => by
  subst eH
  exact ⟨g, env, _, Ed, rfl, es, hw, fun i j g1 s1 q => ⟨q.1, fun l n => k _ _ _ (s1.trans (Step.laid s1.ok n)) ((RR.newL s1.ok n (rgV_eq i j _ _)).back s1) q.2⟩, kx⟩
theorem de_tupRg (hc : X.calm = true) (hm : X.mg "tuple" = none) (he : DRg X W e w) (hg : Gl X "tuple" := by rfl) (na : starEach [e] X.env = (false, eval e X.env) :: starEach [] X.env := by rfl) : DE X W (.Call (.Name "tuple" p) [e] [] pos) (eTupRg w) :=
  pe_imp (pe_tupRgF hc hg hm he na) fun σ H Q ⟨g, env, Qd, Ed, eH, es, hw, k, kx⟩ => by
  subst eH
  exact ⟨g, env, _, Ed, rfl, es, hw, fun i j g1 s1 q => ⟨q.1, fun l ob n hd => k _ _ _ (s1.trans (Step.laidF s1.ok n)) ((RR.newT s1.ok n hd (rgV_eq i j _ _)).back s1) q.2⟩, kx⟩
end
end DL
/-! DZip -/
namespace DL
open PySem PySem.Spec PyProof.Rows L2
open Builtin Builtin.SmallTypes
section
variable {prog : Program} {w : World} {A : Around} {E : Value → Shared → Prop} {s : Shared} {z ti to j1 j2 : Addr} {fa fb : List Addr} {n i : Nat} {Pa Pb : Nat → Value → Prop} {Sa Sb : Nat → Heap → Prop} {u1 u2 : Value}
theorem nxt_item {it : Addr} {fp : List Addr} {Pz : Nat → Value → Prop} {Sz : Nat → Heap → Prop} {Q : Option Value → Shared → Prop} (D : Draws prog w A it fp n Pz Sz) (hi : i < n) (st : Sz i s.heap)
    (h : ∀ x h' tk, Pz i x → Sz (i + 1) h' → Heap.SameBut it s.heap h' → Q (some x) { s with heap := h', toks := tk }) : wpAny (model prog w) A (nextOrEnd (.ref it)) Q E s := by
  unfold nextOrEnd
  exact wpAny_bind (wpAny_attempt (D.item i s _ _ hi st fun x h' tk a b c => wpAny_pure (h x h' tk a b c)))
theorem nxt_end {it : Addr} {fp : List Addr} {Pz : Nat → Value → Prop} {Sz : Nat → Heap → Prop} {Q : Option Value → Shared → Prop} (D : Draws prog w A it fp n Pz Sz) (st : Sz n s.heap)
    (h : ∀ h', Heap.ExtBut it s.heap h' → Q none { s with heap := h' }) : wpAny (model prog w) A (nextOrEnd (.ref it)) Q E s := by
  unfold nextOrEnd
  refine wpAny_bind (wpAny_attempt (D.done s _ _ st fun h' e he hx => ?_))
  obtain ⟨ob, ho, hcl⟩ := hx
  refine wpAny_bind (wpAny_isInstance (T := "StopIteration") (b := true) ⟨ob, ho, hcl⟩ isSubtype_stop ?_)
  exact wpAny_pure (h h' he)
abbrev ZpS (h : Heap) (z ti to : Addr) (f : Value) : Prop := h.get? z = some { cls := .type "zip", dict := none, data := .fields #[f, .bool false, .bool true, .ref ti, .ref to], slots := #[] }
theorem zs_item {Q : Value → Shared → Prop} (S : ZipSep2 z ti to j1 j2 fa fb) (Da : Draws prog w A j1 fa n Pa Sa) (Db : Draws prog w A j2 fb n Pb Sb)
    (hz : ZpS s.heap z ti to .none) (hti : IsTupOf2 s.heap ti (.ref j1) (.ref j2)) (hto : IsTupOf2 s.heap to u1 u2) (sta : Sa i s.heap) (stb : Sb i s.heap) (hi : i < n)
    (hQ : ∀ x y h' tk, Pa i x → Pb i y → ZpS h' z ti to (rawInt s.heap.objs.size) → IsTupOf2 h' to x y → Sa (i + 1) h' → Sb (i + 1) h' → IsTupOf2 h' s.heap.objs.size x y → h'.objs.size = s.heap.objs.size + 1 →
      (∀ b o, b ≠ z → b ≠ to → b ≠ j1 → b ≠ j2 → s.heap.get? b = some o → h'.get? b = some o) → Q (.ref s.heap.objs.size) { s with heap := h', toks := tk }) :
    wpAny (model prog w) A (Builtin.«zip.__next__» ⟨[.ref z], []⟩) (fun r s' => ∃ v, r = .done (.ret v) ∧ Q v s') E s := by
  obtain ⟨hp, gs, dr, t0, os⟩ := s
  have hz : ZpS hp z ti to .none := hz
  show wpAny _ _ (field (.ref z) 2 >>= _) _ _ _
  refine wpAny_bind (wpAny_field hz rfl (x := .bool true) rfl ?_)
  show wpAny _ _ (field (.ref z) 3 >>= _) _ _ _
  refine wpAny_bind (wpAny_field hz rfl (x := .ref ti) rfl ?_)
  refine wpAny_bind (wpAny_seqItems hti rfl ?_)
  show wpAny _ _ (ownedTupleIsFree (.ref z) >>= _) _ _ _
  refine wpAny_bind ?_
  unfold ownedTupleIsFree
  refine wpAny_bind (wpAny_field hz rfl (x := .none) rfl (wpAny_pure ?_))
  simp only [if_true]
  refine wpAny_bind (wpAny_rule ?_)
  refine wpAny_bind (wpAny_field hz rfl (x := .ref to) rfl ?_)
  refine wpAny_bind (wpAny_setField_rec hz (by simp) fun k0 z0 sb0 => ?_)
  have z0 : ZpS k0 z ti to .ellipsis := z0
  have sb0 : Heap.SameBut z hp k0 := sb0
  refine wpAny_bind ?_
  simp only [List.zipIdx_cons, List.zipIdx_nil, List.forIn_cons, List.forIn_nil]
  refine wpAny_bind (wpAny_bind (wpAny_onRaise ?_))
  show wpAny _ _ (nextOrEnd (.ref j1)) _ _ ⟨k0, gs, dr, t0, os⟩
  refine nxt_item Da hi (Da.over sta sb0 S.zf1) fun x k1 t1 px sa1 sb1 => ?_
  have sb1 : Heap.SameBut j1 k0 k1 := sb1
  have to1 : IsTupOf2 k1 to u1 u2 := sb1.extBut _ _ S.Ti1 (sb0.extBut _ _ S.TOz hto)
  refine wpAny_bind (wpAny_seqItems (s := ⟨k1, gs, dr, t1, os⟩) to1 rfl ?_)
  refine wpAny_bind (updateSeq_IsTupOf2 (s := ⟨k1, gs, dr, t1, os⟩) to1 fun k2 to2 sb2 => ?_)
  have to2 : IsTupOf2 k2 to x u2 := to2
  have sb2 : Heap.SameBut to k1 k2 := sb2
  refine wpAny_bind (wpAny_letGo (wpAny_pure ?_))
  refine wpAny_bind (wpAny_bind (wpAny_onRaise ?_))
  show wpAny _ _ (nextOrEnd (.ref j2)) _ _ ⟨k2, gs, dr, t1, os⟩
  refine nxt_item Db hi (Db.over (Db.over (Db.over stb sb0 S.zf2) sb1 S.sep1_2) sb2 S.Tf2) fun y k3 t2 py sb3 sb4 => ?_
  have sb4 : Heap.SameBut j2 k2 k3 := sb4
  have to3 : IsTupOf2 k3 to x u2 := sb4.extBut _ _ S.Ti2 to2
  refine wpAny_bind (wpAny_seqItems (s := ⟨k3, gs, dr, t2, os⟩) to3 rfl ?_)
  refine wpAny_bind (updateSeq_IsTupOf2 (s := ⟨k3, gs, dr, t2, os⟩) to3 fun k4 to4 sb5 => ?_)
  have to4 : IsTupOf2 k4 to x y := to4
  have sb5 : Heap.SameBut to k3 k4 := sb5
  refine wpAny_bind (wpAny_letGo (wpAny_pure (wpAny_pure ?_)))
  refine wpAny_bind (wpAny_seqItems (s := ⟨k4, gs, dr, t2, os⟩) to4 rfl ?_)
  refine wpAny_bind (wpAny_newTuple ?_)
  have sz : k4.objs.size = hp.objs.size := by rw [sb5.1, sb4.1, sb2.1, sb1.1, sb0.1]
  have z4 : ZpS k4 z ti to .ellipsis := sb5.extBut _ _ S.TOz.symm (sb4.extBut _ _ S.zi2 (sb2.extBut _ _ S.TOz.symm (sb1.extBut _ _ S.zi1 z0)))
  have kk : ∀ b o, b ≠ z → b ≠ to → b ≠ j1 → b ≠ j2 → hp.get? b = some o → k4.get? b = some o := fun b o bz bt b1 b2 e =>
    sb5.extBut _ _ bt (sb4.extBut _ _ b2 (sb2.extBut _ _ bt (sb1.extBut _ _ b1 (sb0.extBut _ _ bz e))))
  have fa4 : Sa (i + 1) k4 := Da.over (Da.over (Da.over sa1 sb2 S.Tf1) sb4 S.sep2_1) sb5 S.Tf1
  have fb4 : Sb (i + 1) k4 := Db.over sb3 sb5 S.Tf2
  have zl : z < k4.objs.size := Heap.lt_size z4
  show wpAny _ _ (ownedTupleHandOut (.ref z) (.ref k4.objs.size) >>= _) _ _ ⟨k4.push { cls := .type "tuple", data := .seq #[x, y] }, gs, dr, t2, os⟩
  refine wpAny_bind ?_
  unfold ownedTupleHandOut
  have z5 : ZpS (k4.push { cls := .type "tuple", data := .seq #[x, y] }) z ti to .ellipsis := Heap.get?_push_of_some _ z4
  refine wpAny_bind (wpAny_setField_rec z5 (by simp) fun k5 z6 sb6 => ?_)
  have z6 : ZpS k5 z ti to (rawInt k4.objs.size) := z6
  refine wpAny_setField_rec z6 (by simp) fun k6 z7 sb7 => ?_
  have z7 : ZpS k6 z ti to (rawInt k4.objs.size) := z7
  have sb6 : Heap.SameBut z (k4.push { cls := .type "tuple", data := .seq #[x, y] }) k5 := sb6
  have sb7 : Heap.SameBut z k5 k6 := sb7
  have up : ∀ b o, b ≠ z → k4.get? b = some o → k6.get? b = some o := fun b o bz e => sb7.extBut _ _ bz (sb6.extBut _ _ bz (Heap.get?_push_of_some _ e))
  have tn : IsTupOf2 k6 k4.objs.size x y := sb7.extBut _ _ (Nat.ne_of_gt zl) (sb6.extBut _ _ (Nat.ne_of_gt zl) (Heap.get?_push_size _ rfl))
  have sz6 : k6.objs.size = k4.objs.size + 1 := by rw [sb7.1, sb6.1, Heap.size_push]
  rw [sz] at z7 tn sz6
  refine wpAny_pure ⟨_, rfl, ?_⟩
  show Q (.ref k4.objs.size) ⟨k6, gs, dr, t2, os⟩
  rw [sz]
  exact hQ x y k6 t2 px py z7 (up _ _ S.TOz to4) (Da.frame _ _ _ fa4 fun b m o e => up b o (fun q => S.zf1 (q ▸ m)) e) (Db.frame _ _ _ fb4 fun b m o e => up b o (fun q => S.zf2 (q ▸ m)) e) tn sz6 fun b o bz bt b1 b2 e => up b o bz (kk b o bz bt b1 b2 e)
theorem stop_it {α : Type} {Q : α → Shared → Prop} (hh : A.handled = none) (h : ∀ h' e, (∀ b o, s.heap.get? b = some o → h'.get? b = some o) → (∃ o, h'.get? e = some o ∧ o.cls = .type "StopIteration") → E (.ref e) { s with heap := h' }) :
    wpAny (model prog w) A (stopIteration : Sem α) Q E s := by
  unfold stopIteration
  refine wpAny_bind ?_
  simp only [newExc, newTuple]
  refine wpAny_bind (wpAny_newObj_type ?_ (by size_fits))
  refine wpAny_bind (m := firstArgMember _ _) (wpAny_of_eq (a := Value.none) (by first | rfl | (simp only [firstArgMember]; rfl)) ?_)
  refine wpAny_newObj_type ?_ (by size_fits)
  simp only [raiseNew]
  refine wpAny_bind (wpAny_handled ?_)
  rw [hh]
  refine wpAny_bind (wpAny_pure (wpAny_throw ?_))
  exact h _ _ (fun b o e => Heap.get?_push_of_some _ (Heap.get?_push_of_some _ e)) ⟨_, Heap.get?_push_size _ rfl, rfl⟩
theorem zs_end {Q : Fin → Shared → Prop} (hh : A.handled = none) (S : ZipSep2 z ti to j1 j2 fa fb) (Da : Draws prog w A j1 fa n Pa Sa) (Db : Draws prog w A j2 fb n Pb Sb)
    (hz : ZpS s.heap z ti to .none) (hti : IsTupOf2 s.heap ti (.ref j1) (.ref j2)) (hto : IsTupOf2 s.heap to u1 u2) (sta : Sa n s.heap) (stb : Sb n s.heap)
    (hE : ∀ h' e, (∀ b o, b ≠ z → b ≠ to → b ≠ j1 → b ≠ j2 → s.heap.get? b = some o → h'.get? b = some o) → (∃ o, h'.get? e = some o ∧ o.cls = .type "StopIteration") → E (.ref e) { s with heap := h' }) :
    wpAny (model prog w) A (Builtin.«zip.__next__» ⟨[.ref z], []⟩) Q E s := by
  obtain ⟨hp, gs, dr, t0, os⟩ := s
  have hz : ZpS hp z ti to .none := hz
  show wpAny _ _ (field (.ref z) 2 >>= _) _ _ _
  refine wpAny_bind (wpAny_field hz rfl (x := .bool true) rfl ?_)
  show wpAny _ _ (field (.ref z) 3 >>= _) _ _ _
  refine wpAny_bind (wpAny_field hz rfl (x := .ref ti) rfl ?_)
  refine wpAny_bind (wpAny_seqItems hti rfl ?_)
  show wpAny _ _ (ownedTupleIsFree (.ref z) >>= _) _ _ _
  refine wpAny_bind ?_
  unfold ownedTupleIsFree
  refine wpAny_bind (wpAny_field hz rfl (x := .none) rfl (wpAny_pure ?_))
  simp only [if_true]
  refine wpAny_bind (wpAny_rule ?_)
  refine wpAny_bind (wpAny_field hz rfl (x := .ref to) rfl ?_)
  refine wpAny_bind (wpAny_setField_rec hz (by simp) fun k0 z0 sb0 => ?_)
  have z0 : ZpS k0 z ti to .ellipsis := z0
  have sb0 : Heap.SameBut z hp k0 := sb0
  refine wpAny_bind ?_
  simp only [List.zipIdx_cons, List.zipIdx_nil, List.forIn_cons, List.forIn_nil]
  refine wpAny_bind (wpAny_bind (wpAny_onRaise ?_))
  show wpAny _ _ (nextOrEnd (.ref j1)) _ _ ⟨k0, gs, dr, t0, os⟩
  refine nxt_end Da (Da.over sta sb0 S.zf1) fun k1 sb1 => ?_
  have sb1 : Heap.ExtBut j1 k0 k1 := sb1
  have z1 : ZpS k1 z ti to .ellipsis := sb1 _ _ S.zi1 z0
  refine wpAny_bind (wpAny_setField_rec (s := ⟨k1, gs, dr, t0, os⟩) z1 (by simp) fun k2 z2 sb2 => ?_)
  have sb2 : Heap.SameBut z k1 k2 := sb2
  refine wpAny_bind ?_
  show wpAny (model prog w) A (forIn [((Value.ref j2), (1 : Nat))] PUnit.unit _ >>= _) _ _ ⟨k2, gs, dr, t0, os⟩
  refine wpAny_bind ?_
  simp only [List.forIn_cons, List.forIn_nil]
  have ext2 : ∀ b o, b ≠ z → b ≠ j1 → hp.get? b = some o → k2.get? b = some o := fun b o bz b1 e => sb2.extBut _ _ bz (sb1 _ _ b1 (sb0.extBut _ _ bz e))
  have stb2 : Sb n k2 := Db.frame _ _ _ stb fun b m o e => ext2 b o (fun q => S.zf2 (q ▸ m)) (fun q => S.sep1_2 (q ▸ m)) e
  refine wpAny_bind (wpAny_bind (nxt_end (s := ⟨k2, gs, dr, t0, os⟩) Db stb2 fun k3 sb3 => ?_))
  have sb3 : Heap.ExtBut j2 k2 k3 := sb3
  simp only [Option.isSome_none, Bool.false_eq_true, if_false]
  refine wpAny_pure (wpAny_pure (wpAny_bind (wpAny_rule (stop_it hh fun k4 e up ho => ?_))))
  exact hE k4 e (fun b o bz bt b1 b2 x => up b o (sb3 _ _ b2 (ext2 b o bz b1 x))) ho
theorem next_zs_item {Q : Option Value → Shared → Prop} (S : ZipSep2 z ti to j1 j2 fa fb) (Da : Draws prog w A.in1 j1 fa n Pa Sa) (Db : Draws prog w A.in1 j2 fb n Pb Sb)
    (hz : ZpS s.heap z ti to .none) (hti : IsTupOf2 s.heap ti (.ref j1) (.ref j2)) (hto : IsTupOf2 s.heap to u1 u2) (sta : Sa i s.heap) (stb : Sb i s.heap) (hi : i < n)
    (hQ : ∀ x y h' tk, Pa i x → Pb i y → ZpS h' z ti to (rawInt s.heap.objs.size) → IsTupOf2 h' to x y → Sa (i + 1) h' → Sb (i + 1) h' → IsTupOf2 h' s.heap.objs.size x y → h'.objs.size = s.heap.objs.size + 1 →
      (∀ b o, b ≠ z → b ≠ to → b ≠ j1 → b ≠ j2 → s.heap.get? b = some o → h'.get? b = some o) → Q (some (.ref s.heap.objs.size)) { s with heap := h', toks := tk }) :
    wpAny (model prog w) A (pyNext (.ref z)) Q E s := by
  have tz : s.TypeIs (.ref z) "zip" := ⟨_, hz, rfl⟩
  unfold pyNext
  exact wpAny_bind (wpAny_attempt (wpAny_callSpecial?_slot (name := Str.ofString "__next__") tz F.slot_zip_next (wpAny_call_entry F.slot_zip_next tz F.entry_zip_next
    (zs_item S Da Db hz hti hto sta stb hi fun x y h' tk a b c d e f g h i => wpAny_pure (hQ x y h' tk a b c d e f g h i)) (F.args_zip_next_1 _))))
theorem next_zs_end {Q : Option Value → Shared → Prop} (hh : A.handled = none) (S : ZipSep2 z ti to j1 j2 fa fb) (Da : Draws prog w A.in1 j1 fa n Pa Sa) (Db : Draws prog w A.in1 j2 fb n Pb Sb)
    (hz : ZpS s.heap z ti to .none) (hti : IsTupOf2 s.heap ti (.ref j1) (.ref j2)) (hto : IsTupOf2 s.heap to u1 u2) (sta : Sa n s.heap) (stb : Sb n s.heap)
    (hQ : ∀ h', (∀ b o, b ≠ z → b ≠ to → b ≠ j1 → b ≠ j2 → s.heap.get? b = some o → h'.get? b = some o) → Q none { s with heap := h' }) : wpAny (model prog w) A (pyNext (.ref z)) Q E s := by
  have tz : s.TypeIs (.ref z) "zip" := ⟨_, hz, rfl⟩
  unfold pyNext
  refine wpAny_bind (wpAny_attempt (wpAny_callSpecial?_slot (name := Str.ofString "__next__") tz F.slot_zip_next (wpAny_call_entry F.slot_zip_next tz F.entry_zip_next
    (zs_end (A := A.in1) hh S Da Db hz hti hto sta stb fun h' e up he => ?_) (F.args_zip_next_1 _))))
  obtain ⟨o, ho, hc⟩ := he
  refine wpAny_bind (wpAny_isInstance (T := "StopIteration") (b := true) ⟨o, ho, hc⟩ isSubtype_stop ?_)
  exact wpAny_pure (hQ _ up)
abbrev zsH (h : Heap) (o1 o2 : Obj) : Heap := (((((h.push o1).push o2).push { cls := .type "tuple", data := .seq #[.ref h.objs.size, .ref (h.push o1).objs.size] }).push { cls := .type "tuple", data := .seq #[.none, .none] }).push
  { cls := .type "zip", data := .fields #[.none, .bool false, .bool true, .ref ((h.push o1).push o2).objs.size, .ref (((h.push o1).push o2).push { cls := .type "tuple", data := .seq #[.ref h.objs.size, .ref (h.push o1).objs.size] }).objs.size] })
end
theorem meets_zs {v1 v2 : Value} {o1 o2 : Obj} {H1 H2 : Heap → Prop} (B1 : Begins v1 o1 H1) (B2 : Begins v2 o2 H2) (kb : Tok) :
    Meets (Builtin.«zip.__new__» ⟨[.type "zip", v1, v2], [("strict", .bool true)]⟩) (fun _ R s => H1 s.heap ∧ H2 s.heap ∧
      R (.ok (.ret (.ref ((((s.heap.push o1).push o2).push { cls := .type "tuple", data := .seq #[.ref s.heap.objs.size, .ref (s.heap.push o1).objs.size] }).push { cls := .type "tuple", data := .seq #[.none, .none] }).objs.size))) { s with heap := zsH s.heap o1 o2 }) :=
  .of_wp fun prog w A R s h => by
    obtain ⟨hp, g, d, tk, os⟩ := s
    obtain ⟨h1, h2, h⟩ := h
    have hsub := sub_zip
    have q1 : ∀ {A' : Around} {E : Value → Shared → Prop} {Q : Value → Shared → Prop}, Q (.ref hp.objs.size) ⟨hp.push o1, g, d, tk, os⟩ → wpAny (model prog w) A' (pyIter v1) Q E ⟨hp, g, d, tk, os⟩ :=
      fun q => B1.iter prog w _ _ ⟨hp, g, d, tk, os⟩ _ h1 q
    have q2 : ∀ {A' : Around} {E : Value → Shared → Prop} {Q : Value → Shared → Prop}, Q (.ref (hp.push o1).objs.size) ⟨(hp.push o1).push o2, g, d, tk, os⟩ → wpAny (model prog w) A' (pyIter v2) Q E ⟨hp.push o1, g, d, tk, os⟩ :=
      fun q => B2.iter prog w _ _ ⟨hp.push o1, g, d, tk, os⟩ _ (B2.keeps _ _ h2 fun b o e => Heap.get?_push_of_some _ e) q
    wp_walk using q1, q2
    exact ⟨_, rfl, h⟩
theorem tc_zs (a b c : Value) : checkTypeCall "zip" ⟨[a, b], [("strict", c)]⟩ = pure () := by kernel_rfl
theorem nc_zs (a b c : Value) : checkBuiltinCall "zip.__new__" ⟨[.type "zip", a, b], [("strict", c)]⟩ = pure () := by kernel_rfl
theorem ao_zs (o a b c : Value) : argsOk "object.__init__" ⟨[o, a, b], [("strict", c)]⟩ := by unfold argsOk; kernel_rfl
section
variable {prog : Program} {w : World} {A : Around} {E : Value → Shared → Prop} {s : Shared}
theorem call_zs {v1 v2 : Value} {o1 o2 : Obj} {H1 H2 : Heap → Prop} {Q : Value → Shared → Prop} (B1 : Begins v1 o1 H1) (B2 : Begins v2 o2 H2) (h1 : H1 s.heap) (h2 : H2 s.heap)
    (h : ∀ h', ZpS h' (s.heap.objs.size + 4) (s.heap.objs.size + 2) (s.heap.objs.size + 3) .none → IsTupOf2 h' (s.heap.objs.size + 2) (.ref s.heap.objs.size) (.ref (s.heap.objs.size + 1)) → IsTupOf2 h' (s.heap.objs.size + 3) .none .none →
      h'.get? s.heap.objs.size = some o1 → h'.get? (s.heap.objs.size + 1) = some o2 → (∀ b o, s.heap.get? b = some o → h'.get? b = some o) → Q (.ref (s.heap.objs.size + 4)) { s with heap := h' }) :
    wpAny (model prog w) A (call (.type "zip") [v1, v2] [("strict", .bool true)]) Q E s := by
  refine callType_newKw F.called_zip (by decide) (tc_zs _ _ _) (nc_zs _ _ _) (fun o => ao_zs o _ _ _) F.entry_zip_new (meets_zs B1 B2 0) ⟨h1, h2, ?_⟩
  have a1 : (s.heap.push o1).objs.size = s.heap.objs.size + 1 := Heap.size_push ..
  generalize hA : s.heap.push o1 = hpA at a1
  have a2 : (hpA.push o2).objs.size = s.heap.objs.size + 2 := by rw [Heap.size_push, a1]
  generalize hB : hpA.push o2 = hpB at a2
  have g1 : hpB.get? s.heap.objs.size = some o1 := by rw [← hB]; exact Heap.get?_push_of_some _ (by rw [← hA]; exact Heap.get?_push_size _ B1.free)
  have g2 : hpB.get? (s.heap.objs.size + 1) = some o2 := by rw [← hB, ← a1]; exact Heap.get?_push_size _ B2.free
  have g0 : ∀ b o, s.heap.get? b = some o → hpB.get? b = some o := fun b o e => by rw [← hB, ← hA]; exact Heap.get?_push_of_some _ (Heap.get?_push_of_some _ e)
  have a3 : (hpB.push { cls := .type "tuple", data := .seq #[.ref s.heap.objs.size, .ref hpA.objs.size] }).objs.size = s.heap.objs.size + 3 := by rw [Heap.size_push, a2]
  have g3 : (hpB.push { cls := .type "tuple", data := .seq #[.ref s.heap.objs.size, .ref hpA.objs.size] }).get? (s.heap.objs.size + 2) = some { cls := .type "tuple", data := .seq #[.ref s.heap.objs.size, .ref hpA.objs.size] } := by
    rw [← a2]; exact Heap.get?_push_size _ rfl
  have g0' : ∀ b o, hpB.get? b = some o → (hpB.push { cls := .type "tuple", data := .seq #[.ref s.heap.objs.size, .ref hpA.objs.size] }).get? b = some o := fun b o e => Heap.get?_push_of_some _ e
  show _ ∧ _
  unfold zsH
  rw [hA, hB]
  generalize hpB.push { cls := .type "tuple", data := .seq #[.ref s.heap.objs.size, .ref hpA.objs.size] } = hpC at a3 g3 g0'
  have a4 : (hpC.push { cls := .type "tuple", data := .seq #[.none, .none] }).objs.size = s.heap.objs.size + 4 := by rw [Heap.size_push, a3]
  have g4 : (hpC.push { cls := .type "tuple", data := .seq #[.none, .none] }).get? (s.heap.objs.size + 3) = some { cls := .type "tuple", data := .seq #[.none, .none] } := by rw [← a3]; exact Heap.get?_push_size _ rfl
  have g0'' : ∀ b o, hpC.get? b = some o → (hpC.push { cls := .type "tuple", data := .seq #[.none, .none] }).get? b = some o := fun b o e => Heap.get?_push_of_some _ e
  rw [a2, a3]
  generalize hpC.push { cls := .type "tuple", data := .seq #[.none, .none] } = hpD at a4 g4 g0''
  have g5 := Heap.get?_push_size hpD (o := { cls := .type "zip", data := .fields #[.none, .bool false, .bool true, .ref (s.heap.objs.size + 2), .ref (s.heap.objs.size + 3)] }) rfl
  rw [a4] at g5 ⊢
  rw [a1] at g3
  refine ⟨⟨_, g5, rfl⟩, h _ g5 (Heap.get?_push_of_some _ (g0'' _ _ g3)) (Heap.get?_push_of_some _ g4) (Heap.get?_push_of_some _ (g0'' _ _ (g0' _ _ g1))) (Heap.get?_push_of_some _ (g0'' _ _ (g0' _ _ g2))) fun b o e => Heap.get?_push_of_some _ (g0'' _ _ (g0' _ _ (g0 _ _ e)))⟩
theorem letGo_zs {elts : List Expr} {kk : Nat} {pos : Pos} {z ti to p : Addr} {Q : Unit → Shared → Prop} (hz : ZpS s.heap z ti to (rawInt p)) (h : ∀ h', ZpS h' z ti to .none → Heap.SameBut z s.heap h' → Q () { s with heap := h' }) :
    wpAny (model prog w) A (letOwnedTupleGo (.Tuple elts kk pos) (.ref z) (.ref p)) Q E s := by
  unfold letOwnedTupleGo
  refine wpAny_bind (wpAny_load hz ?_)
  have here : (["enumerate", "zip", "dict_itemiterator", "dict_reverseitemiterator", "odict_iterator", "itertools.zip_longest", "itertools.pairwise"].contains "zip" && (#[rawInt p, .bool false, .bool true, .ref ti, .ref to] : Array Value)[0]? == some (rawInt p)) = true := by simp
  refine Eq.mpr (congrArg (fun m => wpAny (model prog w) A m Q E s) (if_pos here)) ?_
  refine wpAny_bind (wpAny_rule ?_)
  exact wpAny_setField_rec (k := 0) (x := .none) hz (by simp) fun h' hz' sb => h h' hz' sb
theorem iter_zs {z ti to : Addr} {f0 : Value} {Q : Value → Shared → Prop} (hz : ZpS s.heap z ti to f0) (h : Q (.ref z) s) : wpAny (model prog w) A (pyIter (.ref z)) Q E s := by
  have tz : s.TypeIs (.ref z) "zip" := ⟨_, hz, rfl⟩
  refine wpAny_pyIter_slot tz F.slot_zip_iter (wpAny_call_entry F.slot_zip_iter tz F.entry_zip_iter ?_ (F.args_zip_iter_1 _))
  exact wpAny_pure (a := Fin.done (.ret (.ref z))) ⟨_, rfl, "zip", _, tz, F.slot_zip_next.lookup, h⟩
end
def SqB (t : Bool) (K : PySem.W.Frag) (H : Hp) (a : Addr) (xs : List V) : Prop := match t with
  | true => SqL K H a xs
  | false => SqT K H a xs
def ItB (t : Bool) (h : Heap) (it a : Addr) (i : Nat) : Prop := match t with
  | true => h.IsListIter it a i
  | false => h.IsTupleIter it a i
def SeqB (t : Bool) (h : Heap) (a : Addr) (items : Array Value) : Prop := match t with
  | true => h.IsList a items
  | false => h.IsTuple a items
def iterO (t : Bool) (a : Addr) : Obj := match t with
  | true => { cls := .type "list_iterator", data := .fields #[.ref a, .int 0 0] }
  | false => { cls := .type "tuple_iterator", data := .fields #[.ref a, .int 0 0] }
theorem beginsB (t : Bool) (a : Addr) (items : Array Value) : Begins (.ref a) (iterO t a) fun h => SeqB t h a items := match t with
  | true => begins_list a items
  | false => begins_tuple a items
theorem ItB.new {t : Bool} {h : Heap} {it a : Addr} (e : h.get? it = some (iterO t a)) : ItB t h it a 0 := match t with
  | true => ⟨_, e, rfl, rfl⟩
  | false => ⟨_, e, rfl, rfl⟩
theorem ItB.at_ {t : Bool} {h h' : Heap} {it a : Addr} {i : Nat} (x : ItB t h it a i) (k : ∀ o, h.get? it = some o → h'.get? it = some o) : ItB t h' it a i := match t, x with
  | true, x => Heap.IsListIter.at x k
  | false, x => Heap.IsTupleIter.at x k
theorem SeqB.at_ {t : Bool} {h h' : Heap} {a : Addr} {items : Array Value} (x : SeqB t h a items) (k : ∀ o, h.get? a = some o → h'.get? a = some o) : SeqB t h' a items := match t, x with
  | true, x => Heap.IsList.at x k
  | false, x => Heap.IsTuple.at x k
theorem ItB.there {t : Bool} {h : Heap} {it a : Addr} {i : Nat} (x : ItB t h it a i) : ∃ o, h.get? it = some o ∧ ∃ vs, o.data = .fields vs := match t, x with
  | true, ⟨o, e, _, d⟩ => ⟨o, e, _, d⟩
  | false, ⟨o, e, _, d⟩ => ⟨o, e, _, d⟩
theorem SeqB.there {t : Bool} {h : Heap} {a : Addr} {items : Array Value} (x : SeqB t h a items) : ∃ o n, h.get? a = some o ∧ o.data = .seq items n := match t, x with
  | true, x => let ⟨o, e, _, n, d⟩ := x; ⟨o, n, e, d⟩
  | false, x => let ⟨o, e, _, n, d⟩ := x; ⟨o, n, e, d⟩
theorem seq_ne_it {t u : Bool} {h : Heap} {a it b : Addr} {i : Nat} {items : Array Value} (x : SeqB t h a items) (y : ItB u h it b i) : a ≠ it := fun q => by
  obtain ⟨o, n, e, d⟩ := x.there
  obtain ⟨o', e', vs, d'⟩ := y.there
  rw [q, e'] at e
  cases e
  rw [d] at d'
  cases d'
section
variable {prog : Program} {w : World} {A : Around}
theorem drawsB (t : Bool) (hh : A.handled = none) (it a : Addr) (hne : a ≠ it) (items : Array Value) : Draws prog w A it [it, a] items.size (fun i v => items[i]? = some v) (fun i h => ItB t h it a i ∧ SeqB t h a items) := match t with
  | true => Draws.list hh it a hne items
  | false => Draws.tuple hh it a hne items
/-- at the end -/
theorem drawsE (t : Bool) (hh : A.handled = none) (it a : Addr) (items : Array Value) (n : Nat) (hn : items[n]? = none) : Draws prog w A it [it, a] n (fun _ _ => False) (fun j h => ItB t h it a j ∧ SeqB t h a items ∧ j = n) where
  live := fun _ _ st => let ⟨o, e, _⟩ := st.1.there; ⟨o, e⟩
  frame := fun _ _ _ st k => ⟨st.1.at_ fun o q => k it (by simp) o q, st.2.1.at_ fun o q => k a (by simp) o q, st.2.2⟩
  item := fun j s Q E hj st _ => absurd st.2.2 (Nat.ne_of_lt hj)
  done := fun s Q E st hE => match t, st with
    | true, st => wpAny_nextOf_list_end hh st.1 st.2.1 hn hE
    | false, st => wpAny_nextOf_tuple_end hh st.1 st.2.1 hn hE
end
section
variable {X : Cx} {pins : List (Addr × Obj)} {σ : L2.St} {H : Hp} {s : Shared}
theorem Inv.seqB {t : Bool} {a : Addr} {xs : List V} (I : L2.Inv X pins σ H s) (h : SqB t X.K H a xs) : ∃ its : List Value, Vals xs its ∧ SeqB t s.heap a its.toArray := by
  cases t with
  | true =>
    obtain ⟨its, r, p, _⟩ := I.list h
    exact ⟨its, r, p.isList⟩
  | false =>
    obtain ⟨its, r, p, _⟩ := I.tuple h
    exact ⟨its, r, p⟩
theorem Inv.seqB_inj {t : Bool} {a : Addr} {xs ys : List V} (I : L2.Inv X pins σ H s) (h : SqB t X.K H a xs) (h' : SqB t X.K H a ys) : xs = ys := by
  cases t with
  | true => exact I.list_inj h h'
  | false => exact I.tuple_inj h h'
end
/-- both as they stand at each turn, the items in new pairs -/
def Itzs (K : PySem.W.Frag) (t u : Bool) (a b : Addr) : It :=
  ⟨fun i H => ∃ (xs ys : List V) (x y : V), SqB t K H a xs ∧ SqB u K H b ys ∧ xs.length = ys.length ∧ xs[i]? = some x ∧ ys[i]? = some y,
    fun i H v H' => ∃ q ob x y, v = .ref q ∧ H q = none ∧ ob.dict = none ∧ H' = upd H q (.frz ob (.tup [x, y])) ∧ (∀ xs, SqB t K H a xs → xs[i]? = some x) ∧ ∀ ys, SqB u K H b ys → ys[i]? = some y,
    fun i H => ∃ xs ys : List V, SqB t K H a xs ∧ SqB u K H b ys ∧ xs.length ≤ i ∧ ys.length ≤ i⟩
theorem turn_zs {P : Program} {w : World} {K : PySem.W.Frag} {elts : List Expr} {kk : Nat} {tpos : Pos} {t u : Bool} {a b z ti to j1 j2 : Addr} (S : ZipSep2 z ti to j1 j2 [j1, a] [j2, b]) :
    Turn P w K (.Tuple elts kk tpos) (Itzs K t u a b) [z, ti, to, j1, j2] z (fun i h => ZpS h z ti to .none ∧ IsTupOf2 h ti (.ref j1) (.ref j2) ∧ (∃ x y, IsTupOf2 h to x y) ∧ ItB t h j1 a i ∧ ItB u h j2 b i) where
  mem := by simp
  obj := fun i h st c hc => by
    obtain ⟨hz, hti, ⟨x, y, hto⟩, h1, h2⟩ := st
    obtain ⟨o1, e1, v1, d1⟩ := h1.there
    obtain ⟨o2, e2, v2, d2⟩ := h2.there
    simp only [List.mem_cons, List.mem_nil_iff, or_false] at hc
    rcases hc with rfl | rfl | rfl | rfl | rfl
    · exact ⟨_, hz, fun v q => nomatch q⟩
    · exact ⟨_, hti, fun v q => nomatch q⟩
    · exact ⟨_, hto, fun v q => nomatch q⟩
    · exact ⟨o1, e1, fun v q => by rw [d1] at q; cases q⟩
    · exact ⟨o2, e2, fun v q => by rw [d2] at q; cases q⟩
  keep := fun i h h' st k => by
    obtain ⟨hz, hti, ⟨x, y, hto⟩, h1, h2⟩ := st
    exact ⟨k z (by simp) _ hz, k ti (by simp) _ hti, ⟨x, y, k to (by simp) _ hto⟩, h1.at_ fun o q => k j1 (by simp) o q, h2.at_ fun o q => k j2 (by simp) o q⟩
  item := by
    intro X hP hw hK hc i pins s σ H E I hf st hg
    subst hP hw hK
    obtain ⟨hz, hti, ⟨x0, y0, hto⟩, h1, h2⟩ := st
    obtain ⟨xs, ys, x, y, hqx, hqy, hlen, hx, hy⟩ := hg
    obtain ⟨its, rv, p1⟩ := Inv.seqB I hqx
    obtain ⟨its2, rv2, p2⟩ := Inv.seqB I hqy
    obtain ⟨u1, hu, ru⟩ := rv.get hx
    obtain ⟨u2, hu2, ru2⟩ := rv2.get hy
    have l1 := rv.length
    have l2 := rv2.length
    have hzl : z < s.heap.objs.size := Heap.lt_size hz
    have hi : i < its.toArray.size := by
      have := (List.getElem?_eq_some_iff.mp hu).1
      simpa using this
    have Da := drawsB (prog := X.prog) (w := X.w) (A := X.A.in1) t (I.ok.hd hc) j1 a (seq_ne_it p1 h1) its.toArray
    have Db := drawsB (prog := X.prog) (w := X.w) (A := X.A.in1) u (I.ok.hd hc) j2 b (seq_ne_it p2 h2) its2.toArray
    have es : its2.toArray.size = its.toArray.size := by simp; omega
    rw [es] at Db
    refine next_zs_item S Da Db hz hti hto ⟨h1, p1⟩ ⟨h2, p2⟩ hi fun v1 v2 h' tk q1 q2 z' to' sa sb pr hsz hk => ?_
    obtain rfl : v1 = u1 := by
      have q1 : its.toArray[i]? = some v1 := q1
      rw [List.getElem?_toArray, hu] at q1
      exact (Option.some.inj q1).symm
    obtain rfl : v2 = u2 := by
      have q2 : its2.toArray[i]? = some v2 := q2
      rw [List.getElem?_toArray, hu2] at q2
      exact (Option.some.inj q2).symm
    refine ⟨_, rfl, letGo_zs (s := { s with heap := h', toks := tk }) z' fun h'' z'' sbz => ?_⟩
    have hp2 : h''.get? s.heap.objs.size = some { cls := .type "tuple", data := .seq #[v1, v2] } := (sbz.2 _ (Nat.ne_of_gt hzl)).trans pr
    have new : ObjOk X.prog X.w (upd H s.heap.objs.size (.frz { cls := .type "tuple", data := .seq #[v1, v2] } (.tup [x, y]))) h'' s.heap.objs.size (.frz { cls := .type "tuple", data := .seq #[v1, v2] } (.tup [x, y])) :=
      ⟨hp2, by show 2 ≤ sizeLine; decide, [v1, v2], .cons ru (.cons ru2 .nil), ⟨_, hp2, rfl, _, rfl⟩⟩
    have hk2 : ∀ c o, c ∉ [z, ti, to, j1, j2] → s.heap.get? c = some o → h''.get? c = some o := fun c o m q => by
      simp only [List.mem_cons, List.mem_nil_iff, or_false, not_or] at m
      exact (sbz.2 c m.1).trans (hk c o m.1 m.2.2.1 m.2.2.2.1 m.2.2.2.2 q)
    have I1 : L2.Inv X pins σ (upd H s.heap.objs.size (.frz { cls := .type "tuple", data := .seq #[v1, v2] } (.tup [x, y]))) { s with heap := h'', toks := tk } := I.turnedNew (t' := tk) (ch := [z, ti, to, j1, j2]) hk2 hf (Nat.le_refl _) new
    refine ⟨.ref s.heap.objs.size, _, I1, rfl, ⟨_, _, x, y, rfl, I.hok.fresh (Nat.le_refl _), rfl, rfl, fun l hl => by rw [Inv.seqB_inj I hl hqx]; exact hx, fun l hl => by rw [Inv.seqB_inj I hl hqy]; exact hy⟩, ⟨z'', ?_, ⟨v1, v2, ?_⟩, ?_, ?_⟩, fun c hcm => ?_⟩
    · exact (sbz.2 _ S.TIz).trans (hk _ _ S.TIz S.TITO S.TIi1 S.TIi2 hti)
    · exact (sbz.2 _ S.TOz).trans to'
    · exact sa.1.at_ fun o q => (sbz.2 _ S.zi1.symm).trans q
    · exact sb.1.at_ fun o q => (sbz.2 _ S.zi2.symm).trans q
    · obtain ⟨o1, e1, _⟩ := h1.there
      obtain ⟨o2, e2, _⟩ := h2.there
      have hlt : c < s.heap.objs.size := by
        simp only [List.mem_cons, List.mem_nil_iff, or_false] at hcm
        rcases hcm with rfl | rfl | rfl | rfl | rfl
        · exact hzl
        · exact Heap.lt_size hti
        · exact Heap.lt_size hto
        · exact Heap.lt_size e1
        · exact Heap.lt_size e2
      rw [upd_ne (Nat.ne_of_lt hlt)]
      exact (hf c hcm).1
  done := by
    intro X hP hw hK hc i pins s σ H E I hf st hg
    subst hP hw hK
    obtain ⟨hz, hti, ⟨x0, y0, hto⟩, h1, h2⟩ := st
    obtain ⟨xs, ys, hqx, hqy, hx, hy⟩ := hg
    obtain ⟨its, rv, p1⟩ := Inv.seqB I hqx
    obtain ⟨its2, rv2, p2⟩ := Inv.seqB I hqy
    have l1 := rv.length
    have l2 := rv2.length
    have Da := drawsE (prog := X.prog) (w := X.w) (A := X.A.in1) t (I.ok.hd hc) j1 a its.toArray i (by simp; omega)
    have Db := drawsE (prog := X.prog) (w := X.w) (A := X.A.in1) u (I.ok.hd hc) j2 b its2.toArray i (by simp; omega)
    refine next_zs_end (I.ok.hd hc) S Da Db hz hti hto ⟨h1, p1, rfl⟩ ⟨h2, p2, rfl⟩ fun h' hk => ⟨rfl, I.turnedL (t' := s.toks) (ch := [z, ti, to, j1, j2]) (fun c o m q => ?_) hf⟩
    simp only [List.mem_cons, List.mem_nil_iff, or_false, not_or] at m
    exact hk c o m.1 m.2.2.1 m.2.2.2.1 m.2.2.2.2 q
  self := fun A i s Q E st h => iter_zs st.1 h
section
variable {M : Model} {A : Around} {E : Value → Shared → Prop} {s : Shared} {env : Env}
theorem cw_type_kw {pos : Pos} {T : String} {e : Expr} {rest : List Expr} {kws : List Keyword} {Q : Value → Shared → Prop}
    (h : wpAny M A (spliced (backTo pos (starEach (e :: rest) env))) (fun vs s1 => wpAny M A (evalAll ((backToKw pos (keywordEach kws env)).map (·.2))) (fun ks s2 => wpAny M A (call (.type T) vs (((backToKw pos (keywordEach kws env)).filterMap (·.1)).zip ks)) Q E s2) E s1) E s)
    (he : backTo pos (starEach (e :: rest) env) = (false, eval e env) :: backTo pos (starEach rest env)) (hpl : (backTo pos (starEach (e :: rest) env)).any (·.1) = false) (hall : (backToKw pos (keywordEach kws env)).all (·.1.isSome) = true) (hkw : (backToKw pos (keywordEach kws env)).any (·.1.isNone) = false) :
    wpAny M A (callWith pos (.type T) [] (backTo pos (starEach (e :: rest) env)) (backToKw pos (keywordEach kws env))) Q E s := by
  rw [he] at h ⊢
  rw [he] at hpl
  have ev := PyProof.Rows.evalArgs_kwB (f := .type T) (Q := fun a s1 => wpAny M A (call (.type T) ([] ++ a.pos) a.kw) Q E s1) hall h
  unfold callWith
  refine wpAny_bind (wpAny_holding (wpAny_mono ev (fun a s1 h1 => wpAny_bind (wpAny_standAt ?_)) fun _ _ x => x))
  simp only [hpl, hkw, Bool.or_false]
  refine wpAny_bind (wpAny_pure ?_)
  exact wpAny_bind (wpAny_mono h1 (fun r s2 hr => wpAny_bind (wpAny_holding (wpAny_point (wpAny_pure hr)))) fun _ _ x => x)
end
def tZs (K : PySem.W.Frag) (ta : TA) : TI := fun σ H R => ta σ H fun vs H1 => ∃ (t u : Bool) (a b : Addr) (xs ys : List V), vs = [.ref a, .ref b] ∧ SqB t K H1 a xs ∧ SqB u K H1 b ys ∧ xs.length = ys.length ∧ R (Itzs K t u a b) H1
theorem pi_zs {X : Cx} {e e2 : Expr} {ta : TA} {p pos tpos kp p3 : Pos} {elts : List Expr} {kk j : Nat} (hg : Gl X "zip") (hm : X.mg "zip" = none) (ha : PA X [e, e2] ta)
    (hs : starEach [e, e2] X.env = (false, eval e X.env) :: starEach [e2] X.env := by rfl) (hpl : (backTo pos (starEach [e, e2] X.env)).any (·.1) = false := by rfl) :
    PI X (.Tuple elts kk tpos) (.Call (.Name "zip" p) [e, e2] [⟨some "strict", .Constant (.bool true) j p3, kp⟩] pos) (tZs X.K ta) := by
  refine ⟨fun pins s σ H R I h => wpAny_Call_Name_kw (ld_blt I hg hm PyProof.Rows.boot_zip (cw_type_kw (thn (ha.run pos pins s σ H _ I h) fun us s1 ⟨vs, H1, I1, r1, q1⟩ => ?_) (by rw [hs]; rfl) hpl rfl rfl) (by decide) (by decide))⟩
  obtain ⟨t, u, a, b, xs, ys, ex, hx, hy, hl, q⟩ := q1
  subst ex
  refine PyProof.Rows.kws_cons (wpAny_Constant_bool (PyProof.Rows.kws_nil ?_))
  obtain ⟨u1, u2, rfl, ra, rb⟩ := vals2 r1
  obtain rfl : u1 = Value.ref a := ra
  obtain rfl : u2 = Value.ref b := rb
  obtain ⟨its, rv, p1⟩ := Inv.seqB I1 hx
  obtain ⟨its2, rv2, p2⟩ := Inv.seqB I1 hy
  refine call_zs (beginsB t a its.toArray) (beginsB u b its2.toArray) p1 p2 fun h' hz hti hto hi1 hi2 hk => iter_zs hz ?_
  obtain ⟨oa, na, ea, _⟩ := p1.there
  obtain ⟨ob, nb, eb, _⟩ := p2.there
  have la : a < s1.heap.objs.size := Heap.lt_size ea
  have lb : b < s1.heap.objs.size := Heap.lt_size eb
  refine ⟨s1.heap.objs.size + 4, [s1.heap.objs.size + 4, s1.heap.objs.size + 2, s1.heap.objs.size + 3, s1.heap.objs.size, s1.heap.objs.size + 1], _, _, H1, rfl, I1.kept (t' := s1.toks) hk,
    turn_zs (t := t) (u := u) (zip_sep2 (fp1 := [a]) (fp2 := [b]) (fun c m => by obtain rfl := List.mem_singleton.mp m; exact la) (fun c m => by obtain rfl := List.mem_singleton.mp m; exact lb)), ⟨hz, hti, ⟨_, _, hto⟩, .new hi1, .new hi2⟩, fun c m => ?_, q⟩
  have hle : s1.heap.objs.size ≤ c := by
    simp only [List.mem_cons, List.mem_nil_iff, or_false] at m
    rcases m with rfl | rfl | rfl | rfl | rfl <;> omega
  exact I1.fpOk hle (I1.hok.fresh hle)
/-- pairs of things -/
def zipF : List D → List D → List D
  | a :: as, b :: bs => .tup [a, b] :: zipF as bs
  | _, _ => []
theorem zipF_get : ∀ (as bs : List D) (i : Nat) (d : D), (zipF as bs)[i]? = some d → ∃ a b, as[i]? = some a ∧ bs[i]? = some b ∧ d = .tup [a, b]
  | [], _, i, d, h => by simp [zipF] at h
  | _ :: _, [], i, d, h => by simp [zipF] at h
  | a :: as, b :: bs, 0, d, h => by
    simp [zipF] at h
    exact ⟨a, b, rfl, rfl, h.symm⟩
  | a :: as, b :: bs, i + 1, d, h => by
    obtain ⟨x, y, h1, h2, h3⟩ := zipF_get as bs i d (by simpa [zipF] using h)
    exact ⟨x, y, by simpa using h1, by simpa using h2, h3⟩
theorem zipF_length : ∀ (as bs : List D), as.length = bs.length → (zipF as bs).length = as.length
  | [], _, _ => by simp [zipF]
  | _ :: _, [], h => by simp at h
  | a :: as, b :: bs, h => by simp [zipF, zipF_length as bs (by simpa using h)]
/-- a list or a tuple, frozen -/
def FzB (t : Bool) (K : PySem.W.Frag) (F : Hp) (a : Addr) (vs : List V) : Prop := match t with
  | true => F a = some (.lst vs)
  | false => SqT K F a vs
theorem FzB.sq {t : Bool} {K : PySem.W.Frag} {g g' : Gh} {a : Addr} {vs : List V} (h : FzB t K g.F a vs) (s : Grow g g') : SqB t K g'.H a vs := by
  cases t with
  | true => exact SqL.of (s.ok.sub _ _ (s.up _ _ h))
  | false => exact s.ok.sub.sqT (s.up.sqT h)
theorem FzB.sq0 {t : Bool} {K : PySem.W.Frag} {g : Gh} {a : Addr} {vs : List V} (h : FzB t K g.F a vs) (ok : g.Ok) : SqB t K g.H a vs := h.sq (Step.grow ok.refl)
theorem itok_zs {K : PySem.W.Frag} {g : Gh} {t u : Bool} {a b : Addr} {vs ws : List V} {ds es : List D} (h1 : FzB t K g.F a vs) (h2 : FzB u K g.F b ws) (a1 : Ats K g.Z g.F vs ds) (a2 : Ats K g.Z g.F ws es) (l : ds.length = es.length) : ItOk K g (Itzs K t u a b) (zipF ds es) := by
  refine ⟨fun g' s i d e => ?_, fun g' s i d x H' e y => ?_, fun g' s i le => ?_⟩
  · obtain ⟨p, q, e1, e2, rfl⟩ := zipF_get ds es i d e
    obtain ⟨v, q1, _⟩ := a1.get e1
    obtain ⟨w, q2, _⟩ := a2.get e2
    exact ⟨vs, ws, v, w, h1.sq s, h2.sq s, by rw [a1.length, a2.length, l], q1, q2⟩
  · obtain ⟨p, q, e1, e2, rfl⟩ := zipF_get ds es i d e
    obtain ⟨v, q1, b1⟩ := a1.get e1
    obtain ⟨w, q2, b2⟩ := a2.get e2
    obtain ⟨c, ob, v', w', rfl, n, hob, rfl, f1, f2⟩ := y
    obtain rfl : v = v' := Option.some.inj (q1.symm.trans (f1 vs (h1.sq s)))
    obtain rfl : w = w' := Option.some.inj (q2.symm.trans (f2 ws (h2.sq s)))
    exact pair_step s.ok n hob (b1.mono s.up s.zs) (b2.mono s.up s.zs)
  · rw [zipF_length ds es l] at le
    exact ⟨vs, ws, h1.sq s, h2.sq s, by rw [a1.length]; exact le, by rw [a2.length, ← l]; exact le⟩
def seqQ (Q : List D → Prop) : D → Prop
  | .tup ds => Q ds
  | .lst ds => Q ds
  | _ => False
theorem seqQ_inv {K : PySem.W.Frag} {Z : Zs} {F : Hp} {v : V} {d : D} {Q : List D → Prop} (a : At K Z F v d) (h : seqQ Q d) : ∃ (t : Bool) (p : Addr) (vs : List V) (ds : List D), v = .ref p ∧ FzB t K F p vs ∧ Ats K Z F vs ds ∧ Q ds := by
  unfold seqQ at h
  split at h
  · obtain ⟨p, vs, rfl, hp, as⟩ := a.tup_inv
    exact ⟨false, p, vs, _, rfl, hp, as, h⟩
  · obtain ⟨p, vs, rfl, hp, as⟩ := a.lst_inv
    exact ⟨true, p, vs, _, rfl, hp, as, h⟩
  · exact h.elim
theorem FzB.up {t : Bool} {K : PySem.W.Frag} {F G : Hp} {a : Addr} {vs : List V} (h : FzB t K F a vs) (e : Sub F G) : FzB t K G a vs := by
  cases t with
  | true => exact e _ _ h
  | false => exact e.sqT h
/-- zip(x, y, strict=True): of one length -/
def iZs (wa wb : WE) : WI := fun env Q E => wa env (fun o => wb env (fun u => seqQ (fun ds => seqQ (fun es => ds.length = es.length ∧ Q (zipF ds es)) u.d) o.d) E) E
theorem di_zs {X : Cx} {W : WX} {wa wb : WE} {e e2 : Expr} {p pos tpos kp p3 : Pos} {elts : List Expr} {kk j : Nat} (hm : X.mg "zip" = none) (he : DE X W e wa) (he2 : DE X W e2 wb) (hg : Gl X "zip" := by rfl)
    (hs : starEach [e, e2] X.env = (false, eval e X.env) :: starEach [e2] X.env := by rfl) (hs2 : starEach [e2] X.env = (false, eval e2 X.env) :: starEach [] X.env := by rfl) (hpl : (backTo pos (starEach [e, e2] X.env)).any (·.1) = false := by rfl) :
    DI X W (.Tuple elts kk tpos) (.Call (.Name "zip" p) [e, e2] [⟨some "strict", .Constant (.bool true) j p3, kp⟩] pos) (iZs wa wb) := pi_imp (pi_zs hg hm (pa_cons he (pa_cons he2 pa_nil hs2) hs) hs hpl) fun σ H R ⟨g, env, Qd, Ed, eH, es, hw, k, kx⟩ => by
  subst eH
  show LE X W wa σ g.H fun x H1 => LE X W wb σ H1 fun y H2 => ∃ (t u : Bool) (a b : Addr) (xs ys : List V), [x, y] = [V.ref a, V.ref b] ∧ SqB t X.K H2 a xs ∧ SqB u X.K H2 b ys ∧ xs.length = ys.length ∧ R (Itzs X.K t u a b) H2
  refine LE.go (R := fun d => wb env (fun u => seqQ (fun ds => seqQ (fun es => ds.length = es.length ∧ Qd (zipF ds es)) u.d) d) Ed) es hw (fun v d g1 s1 a1 h1 => ?_) kx
  refine LE.go (R := fun d' => seqQ (fun ds => seqQ (fun es => ds.length = es.length ∧ Qd (zipF ds es)) d') d) (es.step s1) h1 (fun v' d' g2 s2 a2 h2 => ?_) (XL.on kx s1)
  obtain ⟨t, p1, vs, ds, rfl, f1, as1, h2⟩ := seqQ_inv a1 h2
  obtain ⟨u, p2, ws, es', rfl, f2, as2, hl, q⟩ := seqQ_inv a2 h2
  have f1' := f1.up s2.up
  have as1' := as1.mono s2.up s2.zs
  exact ⟨t, u, p1, p2, vs, ws, rfl, f1'.sq0 s2.ok, f2.sq0 s2.ok, by rw [as1.length, as2.length, hl], k _ _ g2 (s1.trans s2) (itok_zs f1' f2 as1' as2 hl) q⟩
end DL
/-! DPick -/
namespace DL
open PySem PySem.Spec PyProof.Rows L2

abbrev drawKvs (c : Addr) (left mixed turn : Int) : List (Key × V) := [(.inr "cells", .ref c), (.inr "left", .int left), (.inr "mixed", .int mixed), (.inr "turn", .int turn)]
abbrev dGtR : R2 := rI0 fun i j => .bl (decide (j < i))
abbrev dLtR : R2 := rI0 fun i j => .bl (decide (i < j))
abbrev dAddR : R2 := rI0 fun i j => .int (i + j)
abbrev dMulR : R2 := rI CMul fun i j => .int (i * j)
abbrev dModR : R2 := rI (fun _ j => 0 < j) fun i j => .int (i % j)
abbrev dDivR : R2 := rI CDivW fun i j => .int (i / j)
abbrev dMaxR : List V → Hp → VK → Prop := fun xs H Q => ∃ i j, xs = [.int i, .int j] ∧ Q (.int (if j > i then j else i)) H
abbrev dAbsR : List V → Hp → VK → Prop := fun xs H Q => ∃ i, xs = [.int i] ∧ Q (.int (if i < 0 then -i else i)) H
abbrev dIntR : List V → Hp → VK → Prop := fun xs H Q => (∃ i, xs = [.int i] ∧ Q (.int i) H) ∨ ∃ k, xs = [.bl k] ∧ Q (.int (if k then 1 else 0)) H
def gS (s : Str) : TE := tDGet (tVar 0) (tC (.str s))
def tMaxP : TE := tCB dMaxR (tCons (tC (.int 1)) (tCons (tVar 1) tNil))
def tIntP (t : TE) : TE := tCB dIntR (tCons t tNil)
def tTurnP (n : Int) (u : TE) : TE := tOp dAddR u (tOp dMulR (gS "turn") (tC (.int n)))
def tPickW (K : PySem.W.Frag) : TT := tAnd (tTest (tOp dGtR (tVar 1) (tC (.int 1)))) (tAnd (tTest (tOp dLtR (gS "left") (tC (.int 2)))) (tTest (tOp dGtR (tCB (rLen K) (tCons (gS "cells") tNil)) (tC (.int 0)))))
def tPickB (K : PySem.W.Frag) : TS := sDPut (tVar 0) (tC (.str "left")) (tBM0 K "list" rPop (gS "cells"))
def tPickI : TS := tSeq (sDPut (tVar 0) (tC (.str "left")) (tOp dDivR (tVar 2) tMaxP)) (tRet (tOp dModR (tIntP (tVar 2)) tMaxP))
def tPickC : TT := tOr (tTest (tOp dLtR (tVar 1) (tC (.int 2)))) (tTest (tOp dGtR (tVar 2) (tC (.int 1))))
def tPickE : TS := tSeq (sDPut (tVar 0) (tC (.str "turn")) (tOp dAddR (gS "turn") (tC (.int 1))))
  (tSeq (tAsg (tOp dModR (tIntP (tTurnP 104729 (gS "mixed"))) (tC (.int 998244353))) (gName 3))
  (tSeq (tAsg (tOp dModR (tIntP (tTurnP 17 (tOp dMulR (tVar 3) (tVar 3)))) (tC (.int 2147483647))) (gName 3))
  (tSeq (sDPut (tVar 0) (tC (.str "mixed")) (tVar 3))
  (tRet (tOp dModR (tIntP (tOp dDivR (tVar 3) (tC (.int 16)))) (tVar 1))))))
def tPick (K : PySem.W.Frag) : TS := tSeq (tWhile (tPickW K) (tPickB K)) (tSeq (tAsg (gS "left") (gName 2)) (tSeq (tIfS tPickC tPickI tNext) tPickE))
/-- where the draws stand: all but these two places is as before -/
def Else (H H' : Hp) (a c : Addr) : Prop := ∀ b, b ≠ a → b ≠ c → H' b = H b
theorem gS_run {s : Str} {a c : Addr} {left mixed turn : Int} {σ : L2.St} {H : Hp} {Q : VK} {v : V} (h0 : σ[0]? = some (some (.ref a))) (hH : H a = some (.dK (drawKvs c left mixed turn))) (hv : valV (drawKvs c left mixed turn) (.inr s) = some v) (q : Q v H) : gS s σ H Q :=
  ⟨.ref a, h0, a, v, rfl, .inl ⟨_, .inr s, .inl hH, rfl, hv.symm⟩, q⟩
theorem valC {c : Addr} {left mixed turn : Int} : valV (drawKvs c left mixed turn) (.inr "cells") = some (.ref c) := by rfl
theorem valL {c : Addr} {left mixed turn : Int} : valV (drawKvs c left mixed turn) (.inr "left") = some (.int left) := by rfl
theorem valM {c : Addr} {left mixed turn : Int} : valV (drawKvs c left mixed turn) (.inr "mixed") = some (.int mixed) := by rfl
theorem valT {c : Addr} {left mixed turn : Int} : valV (drawKvs c left mixed turn) (.inr "turn") = some (.int turn) := by rfl
theorem putL {c : Addr} {left mixed turn v : Int} : putK (drawKvs c left mixed turn) (.inr "left") (.int v) = drawKvs c v mixed turn := by rfl
theorem putM {c : Addr} {left mixed turn v : Int} : putK (drawKvs c left mixed turn) (.inr "mixed") (.int v) = drawKvs c left v turn := by rfl
theorem putT {c : Addr} {left mixed turn v : Int} : putK (drawKvs c left mixed turn) (.inr "turn") (.int v) = drawKvs c left mixed v := by rfl
theorem dput {a c : Addr} {left mixed turn : Int} {H : Hp} {s : Str} {v : V} {kvs : List (Key × V)} (hH : H a = some (.dK (drawKvs c left mixed turn))) (e : putK (drawKvs c left mixed turn) (.inr s) v = kvs) : DPut H a (.str s) v (upd H a (.dK kvs)) :=
  .inl ⟨_, .inr s, hH, rfl, by show 4 < sizeLine; rw [sizeLine_eq]; decide, by rw [e]⟩
/-- the def's promise -/
def spPickS : Sp := fun vs H Q _ => ∃ (a c : Addr) (n : Int), vs = [.ref a, .int n] ∧ SrcAt H a c ∧ n.natAbs.log2 < 9000 ∧ ∀ H' r, SrcAt H' a c → Else H H' a c → 0 ≤ r → r < max 1 n → Q (.int r) H'

/-- the places as they stand -/
structure Dr (H0 H : Hp) (a c : Addr) (cells : List Int) (left mixed turn : Int) : Prop where
  d : H a = some (.dK (drawKvs c left mixed turn))
  l : H c = some (.lst (cells.map V.int))
  hc : ∀ x ∈ cells, 0 ≤ x
  hl : 0 ≤ left
  hm : 0 ≤ mixed
  hm' : mixed < 2147483647
  ht : 0 ≤ turn
  els : Else H0 H a c
theorem Dr.ne {H0 H : Hp} {a c : Addr} {cells : List Int} {left mixed turn : Int} (d : Dr H0 H a c cells left mixed turn) : c ≠ a := fun e => by
  have := d.l
  rw [e, d.d] at this
  cases this
theorem Dr.at_ {H0 H : Hp} {a c : Addr} {cells : List Int} {left mixed turn : Int} (d : Dr H0 H a c cells left mixed turn) : SrcAt H a c := ⟨cells, left, mixed, turn, d.d, d.l, d.hc, d.hl, d.hm, d.hm', d.ht⟩
theorem Dr.put {H0 H : Hp} {a c : Addr} {cells : List Int} {left mixed turn left' mixed' turn' : Int} (d : Dr H0 H a c cells left mixed turn) (h1 : 0 ≤ left') (h2 : 0 ≤ mixed') (h3 : mixed' < 2147483647) (h4 : 0 ≤ turn') :
    Dr H0 (upd H a (.dK (drawKvs c left' mixed' turn'))) a c cells left' mixed' turn' :=
  ⟨upd_same, by rw [upd_ne d.ne]; exact d.l, d.hc, h1, h2, h3, h4, fun b p q => by rw [upd_ne p]; exact d.els b p q⟩
theorem maxP {σ : L2.St} {H : Hp} {Q : VK} {n : Int} (h1 : σ[1]? = some (some (.int n))) (q : Q (.int (max 1 n)) H) : tMaxP σ H Q := by
  refine ⟨.int n, h1, 1, n, rfl, ?_⟩
  have e : (if n > 1 then n else 1) = max 1 n := by split <;> omega
  rw [e]
  exact q
theorem intP {t : TE} {σ : L2.St} {H : Hp} {Q : VK} (h : t σ H fun x H' => ∃ i, x = .int i ∧ Q (.int i) H') (mono : ∀ Q Q' : VK, (∀ x H, Q x H → Q' x H) → t σ H Q → t σ H Q') : tIntP t σ H Q :=
  mono _ _ (fun x H' ⟨i, e, q⟩ => .inl ⟨i, by rw [e], q⟩) h
theorem pick_run {K : PySem.W.Frag} (vs : List V) (H : Hp) (Q : VK) (E : XK) (h : spPickS vs H Q E) : tPick K { nx := fun _ H' => Q .non H', rt := Q } (start ["source", "many", "left", "mixed"] vs) H := by
  obtain ⟨a, c, n, rfl, ⟨cells, left, mixed, turn, h1, h2, h3, h4, h5, h6, h7⟩, hn, hq⟩ := h
  have d0 : Dr H H a c cells left mixed turn := ⟨h1, h2, h3, h4, h5, h6, h7, fun _ _ _ => rfl⟩
  refine ⟨fun m σ H' => σ = [some (.ref a), some (.int n), none, none] ∧ ∃ cells left mixed turn, m = cells.length ∧ Dr H H' a c cells left mixed turn, ⟨cells.length, rfl, cells, left, mixed, turn, rfl, d0⟩, ?_⟩
  clear d0 h1 h2 h3 h4 h5 h6 h7
  clear cells left mixed turn
  rintro m σ H1 ⟨rfl, cells, left, mixed, turn, rfl, d⟩
  have done : tSeq (tAsg (gS "left") (gName 2)) (tSeq (tIfS tPickC tPickI tNext) tPickE) { nx := fun _ H' => Q .non H', rt := Q } [some (.ref a), some (.int n), none, none] H1 := by
    refine gS_run rfl d.d valL ?_
    show tIfS tPickC tPickI tNext _ [some (.ref a), some (.int n), some (.int left), none] H1
    have hif : ∀ b : Bool, (b = decide (n < 2 ∨ 1 < left)) → (if b = true then tPickI { nx := tPickE { nx := fun _ H' => Q .non H', rt := Q }, rt := Q } [some (.ref a), some (.int n), some (.int left), none] H1 else tPickE { nx := fun _ H' => Q .non H', rt := Q } [some (.ref a), some (.int n), some (.int left), none] H1) := by
      intro b hb
      have hmx : (max 1 n).natAbs.log2 < 9000 := by
        by_cases p : 1 ≤ n
        · rw [show max 1 n = n by omega]; exact hn
        · rw [show max 1 n = 1 by omega]; decide
      by_cases hc : n < 2 ∨ 1 < left
      · rw [if_pos (by rw [hb]; exact decide_eq_true hc)]
        refine ⟨_, rfl, maxP rfl ⟨left, max 1 n, rfl, rfl, ⟨by omega, hmx⟩, .ref a, rfl, a, _, rfl, dput d.d putL, ?_⟩⟩
        have d' := d.put (left' := left / max 1 n) (mixed' := mixed) (turn' := turn) (Int.ediv_nonneg d.hl (by omega)) d.hm d.hm' d.ht
        refine ⟨.int left, rfl, .inl ⟨left, rfl, maxP rfl ⟨left, max 1 n, rfl, rfl, by omega, ?_⟩⟩⟩
        exact hq _ _ d'.at_ d'.els (Int.emod_nonneg _ (by omega)) (Int.emod_lt_of_pos _ (by omega))
      · rw [if_neg (by rw [hb, decide_eq_false hc]; decide)]
        have hn2 : 2 ≤ n := by omega
        refine gS_run rfl d.d valT ⟨turn, 1, rfl, rfl, .ref a, rfl, a, _, rfl, dput d.d putT, ?_⟩
        have d1 := d.put (left' := left) (mixed' := mixed) (turn' := turn + 1) d.hl d.hm d.hm' (by have := d.ht; omega)
        refine gS_run rfl d1.d valM (gS_run rfl d1.d valT ⟨turn + 1, 104729, rfl, rfl, .inr (by decide), mixed, (turn + 1) * 104729, rfl, rfl, .inl ⟨_, rfl, _, 998244353, rfl, rfl, (by show (0 : Int) < 998244353; decide), ?_⟩⟩)
        dsimp only
        generalize hm1 : (mixed + (turn + 1) * 104729) % 998244353 = m1
        have b1 : 0 ≤ m1 := by rw [← hm1]; exact Int.emod_nonneg _ (by decide)
        have b2 : m1 < 998244353 := by rw [← hm1]; exact Int.emod_lt_of_pos _ (by decide)
        show tSeq _ _ _ [some (.ref a), some (.int n), some (.int left), some (.int m1)] _
        refine ⟨_, rfl, _, rfl, m1, m1, rfl, rfl, .inl (by omega), gS_run rfl d1.d valT ⟨turn + 1, 17, rfl, rfl, .inr (by decide), m1 * m1, (turn + 1) * 17, rfl, rfl, .inl ⟨_, rfl, _, 2147483647, rfl, rfl, (by show (0 : Int) < 2147483647; decide), ?_⟩⟩⟩
        dsimp only
        generalize hm2 : (m1 * m1 + (turn + 1) * 17) % 2147483647 = m2
        have c1 : 0 ≤ m2 := by rw [← hm2]; exact Int.emod_nonneg _ (by decide)
        have c2 : m2 < 2147483647 := by rw [← hm2]; exact Int.emod_lt_of_pos _ (by decide)
        show tSeq _ _ _ [some (.ref a), some (.int n), some (.int left), some (.int m2)] _
        refine ⟨_, rfl, .ref a, rfl, a, _, rfl, dput d1.d putM, ?_⟩
        have d2 := d1.put (left' := left) (mixed' := m2) (turn' := turn + 1) d1.hl c1 c2 d1.ht
        refine ⟨_, rfl, m2, 16, rfl, rfl, ⟨by decide, by decide⟩, .inl ⟨_, rfl, .int n, rfl, m2 / 16, n, rfl, rfl, by omega, ?_⟩⟩
        refine hq _ _ d2.at_ d2.els (Int.emod_nonneg _ (by omega)) ?_
        have := Int.emod_lt_of_pos (m2 / 16) (show 0 < n by omega)
        omega
    refine ⟨_, rfl, n, 2, rfl, rfl, _, rfl, ?_⟩
    dsimp only
    by_cases p : n < 2
    · rw [decide_eq_true p, if_pos rfl]
      exact hif true (by rw [decide_eq_true (Or.inl p)])
    · rw [decide_eq_false p, if_neg (by decide)]
      refine ⟨_, rfl, left, 1, rfl, rfl, _, rfl, ?_⟩
      dsimp only
      exact hif _ (by congr 1; simp [p])
  refine ⟨_, rfl, n, 1, rfl, rfl, _, rfl, ?_⟩
  dsimp only
  by_cases p : 1 < n
  case neg =>
    rw [decide_eq_false p, if_neg (by decide), if_neg (by decide)]
    exact done
  rw [decide_eq_true p, if_pos rfl]
  refine gS_run rfl d.d valL ⟨left, 2, rfl, rfl, _, rfl, ?_⟩
  dsimp only
  by_cases p2 : left < 2
  case neg =>
    rw [decide_eq_false p2, if_neg (by decide), if_neg (by decide)]
    exact done
  rw [decide_eq_true p2, if_pos rfl]
  refine gS_run rfl d.d valC ⟨.ref c, (cells.map V.int).length, rfl, .inl ⟨_, SqL.of d.l, rfl⟩, (((cells.map V.int).length : Nat) : Int), 0, rfl, rfl, _, rfl, ?_⟩
  dsimp only
  rcases List.eq_nil_or_concat cells with rfl | ⟨cs, x, rfl⟩
  · rw [if_neg (by simp)]
    exact done
  · rw [if_pos (by simp)]
    refine ⟨fun σ' H' => σ' = [some (.ref a), some (.int n), none, none] ∧ ∃ left, Dr H H' a c cs left mixed turn, fun σ' H' ⟨e, l, q⟩ => ⟨cs.length, by simp, e, cs, l, mixed, turn, rfl, q⟩, ?_⟩
    have hx : 0 ≤ x := d.hc x (by simp)
    have hl := d.l
    rw [List.concat_eq_append, List.map_append] at hl
    refine gS_run rfl d.d valC ⟨.inl ⟨rfl, _, SqL.of d.l⟩, c, _, .int x, rfl, rfl, hl, by simp, ?_⟩
    rw [show ((cs.map V.int) ++ [x].map V.int).dropLast = cs.map V.int by simp]
    have e : (upd H1 c (.lst (cs.map V.int))) a = some (.dK (drawKvs c left mixed turn)) := by rw [upd_ne d.ne.symm]; exact d.d
    refine ⟨.ref a, rfl, a, _, rfl, dput e putL, rfl, x, upd_same, ?_, fun y hy => d.hc y (by simp [hy]), hx, d.hm, d.hm', d.ht, fun b q1 q2 => ?_⟩
    · rw [upd_ne d.ne, upd_same]
    · rw [upd_ne q1, upd_ne q2]; exact d.els b q1 q2

def tMixE : TE := tOp dModR (tIntP (tOp dAddR (tOp dAddR (tOp dMulR (tVar 1) (tC (.int 69069))) (tOp dMulR (tVar 2) (tC (.int 31)))) (tC (.int 5)))) (tC (.int 2147483629))
def tSrcD (K : PySem.W.Frag) : TE := tDisp [(tC (.str "cells"), tRevA K (tLc (iList K (tVar 0)) (gName 2) tYes (tCB dAbsR (tCons (tVar 2) tNil)) [2])), (tC (.str "left"), tC (.int 1)), (tC (.str "mixed"), tVar 1), (tC (.str "turn"), tC (.int 0))]
def tSrc (K : PySem.W.Frag) : TS := tSeq (tAsg (tC (.int 11)) (gName 1)) (tSeq (tFor (iList K (tVar 0)) (gName 2) (tAsg tMixE (gName 1))) (tRet (tSrcD K)))
def spSrcS (K : PySem.W.Frag) : Sp := fun vs H Q _ => ∃ (l : Addr) (ns : List Int), vs = [.ref l] ∧ SqL K H l (ns.map V.int) ∧ ns.length ≤ sizeLine ∧ ∀ H' a c, H a = none → H c = none → Sub H H' → SrcAt H' a c → Q (.ref a) H'
theorem Sub.upd {H H' : Hp} (h : Sub H H') {p : Addr} {u : HO} (n : H p = none) : Sub H (upd H' p u) := fun b w e => by
  rw [upd_ne (ne_of_none e n)]
  exact h b w e
theorem src_run {K : PySem.W.Frag} (vs : List V) (H : Hp) (Q : VK) (E : XK) (h : spSrcS K vs H Q E) : tSrc K { nx := fun _ H' => Q .non H', rt := Q } (start ["script", "mixed", "cell"] vs) H := by
  obtain ⟨l, ns, rfl, hS, hz, hq⟩ := h
  show tSeq _ _ _ [some (.ref l), some (.int 11), none] H
  refine ⟨.ref l, rfl, l, rfl, ⟨_, hS⟩, ?_⟩
  refine for_list (xs := ns.map V.int) (fun i σ H' => H' = H ∧ ∃ m c, σ = [some (.ref l), some (.int m), c] ∧ 0 ≤ m ∧ m < 2147483647) ⟨rfl, 11, none, rfl, by decide, by decide⟩ (fun i σ H' _ ⟨e, _⟩ => by rw [e]; exact hS) ?_ ?_
  · rintro i x σ H' hx ⟨rfl, m, c, rfl, m0, m1⟩
    obtain ⟨n, _, rfl⟩ := List.mem_map.mp (List.mem_of_getElem? hx)
    refine ⟨_, rfl, m, 69069, rfl, rfl, .inr ⟨by decide, by decide⟩, _, rfl, n, 31, rfl, rfl, .inr ⟨by decide, by decide⟩, m * 69069, n * 31, rfl, rfl, _, 5, rfl, rfl, .inl ⟨_, rfl, _, 2147483629, rfl, rfl, (by show (0 : Int) < 2147483629; decide), rfl, _, _, rfl, Int.emod_nonneg _ (by decide), ?_⟩⟩
    have := Int.emod_lt_of_pos (m * 69069 + n * 31 + 5) (show (0 : Int) < 2147483629 by decide)
    omega
  · rintro σ H' ⟨rfl, m, c, rfl, m0, m1⟩
    intro p hp
    have hSp := (show Sub H' (upd H' p (.dK [])) from (Sub.refl H').upd hp).sqL hS
    refine ⟨.ref l, rfl, l, rfl, ⟨_, hSp⟩, fun D hD => ?_⟩
    have hDp : D ≠ p := fun e => by rw [e, upd_same] at hD; cases hD
    have hD' : H' D = none := by rw [upd_ne hDp] at hD; exact hD
    refine lc_list (xs := ns.map V.int) (fun i H2 => ∃ acc : List Int, acc.length = i ∧ (∀ x ∈ acc, 0 ≤ x) ∧ H2 = upd (upd H' p (.dK [])) D (.lst (acc.map V.int))) ⟨[], rfl, by simp, rfl⟩ ?_ ?_ ?_
    · rintro i H2 _ ⟨acc, _, _, rfl⟩
      exact (show Sub (upd H' p (.dK [])) _ from (Sub.refl _).upd hD).sqL hSp
    · rintro i x H2 hx ⟨acc, rfl, hacc, rfl⟩
      obtain ⟨n, _, rfl⟩ := List.mem_map.mp (List.mem_of_getElem? hx)
      have hlt : acc.length < ns.length := by
        obtain ⟨h1, _⟩ := List.getElem?_eq_some_iff.mp hx
        simpa using h1
      refine ⟨rfl, ?_⟩
      show tCB dAbsR (tCons (tVar 2) tNil) _ _ _
      refine ⟨_, rfl, n, rfl, acc.map V.int, upd_same, by simp; omega, acc ++ [if n < 0 then -n else n], by simp, ?_, ?_⟩
      · intro y hy
        rcases List.mem_append.mp hy with hy | hy
        · exact hacc y hy
        · obtain rfl := List.mem_singleton.mp hy
          split <;> omega
      · rw [upd_upd, List.map_append]
        rfl
    · rintro H2 ⟨acc, _, hacc, rfl⟩
      refine .inl ⟨D, acc.map V.int, rfl, SqL.of upd_same, fun c hc => ?_⟩
      have hcD : c ≠ D := fun e => by rw [e, upd_same] at hc; cases hc
      have hc1 := hc
      rw [upd_ne hcD] at hc1
      have hcp : c ≠ p := fun e => by rw [e, upd_same] at hc1; cases hc1
      rw [upd_ne hcp] at hc1
      refine ⟨_, rfl, ?_⟩
      have hp2 : (upd (upd (upd H' p (.dK [])) D (.lst (acc.map V.int))) c (.lst ((acc.map V.int).reverse))) p = some (.dK []) := by
        rw [upd_ne hcp.symm, upd_ne hDp.symm, upd_same]
      refine ⟨hp2, drawKvs c 1 m 0, rfl, (by show 4 ≤ 15; decide), ?_⟩
      refine hq _ p c hp hc1 ?_ ?_
      · exact ((((Sub.refl H').upd hp).upd hD').upd hc1).upd hp
      · refine ⟨acc.reverse, 1, m, 0, ?_, ?_, fun x hx => hacc x (by simpa using hx), by decide, m0, m1, by decide⟩
        · rw [upd_same]; rfl
        · rw [upd_ne hcp, upd_same, List.map_reverse]
end DL
/-! DTop -/
namespace DL
open PySem PySem.Spec PyProof.Rows L2
section
variable {P : Program} {w : World} {K : PySem.W.Frag} {mg : Str → Option Value} {base : Heap} {k : Nat} {f : Addr} {x qual : Str} {params : Arguments} {body : List Stmt} {scope : Scope} {fd : FuncData} {N ps : List Str} {sp : FSp} {spS : Sp} {t : TS}
/-- a def shown over the abstract heap -/
theorem fn_hand (F : FunD K x qual params body scope [] [] f fd) (hm : mg x = some (.ref f)) (hb : Binds K fd ps []) (S : FnScope N ps scope) (hlen : ∀ ds Q E, sp ds Q E → ds.length = ps.length)
    (hbody : ∀ (cdv : Value) (A : Around) (outer : List Env) (s : Shared) (H : Hp) (E : XK), Good (cxOf (L2.CX P w) P w K mg base N qual scope f cdv A outer s H E) k → PSs (cxOf (L2.CX P w) P w K mg base N qual scope f cdv A outer s H E) body t)
    (hrun : ∀ vs H Q E, spS vs H Q E → t { nx := fun _ H' => Q .non H', rt := Q } (start N vs) H) (hl : ∀ vs H Q E, lift mg K ps.length sp vs H Q E → spS vs H Q E) : Fn P w K mg base (k + 1) x ps sp :=
  ⟨hlen, f, fd, hm, F.kp, hb, fng_of F S (fun vs H Q E h => h.1) fun cdv A outer s H vs Q E hr hgd h => ⟨t, hbody cdv A outer s H E ⟨rfl, hr, hgd⟩, hrun vs H Q E (hl vs H Q E h)⟩⟩
end
def fPick : FSp := fun ds Q _ => ∃ n : Int, ds = [.src, .int n] ∧ n.natAbs.log2 < 9000 ∧ ∀ r : Int, 0 ≤ r → r < max 1 n → Q (.val (.int r))
def fSrc : FSp := fun ds Q _ => ∃ ns : List Int, ds = [.scr ns] ∧ ns.length ≤ sizeLine ∧ Q (.val .src)
theorem At.src_inv {K : PySem.W.Frag} {Z : Zs} {F : Hp} {v : V} (h : At K Z F v .src) : ∃ a c, v = .ref a ∧ (a, c) ∈ Z := by
  cases h with
  | src h => exact ⟨_, _, rfl, h⟩
theorem At.scr_inv {K : PySem.W.Frag} {Z : Zs} {F : Hp} {v : V} {ns : List Int} (h : At K Z F v (.scr ns)) : ∃ a, v = .ref a ∧ SqL K F a (ns.map V.int) := by
  cases h with
  | scr h => exact ⟨_, rfl, h⟩
theorem step_draw {g : Gh} (ok : g.Ok) {a c : Addr} (hz : (a, c) ∈ g.Z) {H' : Hp} (hs : SrcAt H' a c) (he : Else g.H H' a c) : Step g ⟨g.Z, g.F, H'⟩ := by
  have keepIt : ∀ b u, ¬ inZ g.Z b → g.H b = some u → H' b = some u := fun b u n e => by
    rw [he b (fun q => n ⟨_, hz, .inl q⟩) fun q => n ⟨_, hz, .inr q⟩]
    exact e
  refine ⟨⟨fun b u e => keepIt b u (fun z => by rw [ok.nz b z] at e; cases e) (ok.sub b u e), ⟨fun p hp => ?_, ok.src.ap⟩, ok.nz⟩, Sub.refl _, fun _ n m => absurd n m, fun b u e n => keepIt b u n e, fun _ q => q, fun _ q => .inl q⟩
  by_cases e : p = (a, c)
  · subst e
    exact hs
  · obtain ⟨_, _, _, _, a1, a2, _⟩ := (ok.src.ok _ hz).ex
    obtain ⟨_, _, _, _, b1, b2, _⟩ := (ok.src.ok _ hp).ex
    refine (ok.src.ok p hp).keep fun b u hb q => ?_
    have n1 : p.1 ≠ a := fun z => e (ok.src.ap p hp _ hz (.inl z))
    have n2 : p.2 ≠ c := fun z => e (ok.src.ap p hp _ hz (.inr z))
    have n3 : p.1 ≠ c := fun z => by
      rw [z] at b1
      have := b1.symm.trans a2
      cases this
    have n4 : p.2 ≠ a := fun z => by
      rw [z] at b2
      have := b2.symm.trans a1
      cases this
    show H' b = some u
    rw [he b]
    · exact q
    · rcases hb with rfl | rfl <;> assumption
    · rcases hb with rfl | rfl <;> assumption
theorem step_newSrc {g : Gh} (ok : g.Ok) {a c : Addr} (ha : g.H a = none) (hc : g.H c = none) {H' : Hp} (hs : SrcAt H' a c) (he : Sub g.H H') : Step g ⟨(a, c) :: g.Z, g.F, H'⟩ := by
  have far : ∀ p ∈ g.Z, p.1 ≠ a ∧ p.1 ≠ c ∧ p.2 ≠ a ∧ p.2 ≠ c := fun p hp => by
    obtain ⟨_, _, _, _, b1, b2, _⟩ := (ok.src.ok _ hp).ex
    exact ⟨ne_of_none b1 ha, ne_of_none b1 hc, ne_of_none b2 ha, ne_of_none b2 hc⟩
  refine ⟨⟨ok.sub.trans he, ⟨fun p hp => ?_, fun p hp q hq e => ?_⟩, fun b z => ?_⟩, Sub.refl _, fun _ n m => absurd n m, fun b u e _ => he b u e, fun _ q => List.mem_cons_of_mem _ q, fun b z => ?_⟩
  · rcases List.mem_cons.mp hp with rfl | hp
    · exact hs
    · exact (ok.src.ok p hp).keep fun b u _ q => he b u q
  · rcases List.mem_cons.mp hp with rfl | hp <;> rcases List.mem_cons.mp hq with rfl | hq
    · rfl
    · rcases e with e | e
      · exact absurd e.symm (far q hq).1
      · exact absurd e.symm (far q hq).2.2.2
    · rcases e with e | e
      · exact absurd e (far p hp).1
      · exact absurd e (far p hp).2.2.2
    · exact ok.src.ap p hp q hq e
  · obtain ⟨p, hp, e⟩ := z
    rcases List.mem_cons.mp hp with rfl | hp
    · rcases e with rfl | rfl
      · exact ok.noF ha
      · exact ok.noF hc
    · exact ok.nz b ⟨p, hp, e⟩
  · obtain ⟨p, hp, e⟩ := z
    rcases List.mem_cons.mp hp with rfl | hp
    · rcases e with rfl | rfl
      · exact .inr ha
      · exact .inr hc
    · exact .inl ⟨p, hp, e⟩
theorem pick_lift {mg : Str → Option Value} {K : PySem.W.Frag} (vs : List V) (H : Hp) (Q : VK) (E : XK) (h : lift mg K 2 fPick vs H Q E) : spPickS vs H Q E := by
  obtain ⟨_, g, ds, Qd, Ed, rfl, ok, as, ⟨n, rfl, hn, hq⟩, kq, _⟩ := h
  obtain ⟨v, u, rfl, h1, h2⟩ := as.two_inv
  obtain ⟨a, c, rfl, hz⟩ := h1.src_inv
  rw [h2.int_inv]
  refine ⟨a, c, n, rfl, ok.src.ok _ hz, hn, fun H' r hs he r0 r1 => ?_⟩
  have s1 := step_draw ok hz hs he
  exact kq _ _ _ s1 (.val (.int r)) (hq r r0 r1)
theorem src_lift {mg : Str → Option Value} {K : PySem.W.Frag} (vs : List V) (H : Hp) (Q : VK) (E : XK) (h : lift mg K 1 fSrc vs H Q E) : spSrcS K vs H Q E := by
  obtain ⟨_, g, ds, Qd, Ed, rfl, ok, as, ⟨ns, rfl, hn, hq⟩, kq, _⟩ := h
  obtain ⟨v, rfl, h1⟩ := as.one_inv
  obtain ⟨a, rfl, hz⟩ := h1.scr_inv
  refine ⟨a, ns, rfl, ok.sub.sqL hz, hn, fun H' p c hp hc he hs => ?_⟩
  have s1 := step_newSrc ok hp hc hs he
  exact kq _ _ _ s1 (.val (.src (List.mem_cons_self ..))) hq

/-- at the heap behind the top, the law's script the one thing known -/
def scrH (a : Addr) (o : Obj) (xs : List V) : Hp := fun b => if b = a then some (.frz o (.lst xs)) else none
theorem scrH_at {a : Addr} {o : Obj} {xs : List V} : scrH a o xs a = some (.frz o (.lst xs)) := if_pos rfl
theorem scrH_ne {a b : Addr} {o : Obj} {xs : List V} (h : b ≠ a) : scrH a o xs b = none := if_neg h
def emptyH : Hp := fun _ => none
theorem gh0 {H : Hp} : Gh.Ok ⟨[], H, H⟩ := ⟨Sub.refl _, ⟨fun p hp => by simp at hp, fun p hp => by simp at hp⟩, fun a ⟨p, hp, _⟩ => by simp at hp⟩
section
variable {P : Program} {w : World} {K : PySem.W.Frag} {mg mb : Str → Option Value} {k : Nat} {fa a : Addr} {fd : FuncData} {x : Str} {sp : FSp} {s1 : Shared} {vs : List Value} {ns : List Int}
/-- what is left once the abstract heap is chosen -/
theorem end_core (KX : K.In s1.heap) (hns : s1.heap.Ns mainGlobals mg) (hb : s1.heap.Ns builtinsNs mb) (hbb : ∀ z : Str, z ≠ "__name__" → mb z = bootBuiltins z) (hlim : s1.heap.NoLimit) (hg : s1.gens = #[])
    (ha : s1.heap.get? a = some { cls := .type "list", data := .seq vs.toArray }) (hr : Room k callerA)
    (F : ∀ base : Heap, K.In base → base.Ns mainGlobals mg → FnG P w K mg base (L2.CX P w) k fa fd [x] (lift mg K 1 sp)) (hbind : ∀ (s : Shared) (u : Value), BindsTo s fd ⟨[u], []⟩ [(x, u)])
    (hsp : sp [.scr ns] (fun o => o = .val (.bl true)) fun _ => False)
    (H : Hp) (hO : ∀ b, b ≠ a → H b = none) (hFr : H a = none ∨ ∃ o xs, H a = some (.frz o (.lst xs))) (hS : SqL K H a (ns.map V.int)) (hok : HOk P w H s1.heap) (hK : H a ≠ none → K.lookup a = none) :
    codeAny (model P w) callerA (.call (.ref fa) ⟨[.ref a], []⟩) (fun r s' => r = .ok (.ret (.bool true)) ∧ OldK s1.heap s'.heap ∧ s'.os = s1.os ∧ AllBare s'.gens) s1 := by
  have isA : ∀ {b : Addr}, H b ≠ none → b = a := fun {b} n => by
    by_cases e : b = a
    · exact e
    · exact absurd (hO b e) n
  have free : ∀ {b : Addr} {o : Obj}, s1.heap.get? b = some o → (b = a → ¬ ∃ es ep, o.data = .dict es ep) ∨ H b = none := fun {b o} e => by
    by_cases n : H b = none
    · exact .inr n
    · refine .inl fun q => ?_
      subst q
      rintro ⟨es, ep, d⟩
      rw [ha] at e
      cases e
      exact nomatch d
  have dictFree : ∀ {b : Addr} {o : Obj} {es : Array DictEntry} {ep : Nat}, s1.heap.get? b = some o → o.data = .dict es ep → H b = none := fun {b o es ep} e d => by
    by_cases n : H b = none
    · exact n
    · rcases free e with q | q
      · exact absurd ⟨es, ep, d⟩ (q (isA n))
      · exact q
  have up : ∀ {b : Addr} {m : Str → Option Value}, s1.heap.Ns b m → (hidT s1.heap H).Ns b m := fun ⟨o, es, ep, e, d, r⟩ => ⟨o, es, ep, hidT_get e (dictFree e d), d, r⟩
  have kin : K.In (hidT s1.heap H) := fun b o e => hidT_get (KX b o e) (by
    by_cases n : H b = none
    · exact n
    · obtain rfl := isA n
      rw [hK n] at e
      cases e)
  obtain ⟨mc, l1, l2⟩ := hlim
  have env0 : Env0 P w K mg (hidT s1.heap H) callerA [] s1 H := ⟨rfl, ⟨kin, up hns, ⟨mb, up hb, hbb⟩, mc, up l1, l2⟩, fun _ _ e => of_hidT e, Nat.le_of_eq (hidT_size _ _), trivial, fun b z => by simp [frs] at z, hok, .of_eq hg⟩
  have prem : lift mg K 1 sp [.ref a] H (fun v _ => v = .bl true) fun _ _ _ => False := by
    refine ⟨rfl, ⟨[], H, H⟩, [.scr ns], _, _, rfl, gh0, .one (.scr hS), hsp, fun v o g' _ r e => ?_, fun _ _ _ _ _ _ q => q⟩
    subst e
    obtain ⟨cs, r, _⟩ := r
    cases r with
    | val h => exact h.bl_inv
  refine codeAny_mono ((F _ kin (up hns)).run callerA [] s1 H ⟨[.ref a], []⟩ [.ref a] [.ref a] _ _ hr rfl env0 (hbind s1 (.ref a)) (.cons rfl .nil) prem) fun r s' h => ?_
  match r, h with
  | .error e, h =>
    obtain ⟨_, _, _, _, _, _, _, _, _, _, _, _, q⟩ := h
    exact q.elim
  | .ok .next, h => exact h.elim
  | .ok .brk, h => exact h.elim
  | .ok .cont, h => exact h.elim
  | .ok (.ret u), h =>
    obtain ⟨v, H', os, bare, un, hok', rel, q⟩ := h
    have q : v = .bl true := q
    subst q
    have rel : u = Value.bool true := rel
    subst rel
    refine ⟨rfl, OldK.of_keep fun b o e => ?_, os, bare⟩
    by_cases n : H b = none
    · exact un.keep b o e n (fun z => by simp [frs] at z) (by simp)
    · obtain rfl := isA n
      rcases hFr with z | ⟨ob, xs, z⟩
      · exact absurd z n
      · have e1 := (hok b _ z).1
        have e2 := (hok' b _ (un.frzs b ob _ z)).1
        rw [e] at e1
        cases e1
        exact e2
theorem law_end (KX : K.In s1.heap) (hns : s1.heap.Ns mainGlobals mg) (hb : s1.heap.Ns builtinsNs mb) (hbb : ∀ z : Str, z ≠ "__name__" → mb z = bootBuiltins z) (hlim : s1.heap.NoLimit) (hg : s1.gens = #[])
    (ha : s1.heap.get? a = some { cls := .type "list", data := .seq vs.toArray }) (hi : IntsAre vs ns) (hl : ns.length ≤ sizeLine) (hr : Room k callerA)
    (F : ∀ base : Heap, K.In base → base.Ns mainGlobals mg → FnG P w K mg base (L2.CX P w) k fa fd [x] (lift mg K 1 sp)) (hbind : ∀ (s : Shared) (u : Value), BindsTo s fd ⟨[u], []⟩ [(x, u)])
    (hsp : sp [.scr ns] (fun o => o = .val (.bl true)) fun _ => False) :
    codeAny (model P w) callerA (.call (.ref fa) ⟨[.ref a], []⟩) (fun r s' => r = .ok (.ret (.bool true)) ∧ OldK s1.heap s'.heap ∧ s'.os = s1.os ∧ AllBare s'.gens) s1 := by
  have rv := vals_ints hi
  have lenV := hi.length
  by_cases hk : K.lookup a = none
  · refine end_core KX hns hb hbb hlim hg ha hr F hbind hsp (scrH a { cls := .type "list", data := .seq vs.toArray } (ns.map V.int)) (fun b n => scrH_ne n) (.inr ⟨_, _, scrH_at⟩) (.inl (.inr ⟨_, scrH_at⟩)) (fun b u z => ?_) fun _ => hk
    by_cases e : b = a
    · subst e
      rw [scrH_at] at z
      cases z
      exact ⟨ha, by simpa using hl, vs, _, rv, ha⟩
    · rw [scrH_ne e] at z
      cases z
  · obtain ⟨o, ho⟩ := Option.ne_none_iff_exists'.mp hk
    have e := KX a o ho
    rw [ha] at e
    cases e
    refine end_core KX hns hb hbb hlim hg ha hr F hbind hsp emptyH (fun _ _ => rfl) (.inl rfl) (.inr ⟨_, vs.toArray, _, ho, rfl, rfl, rfl, by rw [List.size_toArray, lenV]; exact hl, by simpa using rv⟩) (fun b u z => by simp [emptyH] at z) fun n => absurd rfl n
end
/-- the walk of a law whose promise is by data -/
theorem walk_D {l : PySem.W.OpenLaw} {n k : Nat} {q : Program} {loose : List Str} {XP : (Str → Option Value) → Heap → Prop} {YP : World → Heap → Prop} {d : DefRec} {x : Str} (hn : l.most = some n) (hn2 : n ≤ sizeLine) (hdf : d.params.defaults = []) (hr : Room k callerA)
    (F : ∀ (w : World) (mg : Str → Option Value) (fa : Addr) (h : Heap), YP w h → h.Ns mainGlobals mg → mg d.name = some (.ref fa) →
      ∃ (K : PySem.W.Frag) (fd : FuncData) (sp : FSp), K.In h ∧ (∀ (s : Shared) (u : Value), BindsTo s fd ⟨[u], []⟩ [(x, u)]) ∧ (∀ ns : List Int, ns.length ≤ n → sp [.scr ns] (fun o => o = .val (.bl true)) fun _ => False) ∧
        ∀ base : Heap, K.In base → base.Ns mainGlobals mg → FnG l.prog w K mg base (L2.CX l.prog w) k fa fd [x] (lift mg K 1 sp)) :
    PySem.W.WalkO q loose XP YP l.row.toRowW d [] (fun f vs => PySem.call f vs) := by
  refine Att.attach_call hn hdf fun w s0 s1 mg mb fa o pm cd doc a vs ns G Y ho hd hcd hmg hobj hints hlen hg => ?_
  obtain ⟨K, fd, sp, KX, hb, hsp, hF⟩ := F w mg fa _ Y G.T.g hmg
  exact law_end KX G.T.g G.T.b G.T.builtins G.T.nolimit hg hobj hints (Nat.le_trans hlen hn2) hr hF hb (hsp ns hlen)
theorem bt_len : bootBuiltins "len" = some (.builtin "len") := by decide +kernel
theorem bt_int : bootBuiltins "int" = some (.type "int") := by decide +kernel
theorem bt_abs : bootBuiltins "abs" = some (.builtin "abs") := by decide +kernel
theorem bt_max : bootBuiltins "max" = some (.builtin "max") := by decide +kernel
theorem bt_min : bootBuiltins "min" = some (.builtin "min") := by decide +kernel
theorem bt_tuple : bootBuiltins "tuple" = some (.type "tuple") := by decide +kernel
theorem bt_list : bootBuiltins "list" = some (.type "list") := by decide +kernel
theorem bt_repr : bootBuiltins "repr" = some (.builtin "repr") := by decide +kernel
theorem bt_sum : bootBuiltins "sum" = some (.builtin "sum") := by decide +kernel
theorem bt_sorted : bootBuiltins "sorted" = some (.builtin "sorted") := by decide +kernel
theorem bt_set : bootBuiltins "set" = some (.type "set") := by decide +kernel
theorem bt_all : bootBuiltins "all" = some (.builtin "all") := by decide +kernel
theorem bt_any : bootBuiltins "any" = some (.builtin "any") := by decide +kernel
end DL
/-! DSim -/
namespace DL
open PySem PySem.Spec PyProof.Rows L2

section
variable {env : DEnv} {Q : O → Prop} {E : EX} {w wa wb wc : WE} {t u : WT} {ws : WA}
@[simp] theorem eVar_0 {d : D} {r : DEnv} : eVar 0 (some d :: r) Q E = Q (.val d) := rfl
@[simp] theorem eVar_s {i : Nat} {x : Option D} {r : DEnv} : eVar (i + 1) (x :: r) Q E = eVar i r Q E := by simp [eVar]
@[simp] theorem eC_v {d : D} : eC d env Q E = Q (.val d) := rfl
@[simp] theorem eBin_v {f : D → D → PQ} : eBin f wa wb env Q E = wa env (fun x => wb env (fun y => f x.d y.d Q) E) E := rfl
@[simp] theorem eUn_v {f : D → PQ} : eUn f wa env Q E = wa env (fun x => f x.d Q) E := rfl
@[simp] theorem eIf_v : eIf t wa wb env Q E = t env (fun c => if c = true then wa env Q E else wb env Q E) E := rfl
@[simp] theorem eB_v {f : List D → PQ} : eB f ws env Q E = ws env (fun os => f (O.ds os) Q) E := rfl
@[simp] theorem eCall_v {sp : FSp} : eCall sp ws env Q E = ws env (fun os => sp (O.ds os) Q E) E := rfl
@[simp] theorem eTup_v : eTup ws env Q E = ws env (fun os => os.length ≤ sizeLine ∧ Q (.val (.tup (O.ds os)))) E := rfl
@[simp] theorem eLst_v : eLst ws env Q E = ws env (fun os => os.length ≤ sizeLine ∧ Q (.lst os)) E := rfl
@[simp] theorem eAnd_v : eAnd wa wb env Q E = wa env (fun o => blD (fun c => if c = true then wb env Q E else Q (.val (.bl false))) o.d) E := rfl
@[simp] theorem eOr_v : eOr wa wb env Q E = wa env (fun o => blD (fun c => if c = true then Q (.val (.bl true)) else wb env Q E) o.d) E := rfl
@[simp] theorem eNot_v : eNot wa env Q E = wa env (fun o => blD (fun c => Q (.val (.bl (!c)))) o.d) E := rfl
@[simp] theorem eChain_v {f f' : D → D → PQ} : eChain f f' wa wb wc env Q E = wa env (fun x => wb env (fun y => f x.d y.d fun z => blD (fun k => if k = true then wc env (fun u => f' y.d u.d Q) E else Q (.val (.bl false))) z.d) E) E := rfl
@[simp] theorem eSl_v {wl wh : WO} : eSl w wl wh env Q E = w env (fun o => wl env (fun l => wh env (fun h => sliceD o.d l h Q) E) E) E := rfl
@[simp] theorem oNo_v {Q : Option Int → Prop} : oNo env Q E = Q none := rfl
@[simp] theorem oSo_v {Q : Option Int → Prop} : oSo w env Q E = w env (fun o => match o.d with | .int i => Q (some i) | _ => False) E := rfl
@[simp] theorem aNil_v {Q : List O → Prop} : aNil env Q E = Q [] := rfl
@[simp] theorem aCons_v {Q : List O → Prop} : aCons w ws env Q E = w env (fun o => ws env (fun os => Q (o :: os)) E) E := rfl
@[simp] theorem aStar_v {Q : List O → Prop} : aStar w ws env Q E = w env (fun o => itemsD o.d fun ds => ws env (fun os => Q (ds.map .val ++ os)) E) E := rfl
@[simp] theorem tBl_v {Q : Bool → Prop} : tBl w env Q E = w env (fun o => blD Q o.d) E := rfl
@[simp] theorem tTru_v {Q : Bool → Prop} : tTru w env Q E = w env (fun o => truD Q o.d) E := rfl
@[simp] theorem wAnd_v {Q : Bool → Prop} : wAnd t u env Q E = t env (fun c => if c = true then u env Q E else Q false) E := rfl
@[simp] theorem wOr_v {Q : Bool → Prop} : wOr t u env Q E = t env (fun c => if c = true then Q true else u env Q E) E := rfl
@[simp] theorem wNot_v {Q : Bool → Prop} : wNot t env Q E = t env (fun c => Q (!c)) E := rfl
@[simp] theorem wYes_v {Q : Bool → Prop} : wYes env Q E = Q true := rfl
@[simp] theorem eLc_v {wi : WI} {p : Pat} {wt : WT} {vs : List Nat} : eLc wi p wt w vs env Q E = wi env (fun ds => lcD p wt w (wipeD env vs) ds [] (fun os => Q (.lst os))) E := rfl
@[simp] theorem iSeq_v {Q : List D → Prop} : iSeq w env Q E = w env (fun o => itemsD o.d Q) E := rfl
@[simp] theorem iRevD_v {Q : List D → Prop} : iRevD w env Q E = w env (fun o => itemsD o.d fun ds => Q ds.reverse) E := rfl
@[simp] theorem iRg_v {f : (List D → Prop) → List D → Prop} {Q : List D → Prop} : iRg f ws env Q E = ws env (fun os => f Q (O.ds os)) E := rfl
@[simp] theorem blD_v {Q : Bool → Prop} {b : Bool} : blD Q (.bl b) = Q b := rfl
@[simp] theorem truD_bl {Q : Bool → Prop} {b : Bool} : truD Q (.bl b) = Q b := rfl
@[simp] theorem truD_int {Q : Bool → Prop} {i : Int} : truD Q (.int i) = Q (i != 0) := rfl
@[simp] theorem truD_tup {Q : Bool → Prop} {ds : List D} : truD Q (.tup ds) = Q (!ds.isEmpty) := rfl
@[simp] theorem truD_lst {Q : Bool → Prop} {ds : List D} : truD Q (.lst ds) = Q (!ds.isEmpty) := rfl
@[simp] theorem itemsD_tup {Q : List D → Prop} {ds : List D} : itemsD (.tup ds) Q = Q ds := rfl
@[simp] theorem itemsD_lst {Q : List D → Prop} {ds : List D} : itemsD (.lst ds) Q = Q ds := rfl
@[simp] theorem addD_int {i j : Int} : addD (.int i) (.int j) Q = Q (.val (.int (i + j))) := rfl
@[simp] theorem subD_int {i j : Int} : subD (.int i) (.int j) Q = Q (.val (.int (i - j))) := rfl
@[simp] theorem modD_int {i j : Int} : modD (.int i) (.int j) Q = (j ≠ 0 ∧ Q (.val (.int (i.fmod j)))) := rfl
@[simp] theorem fdivWD_int {i j : Int} : fdivWD (.int i) (.int j) Q = ((0 < j ∧ j.natAbs.log2 < 9000) ∧ Q (.val (.int (i / j)))) := rfl
@[simp] theorem powD_int {i j : Int} : powD (.int i) (.int j) Q = (CPow i j ∧ Q (.val (.int (i ^ j.toNat)))) := rfl
@[simp] theorem mulA_int {i j : Int} : mulA (.int i) (.int j) Q = (MulOk i j ∧ Q (.val (.int (i * j)))) := rfl
@[simp] theorem mulA_lst {xs : List D} {k : Int} : mulA (.lst xs) (.int k) Q = ((-(2 ^ 63) ≤ k ∧ k < 2 ^ 63 ∧ xs.length * k.toNat ≤ sizeLine) ∧ Q (.lst (((List.replicate k.toNat xs).flatten).map .val))) := rfl
@[simp] theorem mulA_tup {xs : List D} {k : Int} : mulA (.tup xs) (.int k) Q = ((-(2 ^ 63) ≤ k ∧ k ≤ 1000 ∧ xs.length ≤ 1000) ∧ Q (.val (.tup (List.replicate k.toNat xs).flatten))) := rfl
@[simp] theorem fI_v {f : Int → Int → D} {i j : Int} : fI f (.int i) (.int j) Q = Q (.val (f i j)) := rfl
@[simp] theorem fIC_v {C : Int → Int → Prop} {f : Int → Int → D} {i j : Int} : fIC C f (.int i) (.int j) Q = (C i j ∧ Q (.val (f i j))) := rfl
@[simp] theorem ltD_int {i j : Int} : ltD (.int i) (.int j) Q = Q (.val (.bl (decide (i < j)))) := rfl
@[simp] theorem leD_int {i j : Int} : leD (.int i) (.int j) Q = Q (.val (.bl (decide (i ≤ j)))) := rfl
@[simp] theorem gtD_int {i j : Int} : gtD (.int i) (.int j) Q = Q (.val (.bl (decide (j < i)))) := rfl
@[simp] theorem geD_int {i j : Int} : geD (.int i) (.int j) Q = Q (.val (.bl (decide (j ≤ i)))) := rfl
@[simp] theorem eqD_v {a b : D} : eqD a b Q = (okE a ∧ okE b ∧ Q (.val (.bl (eqB a b)))) := rfl
@[simp] theorem neD_v {a b : D} : neD a b Q = (okE a ∧ okE b ∧ Q (.val (.bl (!eqB a b)))) := rfl
@[simp] theorem isND_v {a b : D} : isND a b Q = (isNoneB b = true ∧ Q (.val (.bl (isNoneB a)))) := rfl
@[simp] theorem notND_v {a b : D} : notND a b Q = (isNoneB b = true ∧ Q (.val (.bl (!isNoneB a)))) := rfl
@[simp] theorem isBD_v {a b : Bool} : isBD (.bl a) (.bl b) Q = Q (.val (.bl (decide (a = b)))) := rfl
@[simp] theorem notBD_v {a b : Bool} : notBD (.bl a) (.bl b) Q = Q (.val (.bl (!decide (a = b)))) := rfl
@[simp] theorem negD_int {i : Int} : negD (.int i) Q = Q (.val (.int (-i))) := rfl
@[simp] theorem inD_lst {a : D} {ds : List D} : inD a (.lst ds) Q = (okE a ∧ okE (.lst ds) ∧ Q (.val (.bl (ds.any fun z => eqB z a)))) := rfl
@[simp] theorem notInD_lst {a : D} {ds : List D} : notInD a (.lst ds) Q = (okE a ∧ okE (.lst ds) ∧ Q (.val (.bl (!ds.any fun z => eqB z a)))) := rfl
@[simp] theorem lenD_tup {ds : List D} : lenD [.tup ds] Q = Q (.val (.int ds.length)) := rfl
@[simp] theorem lenD_lst {ds : List D} : lenD [.lst ds] Q = Q (.val (.int ds.length)) := rfl
@[simp] theorem tupleD_tup {ds : List D} : tupleD [.tup ds] Q = Q (.val (.tup ds)) := rfl
@[simp] theorem tupleD_lst {ds : List D} : tupleD [.lst ds] Q = Q (.val (.tup ds)) := rfl
@[simp] theorem listD_tup {ds : List D} : listD [.tup ds] Q = Q (.lst (ds.map .val)) := rfl
@[simp] theorem listD_lst {ds : List D} : listD [.lst ds] Q = Q (.lst (ds.map .val)) := rfl
@[simp] theorem intD_int {i : Int} : intD [.int i] Q = Q (.val (.int i)) := rfl
@[simp] theorem absD_int {i : Int} : absD [.int i] Q = Q (.val (.int (if i < 0 then -i else i))) := rfl
@[simp] theorem max2D_int {i j : Int} : max2D [.int i, .int j] Q = Q (.val (.int (max i j))) := by
  show Q (.val (.int (if j > i then j else i))) = _
  rw [show (if j > i then j else i) = max i j by split <;> omega]
@[simp] theorem min2D_int {i j : Int} : min2D [.int i, .int j] Q = Q (.val (.int (min i j))) := by
  show Q (.val (.int (if j < i then j else i))) = _
  rw [show (if j < i then j else i) = min i j by split <;> omega]
@[simp] theorem reprD_v {d : D} : reprD [d] Q = (okP d ∧ shw d = true ∧ cost d ≤ sizeLine ∧ Q (.val (.str (shown d)))) := rfl
@[simp] theorem revD_tup {ds : List D} : revD (.tup ds) Q = Q (.val (.tup ds.reverse)) := rfl
@[simp] theorem revD_lst {ds : List D} : revD (.lst ds) Q = Q (.lst (ds.reverse.map .val)) := rfl
@[simp] theorem sliceD_tup {ds : List D} {lo hi : Option Int} : sliceD (.tup ds) lo hi Q = Q (.val (.tup (cut ds lo hi))) := rfl
@[simp] theorem sliceD_lst {ds : List D} {lo hi : Option Int} : sliceD (.lst ds) lo hi Q = Q (.lst ((cut ds lo hi).map .val)) := rfl
@[simp] theorem ixD_tup {ds : List D} {i : Int} : ixD (.tup ds) (.int i) Q = ∃ d, atI ds i = some d ∧ Q (.val d) := rfl
@[simp] theorem ixD_lst {ds : List D} {i : Int} : ixD (.lst ds) (.int i) Q = ∃ d, atI ds i = some d ∧ Q (.val d) := rfl
@[simp] theorem rg1D_v {Q : List D → Prop} {j : Int} : rg1D Q [.int j] = (in62 j ∧ Q (rng 0 j)) := rfl
@[simp] theorem rg2D_v {Q : List D → Prop} {i j : Int} : rg2D Q [.int i, .int j] = (in62 i ∧ in62 j ∧ Q (rng i j)) := rfl
@[simp] theorem rg3D_v {Q : List D → Prop} {i j c : Int} : rg3D Q [.int i, .int j, .int c] = (c = -1 ∧ in62 i ∧ in62 j ∧ Q (rngDown i j)) := rfl
end
theorem addD_tup {Q : O → Prop} {xs ys : List D} : addD (.tup xs) (.tup ys) Q = (xs.length + ys.length ≤ sizeLine ∧ Q (.val (.tup (xs ++ ys)))) := by
  first | rfl | simp [addD]
theorem addD_lst {Q : O → Prop} {xs ys : List D} : addD (.lst xs) (.lst ys) Q = (xs.length + ys.length ≤ sizeLine ∧ Q (.lst ((xs ++ ys).map .val))) := by
  first | rfl | simp [addD]

section
variable {env : SEnv} {De : DEnds} {Ee : SEX} {w : WE} {ws : WA} {t : WT} {s1 s2 : WS} {i j : Nat}
@[simp] theorem view_nil : view [] = [] := rfl
@[simp] theorem view_none {r : SEnv} : view (none :: r) = none :: view r := rfl
@[simp] theorem view_val {d : D} {r : SEnv} : view (some (.val d) :: r) = some d :: view r := by simp [view]
theorem view_some {o : O} {r : SEnv} : view (some o :: r) = some o.d :: view r := by simp [view]
@[simp 10] theorem view_cons {x : Option O} {r : SEnv} : view (x :: r) = x.map O.d :: view r := rfl
@[simp] theorem vview_nil : vview [] = [] := rfl
@[simp] theorem vview_none {r : SEnv} : vview (none :: r) = none :: vview r := rfl
@[simp] theorem vview_val {d : D} {r : SEnv} : vview (some (.val d) :: r) = some d :: vview r := rfl
@[simp] theorem vview_lst {os : List O} {r : SEnv} : vview (some (.lst os) :: r) = none :: vview r := rfl
def vv : Option O → Option D
  | some (.val d) => some d
  | _ => none
@[simp 10] theorem vview_cons {x : Option O} {r : SEnv} : vview (x :: r) = vv x :: vview r := by
  rcases x with _ | o
  · rfl
  · cases o <;> rfl
@[simp] theorem sNil_v : sNil env De Ee = De.nx env := rfl
@[simp] theorem sSeq_v : sSeq s1 s2 env De Ee = s1 env { De with nx := fun env' => s2 env' De Ee } Ee := rfl
@[simp] theorem sFrz_v {l : List Nat} {s : WS} : sFrz l s env De Ee = s (frz l env) De Ee := rfl
@[simp] theorem sBreak_v : sBreak env De Ee = De.bk env := rfl
@[simp] theorem sCont_v : sCont env De Ee = De.ct env := rfl
@[simp] theorem evC_v {Q : O → Prop} : evC w env Q Ee = w (view env) (fun o => o.clean = true ∧ Q o) (fun x => x.clean = true ∧ Ee x env) := rfl
@[simp] theorem evS_v {Q : O → Prop} : evS w env Q Ee = w (vview env) Q (fun x => Ee x env) := rfl
@[simp] theorem evT_v {Q : Bool → Prop} : evT t env Q Ee = t (view env) Q (fun x => x.clean = true ∧ Ee x env) := rfl
@[simp] theorem evA_v {Q : List O → Prop} : evA ws env Q Ee = ws (view env) (fun os => O.cleans os = true ∧ Q os) (fun x => x.clean = true ∧ Ee x env) := rfl
@[simp] theorem sSet_v : sSet i w env De Ee = w (view env) (fun o => o.clean = true ∧ i < env.length ∧ De.nx (env.set i (some o))) (fun x => x.clean = true ∧ Ee x env) := rfl
@[simp] theorem sSetS_v : sSetS i w env De Ee = w (vview env) (fun o => i < env.length ∧ De.nx (env.set i (some o))) (fun x => Ee x env) := rfl
@[simp] theorem sRet_v : sRet w env De Ee = w (view env) De.rt (fun x => x.clean = true ∧ Ee x env) := rfl
@[simp] theorem sRetN_v : sRetN env De Ee = De.rt (.val .non) := rfl
@[simp] theorem sIf_v : sIf t s1 s2 env De Ee = t (view env) (fun b => if b = true then s1 env De Ee else s2 env De Ee) (fun x => x.clean = true ∧ Ee x env) := rfl
@[simp] theorem sForR_v {wi : WI} {p : Pat} {s : WS} : sForR wi p s env De Ee = wi (view env) (fun ds => loopD p s De Ee ds env) (fun x => x.clean = true ∧ Ee x env) := rfl
@[simp] theorem sFor_v {wi : WI} {p : Pat} {s : WS} : sFor wi p s env De Ee = wi (vview env) (fun ds => loopD p s De Ee ds env) (fun x => Ee x env) := rfl
@[simp] theorem sExpr_v : sExpr w env De Ee = w (view env) (fun o => o.clean = true ∧ De.nx env) (fun x => x.clean = true ∧ Ee x env) := rfl
@[simp] theorem sRaise_v {x : Str} : sRaise x env De Ee = Ee ⟨x, []⟩ env := rfl
theorem sApp_v {os : List O} (h : env[i]? = some (some (.lst os))) : sApp i w env De Ee = w (view env) (fun o => o.clean = true ∧ os.length < sizeLine ∧ De.nx (env.set i (some (.lst (os ++ [o]))))) (fun x => x.clean = true ∧ Ee x env) := by
  show ownD env[i]? _ = _
  rw [h]; rfl
theorem sAppS_v {os : List O} (h : env[i]? = some (some (.lst os))) : sAppS i w env De Ee = w (vview env) (fun o => os.length < sizeLine ∧ De.nx (env.set i (some (.lst (os ++ [o]))))) (fun x => Ee x env) := by
  show ownD env[i]? _ = _
  rw [h]; rfl
theorem sPop_v {os : List O} (h : env[i]? = some (some (.lst os))) : sPop i env De Ee = (os ≠ [] ∧ De.nx (env.set i (some (.lst os.dropLast)))) := by
  show ownD env[i]? _ = _
  rw [h]; rfl
theorem sAug_v {f : D → D → PQ} {d : D} (h : env[i]? = some (some (.val d))) : sAug i f w env De Ee = (noLst d = true ∧ w (view env) (fun o => o.clean = true ∧ f d o.d fun z => z.clean = true ∧ De.nx (env.set i (some z))) (fun x => x.clean = true ∧ Ee x env)) := by
  show valD env[i]? _ = _
  rw [h]; rfl
theorem sRetV_v {o : O} (h : env[i]? = some (some o)) : sRetV i env De Ee = De.rt o := by
  unfold sRetV
  rw [h]
@[simp] theorem sPar_v {is : List Nat} : sPar is ws env De Ee = ws (view env) (fun os => O.cleans os = true ∧ os.length = is.length ∧ (∀ i ∈ is, i < env.length) ∧ De.nx ((is.zip os).foldl (fun env p => env.set p.1 (some p.2)) env)) (fun x => x.clean = true ∧ Ee x env) := rfl
@[simp] theorem sAsgP_v {p : Pat} : sAsgP p w env De Ee = w (view env) (fun o => o.clean = true ∧ noLst o.d = true ∧ ∃ env', p.bind O.val o.d env = some env' ∧ De.nx env') (fun x => x.clean = true ∧ Ee x env) := rfl
@[simp] theorem sAsgPS_v {p : Pat} : sAsgPS p w env De Ee = w (vview env) (fun o => ∃ env', p.bind O.val o.d env = some env' ∧ De.nx env') (fun x => Ee x env) := rfl
@[simp] theorem loopD_nil {p : Pat} {s : WS} : loopD p s De Ee [] env = De.nx env := rfl
@[simp] theorem loopD_cons {p : Pat} {s : WS} {d : D} {ds : List D} : loopD p s De Ee (d :: ds) env = ∃ env', p.bind O.val d env = some env' ∧ s env' { De with nx := fun env'' => loopD p s De Ee ds env'', ct := fun env'' => loopD p s De Ee ds env'', bk := De.nx } Ee := rfl
@[simp] theorem lcD_nil {p : Pat} {wt : WT} {we : WE} {env : DEnv} {acc : List O} {Q : List O → Prop} : lcD p wt we env [] acc Q = Q acc := rfl
theorem lcD_cons {p : Pat} {wt : WT} {we : WE} {env : DEnv} {d : D} {ds : List D} {acc : List O} {Q : List O → Prop} : lcD p wt we env (d :: ds) acc Q = ∃ env', p.bind id d env = some env' ∧ wt env' (fun b => if b = true then we env' (fun o => acc.length < sizeLine ∧ lcD p wt we env ds (acc ++ [o]) Q) NoX else lcD p wt we env ds acc Q) NoX := rfl
@[simp] theorem wipeD_nil {α : Type} {env : List (Option α)} : wipeD env [] = env := rfl
@[simp] theorem wipeD_cons {α : Type} {env : List (Option α)} {v : Nat} {vs : List Nat} : wipeD env (v :: vs) = (wipeD env vs).set v none := rfl
end
/-- a comprehension whose parts are told -/
theorem lcD_told {p : Pat} {wt : WT} {we : WE} {env : DEnv} {Q : List O → Prop} (c : D → Bool) (f : D → O) : ∀ (ds : List D) (acc : List O), (∀ d ∈ ds, ∀ (R : O → Prop) (R' : Prop), (if c d = true then R (f d) else R') → ∃ env', p.bind id d env = some env' ∧ wt env' (fun b => if b = true then we env' R NoX else R') NoX) →
    acc.length + ds.length ≤ sizeLine → Q (acc ++ (ds.filter c).map f) → lcD p wt we env ds acc Q
  | [], acc, _, _, hq => by simpa using hq
  | d :: ds, acc, h, hl, hq => by
    rw [lcD_cons]
    simp only [List.length_cons] at hl
    have ih := fun acc' => lcD_told (p := p) (wt := wt) (we := we) (env := env) (Q := Q) c f ds acc' fun d hd => h d (List.mem_cons_of_mem _ hd)
    refine h d (List.mem_cons_self ..) _ _ ?_
    cases hc : c d with
    | true =>
      rw [if_pos rfl]
      rw [List.filter_cons_of_pos hc] at hq
      refine ⟨by omega, ih _ (by simp; omega) (by simpa using hq)⟩
    | false =>
      rw [if_neg (by decide)]
      rw [List.filter_cons_of_neg (by simp [hc])] at hq
      exact ih _ (by omega) hq

class Enc (α : Type) where
  enc : α → D
  dep : Nat
  ok : ∀ a, okD dep (enc a) = true
  inj : ∀ a b, eqB (enc a) (enc b) = true ↔ a = b

/-- one statement told, the rest after it -/
theorem seq_to {s1 s2 : WS} {env env' : SEnv} {De : DEnds} {Ee : SEX} (h : ∀ D' : DEnds, D'.nx env' → s1 env D' Ee) (k : s2 env' De Ee) : sSeq s1 s2 env De Ee := h { De with nx := fun e => s2 e De Ee } k
theorem seq_all {s1 s2 : WS} {env : SEnv} {De : DEnds} {Ee : SEX} (P : SEnv → Prop) (h : ∀ D' : DEnds, (∀ e, P e → D'.nx e) → s1 env D' Ee) (k : ∀ e, P e → s2 e De Ee) : sSeq s1 s2 env De Ee := h { De with nx := fun e => s2 e De Ee } k
end DL
/-! DTyp -/
namespace DL
open PySem PySem.Spec PyProof.Rows L2

mutual
theorem okD_mono : ∀ (d : D) (n m : Nat), okD n d = true → n ≤ m → okD m d = true
  | .non, _, _, _, _ => by simp
  | .bl _, _, _, _, _ => by simp
  | .int _, _, _, _, _ => by simp
  | .str _, n, m, h, _ => by simpa using h
  | .tup xs, 0, _, h, _ => by simp [okD] at h
  | .tup xs, n + 1, 0, _, l => absurd l (by omega)
  | .tup xs, n + 1, m + 1, h, l => by
    rw [okD_tup] at h ⊢
    exact okDs_mono xs n m h (by omega)
  | .lst xs, 0, _, h, _ => by simp [okD] at h
  | .lst xs, n + 1, 0, _, l => absurd l (by omega)
  | .lst xs, n + 1, m + 1, h, l => by
    rw [okD_lst] at h ⊢
    exact okDs_mono xs n m h (by omega)
  | .dct _ _ _, n, _, h, _ => by cases n <;> simp [okD] at h
  | .src, n, _, h, _ => by cases n <;> simp [okD] at h
  | .scr _, n, _, h, _ => by cases n <;> simp [okD] at h
theorem okDs_mono : ∀ (ds : List D) (n m : Nat), okDs n ds = true → n ≤ m → okDs m ds = true
  | [], _, _, _, _ => by simp
  | x :: xs, n, m, h, l => by
    have h' := Bool.and_eq_true_iff.mp (by simpa using h)
    simp only [okDs_cons, Bool.and_eq_true]
    exact ⟨okD_mono x n m h'.1 l, okDs_mono xs n m h'.2 l⟩
end
def eqBs : List D → List D → Bool
  | [], [] => true
  | x :: xs, y :: ys => eqB x y && eqBs xs ys
  | _, _ => false
theorem eqBs_py : ∀ xs ys : List D, PyData.eqvAll (toPys xs) (toPys ys) = eqBs xs ys
  | [], [] => by simp [toPys, PyData.eqvAll, eqBs]
  | x :: xs, y :: ys => by simp [toPys, PyData.eqvAll, eqBs, eqB, eqBs_py xs ys]
  | [], y :: ys => by simp [toPys, PyData.eqvAll, eqBs]
  | x :: xs, [] => by simp [toPys, PyData.eqvAll, eqBs]
@[simp] theorem eqB_int (i j : Int) : eqB (.int i) (.int j) = decide (i = j) := by
  unfold eqB; simp only [toPy, PyData.eqv]
  by_cases h : i = j <;> simp [h]
@[simp] theorem eqB_bl (i j : Bool) : eqB (.bl i) (.bl j) = decide (i = j) := by
  unfold eqB; simp only [toPy, PyData.eqv]
  cases i <;> cases j <;> rfl
@[simp] theorem eqB_str (i j : Str) : eqB (.str i) (.str j) = decide (i = j) := by
  unfold eqB; simp only [toPy, PyData.eqv]
  by_cases h : i = j <;> simp [h]
@[simp] theorem eqB_tup (xs ys : List D) : eqB (.tup xs) (.tup ys) = eqBs xs ys := by
  unfold eqB; simp only [toPy, PyData.eqv]; exact eqBs_py xs ys
@[simp] theorem eqB_lst (xs ys : List D) : eqB (.lst xs) (.lst ys) = eqBs xs ys := by
  unfold eqB; simp only [toPy, PyData.eqv]; exact eqBs_py xs ys
@[simp] theorem eqB_lt (xs ys : List D) : eqB (.lst xs) (.tup ys) = false := by
  unfold eqB; simp only [toPy, PyData.eqv]
@[simp] theorem eqB_tl (xs ys : List D) : eqB (.tup xs) (.lst ys) = false := by
  unfold eqB; simp only [toPy, PyData.eqv]
@[simp] theorem eqBs_nn : eqBs [] [] = true := rfl
@[simp] theorem eqBs_nc (y : D) (ys : List D) : eqBs [] (y :: ys) = false := rfl
@[simp] theorem eqBs_cn (y : D) (ys : List D) : eqBs (y :: ys) [] = false := rfl
@[simp] theorem eqBs_cc (x y : D) (xs ys : List D) : eqBs (x :: xs) (y :: ys) = (eqB x y && eqBs xs ys) := rfl
theorem eqBs_map {α : Type} {e : α → D} (h : ∀ a b, eqB (e a) (e b) = true ↔ a = b) : ∀ a b : List α, eqBs (a.map e) (b.map e) = true ↔ a = b
  | [], [] => by simp
  | [], b :: bs => by simp
  | a :: as, [] => by simp
  | a :: as, b :: bs => by simp [h, eqBs_map h as bs]
theorem okDs_map {α : Type} {e : α → D} {n : Nat} (h : ∀ a, okD n (e a) = true) (l : List α) : okDs n (l.map e) = true := by
  rw [okDs_iff]
  intro x hx
  obtain ⟨a, _, rfl⟩ := List.mem_map.mp hx
  exact h a

abbrev en {α : Type} [Enc α] (a : α) : D := Enc.enc a
/-- a tuple, a list, an own list of things -/
def T {α : Type} [Enc α] (l : List α) : D := .tup (l.map Enc.enc)
def L {α : Type} [Enc α] (l : List α) : D := .lst (l.map Enc.enc)
def Ow {α : Type} [Enc α] (l : List α) : O := .lst (l.map fun a => .val (Enc.enc a))
instance : Enc Int := ⟨.int, 0, fun a => by simp, fun a b => by simp⟩
instance : Enc Bool := ⟨.bl, 0, fun a => by simp, fun a b => by simp⟩
instance {α : Type} [Enc α] : Enc (List α) := ⟨T, Enc.dep α + 1, fun a => by
  show okD (Enc.dep α + 1) (.tup _) = true
  rw [okD_tup]
  exact okDs_map Enc.ok a, fun a b => by
  show eqB (.tup _) (.tup _) = true ↔ _
  rw [eqB_tup]
  exact eqBs_map Enc.inj a b⟩
/-- a list among the data -/
structure PL (α : Type) where
  l : List α
instance {α : Type} [Enc α] : Enc (PL α) := ⟨fun a => L a.l, Enc.dep α + 1, fun a => by
  show okD (Enc.dep α + 1) (.lst _) = true
  rw [okD_lst]
  exact okDs_map Enc.ok a.l, fun a b => by
  show eqB (.lst _) (.lst _) = true ↔ _
  rw [eqB_lst, eqBs_map Enc.inj a.l b.l]
  cases a; cases b; simp⟩
instance {α β : Type} [Enc α] [Enc β] : Enc (α × β) := ⟨fun a => .tup [Enc.enc a.1, Enc.enc a.2], max (Enc.dep α) (Enc.dep β) + 1, fun a => by
  rw [okD_tup]
  simp only [okDs_cons, okDs_nil, Bool.and_true, Bool.and_eq_true]
  exact ⟨okD_mono _ _ _ (Enc.ok a.1) (Nat.le_max_left ..), okD_mono _ _ _ (Enc.ok a.2) (Nat.le_max_right ..)⟩, fun a b => by
  rw [eqB_tup]
  simp only [eqBs_cc, eqBs_nn, Bool.and_true, Bool.and_eq_true, Enc.inj]
  exact ⟨fun ⟨h1, h2⟩ => Prod.ext h1 h2, fun h => by rw [h]; exact ⟨rfl, rfl⟩⟩⟩
section
variable {α β : Type} [Enc α] [Enc β] {Q : O → Prop} {E : EX}
@[simp] theorem en_int (i : Int) : Enc.enc i = D.int i := rfl
@[simp] theorem en_bool (i : Bool) : Enc.enc i = D.bl i := rfl
@[simp] theorem en_list (l : List α) : Enc.enc l = T l := rfl
@[simp] theorem en_PL (l : PL α) : Enc.enc l = L l.l := rfl
@[simp] theorem en_prod (a : α × β) : Enc.enc a = D.tup [Enc.enc a.1, Enc.enc a.2] := rfl
@[simp] theorem dep_int : Enc.dep Int = 0 := rfl
@[simp] theorem dep_bool : Enc.dep Bool = 0 := rfl
@[simp] theorem dep_list : Enc.dep (List α) = Enc.dep α + 1 := rfl
@[simp] theorem dep_PL : Enc.dep (PL α) = Enc.dep α + 1 := rfl
@[simp] theorem dep_prod : Enc.dep (α × β) = max (Enc.dep α) (Enc.dep β) + 1 := rfl
theorem T_def (l : List α) : T l = .tup (l.map Enc.enc) := rfl
theorem L_def (l : List α) : L l = .lst (l.map Enc.enc) := rfl
theorem Ow_def (l : List α) : Ow l = .lst (l.map fun a => .val (Enc.enc a)) := rfl
theorem ds_Ow (l : List α) : O.ds (l.map fun a => .val (Enc.enc a)) = l.map Enc.enc := by
  rw [O.ds_map, List.map_map]
  rfl
@[simp] theorem Ow_d (l : List α) : (Ow l).d = L l := by rw [Ow_def, O.d_lst, ds_Ow]; rfl
@[simp] theorem lenD_T {l : List α} : lenD [T l] Q = Q (.val (.int l.length)) := by rw [T_def, lenD_tup, List.length_map]
@[simp] theorem lenD_L {l : List α} : lenD [L l] Q = Q (.val (.int l.length)) := by rw [L_def, lenD_lst, List.length_map]
@[simp] theorem tupleD_T {l : List α} : tupleD [T l] Q = Q (.val (T l)) := rfl
@[simp] theorem tupleD_L {l : List α} : tupleD [L l] Q = Q (.val (T l)) := rfl
theorem lstval {l : List α} : O.lst ((l.map Enc.enc).map O.val) = Ow l := by rw [List.map_map]; rfl
@[simp] theorem listD_T {l : List α} : listD [T l] Q = Q (Ow l) := by rw [T_def, listD_tup, lstval]
@[simp] theorem listD_L {l : List α} : listD [L l] Q = Q (Ow l) := by rw [L_def, listD_lst, lstval]
@[simp] theorem itemsD_T {l : List α} {Q : List D → Prop} : itemsD (T l) Q = Q (l.map Enc.enc) := rfl
@[simp] theorem itemsD_L {l : List α} {Q : List D → Prop} : itemsD (L l) Q = Q (l.map Enc.enc) := rfl
theorem atI_map {γ δ : Type} {f : γ → δ} {l : List γ} {i : Int} : atI (l.map f) i = (atI l i).map f := by
  unfold atI
  rw [List.length_map]
  cases ixN l.length i <;> simp
@[simp] theorem ixD_T {l : List α} {i : Int} : ixD (T l) (.int i) Q = ∃ x, atI l i = some x ∧ Q (.val (Enc.enc x)) := by
  rw [T_def, ixD_tup, atI_map]
  cases atI l i <;> simp
@[simp] theorem ixD_L {l : List α} {i : Int} : ixD (L l) (.int i) Q = ∃ x, atI l i = some x ∧ Q (.val (Enc.enc x)) := by
  rw [L_def, ixD_lst, atI_map]
  cases atI l i <;> simp
@[simp] theorem addD_T {a b : List α} : addD (T a) (T b) Q = (a.length + b.length ≤ sizeLine ∧ Q (.val (T (a ++ b)))) := by
  rw [T_def, T_def, addD_tup, List.length_map, List.length_map, ← List.map_append]; rfl
@[simp] theorem addD_L {a b : List α} : addD (L a) (L b) Q = (a.length + b.length ≤ sizeLine ∧ Q (Ow (a ++ b))) := by
  rw [L_def, L_def, addD_lst, List.length_map, List.length_map, ← List.map_append, lstval]
theorem cut_map {γ δ : Type} {f : γ → δ} {l : List γ} {lo hi : Option Int} : cut (l.map f) lo hi = (cut l lo hi).map f := by
  unfold cut
  rw [List.length_map, List.map_take, List.map_drop]
@[simp] theorem sliceD_T {l : List α} {lo hi : Option Int} : sliceD (T l) lo hi Q = Q (.val (T (cut l lo hi))) := by
  rw [T_def, sliceD_tup, cut_map]; rfl
@[simp] theorem sliceD_L {l : List α} {lo hi : Option Int} : sliceD (L l) lo hi Q = Q (Ow (cut l lo hi)) := by
  rw [L_def, sliceD_lst, cut_map, lstval]
@[simp] theorem revD_T {l : List α} : revD (T l) Q = Q (.val (T l.reverse)) := by
  rw [T_def, revD_tup, ← List.map_reverse]; rfl
@[simp] theorem revD_L {l : List α} : revD (L l) Q = Q (Ow l.reverse) := by
  rw [L_def, revD_lst, ← List.map_reverse, lstval]
theorem flat_rep {γ δ : Type} {f : γ → δ} {l : List γ} {n : Nat} : (List.replicate n (l.map f)).flatten = ((List.replicate n l).flatten).map f := by
  rw [List.map_flatten, List.map_replicate]
@[simp] theorem mulA_T {l : List α} {k : Int} : mulA (T l) (.int k) Q = ((-(2 ^ 63) ≤ k ∧ k ≤ 1000 ∧ l.length ≤ 1000) ∧ Q (.val (T (List.replicate k.toNat l).flatten))) := by
  rw [T_def, mulA_tup, List.length_map, flat_rep]; rfl
@[simp] theorem mulA_L {l : List α} {k : Int} : mulA (L l) (.int k) Q = ((-(2 ^ 63) ≤ k ∧ k < 2 ^ 63 ∧ l.length * k.toNat ≤ sizeLine) ∧ Q (Ow (List.replicate k.toNat l).flatten)) := by
  rw [L_def, mulA_lst, List.length_map, flat_rep, lstval]
@[simp] theorem truD_T {l : List α} {Q : Bool → Prop} : truD Q (T l) = Q (!l.isEmpty) := by rw [T_def, truD_tup]; cases l <;> rfl
@[simp] theorem truD_L {l : List α} {Q : Bool → Prop} : truD Q (L l) = Q (!l.isEmpty) := by rw [L_def, truD_lst]; cases l <;> rfl
theorem eqB_dec [DecidableEq α] (a b : α) : eqB (Enc.enc a) (Enc.enc b) = decide (a = b) := by
  by_cases h : a = b
  · rw [(Enc.inj a b).mpr h, decide_eq_true h]
  · rw [decide_eq_false h, Bool.eq_false_iff]
    exact fun e => h ((Enc.inj a b).mp e)
@[simp] theorem eqB_T [DecidableEq α] (a b : List α) : eqB (T a) (T b) = decide (a = b) := eqB_dec (α := List α) a b
@[simp] theorem eqB_L [DecidableEq α] (a b : List α) : eqB (L a) (L b) = decide (a = b) := by
  have := eqB_dec (α := List α) a b
  rw [en_list, en_list, T_def, T_def, eqB_tup] at this
  rw [L_def, L_def, eqB_lst]
  exact this
@[simp] theorem eqB_T0 (a : List α) : eqB (T a) (.tup []) = a.isEmpty := by cases a <;> simp [T_def]
@[simp] theorem eqB_0T (a : List α) : eqB (.tup []) (T a) = a.isEmpty := by cases a <;> simp [T_def]
@[simp] theorem eqB_L0 (a : List α) : eqB (L a) (.lst []) = a.isEmpty := by cases a <;> simp [L_def]
@[simp] theorem eqB_0L (a : List α) : eqB (.lst []) (L a) = a.isEmpty := by cases a <;> simp [L_def]
@[simp] theorem okE_int (i : Int) : okE (.int i) := okD_int 8 i
@[simp] theorem okE_bl (i : Bool) : okE (.bl i) := okD_bl 8 i
@[simp] theorem okE_non : okE .non := okD_non 8
theorem okE_enc (a : α) (h : Enc.dep α ≤ 8) : okE (Enc.enc a) := okD_mono _ _ _ (Enc.ok a) h
@[simp] theorem okE_T (l : List α) (h : Enc.dep α < 8) : okE (T l) := okE_enc l h
@[simp] theorem okE_L (l : List α) (h : Enc.dep α < 8) : okE (L l) := okE_enc (PL.mk l) h
@[simp] theorem okE_tup (ds : List D) : okE (.tup ds) ↔ okDs 7 ds = true := by simp [okE]
@[simp] theorem okE_lst (ds : List D) : okE (.lst ds) ↔ okDs 7 ds = true := by simp [okE]
@[simp] theorem okD_T (l : List α) (n : Nat) (h : Enc.dep α < n) : okD n (T l) = true := okD_mono _ _ _ (Enc.ok l) h
@[simp] theorem okD_L (l : List α) (n : Nat) (h : Enc.dep α < n) : okD n (L l) = true := okD_mono _ _ _ (Enc.ok (PL.mk l)) h
@[simp] theorem view_Ow {l : List α} {r : SEnv} : view (some (Ow l) :: r) = some (L l) :: view r := by rw [view_some, Ow_d]
@[simp] theorem vview_Ow {l : List α} {r : SEnv} : vview (some (Ow l) :: r) = none :: vview r := rfl
/-- no lists inside -/
class Flat (α : Type) [Enc α] : Prop where
  flat : ∀ a : α, noLst (Enc.enc a) = true
instance : Flat Int := ⟨fun a => by simp⟩
instance : Flat Bool := ⟨fun a => by simp⟩
instance {α : Type} [Enc α] [Flat α] : Flat (List α) := ⟨fun l => by
  rw [en_list, T_def, noLst_tup, noLsts_iff]
  intro x hx
  obtain ⟨a, _, rfl⟩ := List.mem_map.mp hx
  exact Flat.flat a⟩
instance {α β : Type} [Enc α] [Enc β] [Flat α] [Flat β] : Flat (α × β) := ⟨fun a => by simp [Flat.flat]⟩
@[simp] theorem noLst_T [Flat α] (l : List α) : noLst (T l) = true := Flat.flat l
@[simp] theorem noLst_enc [Flat α] (l : α) : noLst (Enc.enc l) = true := Flat.flat l
@[simp] theorem clean_Ow [Flat α] (l : List α) : (Ow l).clean = true := by
  rw [Ow_def, O.clean_lst, O.cleans_iff]
  intro x hx
  obtain ⟨a, _, rfl⟩ := List.mem_map.mp hx
  simp
/-- own lists, by type -/
theorem Ow_get {env : SEnv} {i : Nat} {l : List α} (h : env[i]? = some (some (Ow l))) : env[i]? = some (some (.lst (l.map fun a => .val (Enc.enc a)))) := h
def snocO (l : List α) (o : O) : O := .lst ((l.map fun a => .val (Enc.enc a)) ++ [o])
@[simp] theorem snocO_int (l : List Int) (x : Int) : snocO l (.val (.int x)) = Ow (l ++ [x]) := by
  rw [snocO, Ow_def, List.map_append]; rfl
@[simp] theorem snocO_bl (l : List Bool) (x : Bool) : snocO l (.val (.bl x)) = Ow (l ++ [x]) := by
  rw [snocO, Ow_def, List.map_append]; rfl
@[simp] theorem snocO_T (l : List (List α)) (x : List α) : snocO l (.val (T x)) = Ow (l ++ [x]) := by
  rw [snocO, Ow_def, List.map_append]; rfl
theorem app_Ow {env : SEnv} {De : DEnds} {Ee : SEX} {w : WE} {i : Nat} (l : List α) (h : env[i]? = some (some (Ow l))) : sApp i w env De Ee = w (view env) (fun o => o.clean = true ∧ l.length < sizeLine ∧ De.nx (env.set i (some (snocO l o)))) (fun x => x.clean = true ∧ Ee x env) := by
  rw [sApp_v (Ow_get h)]
  simp only [List.length_map, snocO]
theorem appS_Ow {env : SEnv} {De : DEnds} {Ee : SEX} {w : WE} {i : Nat} (l : List α) (h : env[i]? = some (some (Ow l))) : sAppS i w env De Ee = w (vview env) (fun o => l.length < sizeLine ∧ De.nx (env.set i (some (snocO l o)))) (fun x => Ee x env) := by
  rw [sAppS_v (Ow_get h)]
  simp only [List.length_map, snocO]
theorem pop_Ow {env : SEnv} {De : DEnds} {Ee : SEX} {i : Nat} (l : List α) (h : env[i]? = some (some (Ow l))) : sPop i env De Ee = (l ≠ [] ∧ De.nx (env.set i (some (Ow l.dropLast)))) := by
  rw [sPop_v (Ow_get h), ← List.map_dropLast]
  simp only [ne_eq, List.map_eq_nil_iff]
  rfl
@[simp] theorem lst0_Ow : O.lst [] = Ow ([] : List α) := rfl
end
@[simp] theorem startD_1 {a : D} {N : List Str} : startD N [a] = some (.val a) :: List.replicate (N.length - 1) none := rfl
@[simp] theorem startD_2 {a b : D} {N : List Str} : startD N [a, b] = some (.val a) :: some (.val b) :: List.replicate (N.length - 2) none := rfl
@[simp] theorem startD_3 {a b c : D} {N : List Str} : startD N [a, b, c] = some (.val a) :: some (.val b) :: some (.val c) :: List.replicate (N.length - 3) none := rfl
@[simp] theorem startD_4 {a b c d : D} {N : List Str} : startD N [a, b, c, d] = some (.val a) :: some (.val b) :: some (.val c) :: some (.val d) :: List.replicate (N.length - 4) none := rfl
/-- ranges -/
theorem in62_of {i : Int} (h0 : -4611686018427387904 ≤ i) (h1 : i < 4611686018427387904) : in62 i := ⟨by omega, by omega⟩
def rngI (lo hi : Int) : List Int := (List.range (hi - lo).toNat).map fun k => lo + (k : Nat)
theorem rng_I (lo hi : Int) : rng lo hi = (rngI lo hi).map Enc.enc := by
  unfold rng rngI
  rw [List.map_map]
  rfl
theorem mem_rngI {lo hi x : Int} : x ∈ rngI lo hi ↔ lo ≤ x ∧ x < hi := by
  unfold rngI
  simp only [List.mem_map, List.mem_range]
  constructor
  · rintro ⟨k, h, rfl⟩
    omega
  · rintro ⟨h1, h2⟩
    exact ⟨(x - lo).toNat, by omega, by omega⟩
@[simp] theorem rngI_length (lo hi : Int) : (rngI lo hi).length = (hi - lo).toNat := by simp [rngI]
@[simp] theorem filter_tt {α : Type} (l : List α) : l.filter (fun _ => true) = l := List.filter_eq_self.mpr fun _ _ => rfl
/-- a comprehension of told things -/
theorem lcD_typed {α β : Type} [Enc α] [Enc β] {p : Pat} {wt : WT} {we : WE} {env : DEnv} {Q : List O → Prop} (c : α → Bool) (f : α → β) : ∀ (l : List α) (acc : List β), (∀ a ∈ l, ∀ (R : O → Prop) (R' : Prop), (if c a = true then R (.val (Enc.enc (f a))) else R') → ∃ env', p.bind id (Enc.enc a) env = some env' ∧ wt env' (fun b => if b = true then we env' R NoX else R') NoX) →
    acc.length + l.length ≤ sizeLine → (∀ os, O.lst os = Ow (acc ++ (l.filter c).map f) → D.tup (O.ds os) = T (acc ++ (l.filter c).map f) → D.lst (O.ds os) = L (acc ++ (l.filter c).map f) → O.ds os = (acc ++ (l.filter c).map f).map Enc.enc → (Flat β → O.cleans os = true) → Q os) → lcD p wt we env (l.map Enc.enc) (acc.map fun b => .val (Enc.enc b)) Q
  | [], acc, _, _, hq => hq _ (by simp [Ow_def]) (by rw [ds_Ow]; simp [T_def]) (by rw [ds_Ow]; simp [L_def]) (by rw [ds_Ow]; simp) (fun _ => clean_Ow acc)
  | d :: ds, acc, h, hl, hq => by
    rw [List.map_cons, lcD_cons]
    simp only [List.length_cons] at hl
    have ih := fun acc' => lcD_typed (p := p) (wt := wt) (we := we) (env := env) (Q := Q) c f ds acc' fun d hd => h d (List.mem_cons_of_mem _ hd)
    refine h d (List.mem_cons_self ..) _ _ ?_
    cases hc : c d with
    | true =>
      rw [if_pos rfl]
      rw [List.filter_cons_of_pos hc] at hq
      refine ⟨by simp; omega, ?_⟩
      have := ih (acc ++ [f d]) (by simp; omega) (by simpa using hq)
      rw [List.map_append] at this
      exact this
    | false =>
      rw [if_neg (by decide)]
      rw [List.filter_cons_of_neg (by simp [hc])] at hq
      exact ih _ (by omega) hq
theorem lcD_type {α β : Type} [Enc α] [Enc β] {p : Pat} {wt : WT} {we : WE} {env : DEnv} {Q : O → Prop} (c : α → Bool) (f : α → β) (l : List α) (h : ∀ a ∈ l, ∀ (R : O → Prop) (R' : Prop), (if c a = true then R (.val (Enc.enc (f a))) else R') → ∃ env', p.bind id (Enc.enc a) env = some env' ∧ wt env' (fun b => if b = true then we env' R NoX else R') NoX)
    (hl : l.length ≤ sizeLine) (hq : Q (Ow ((l.filter c).map f))) : lcD p wt we env (l.map Enc.enc) [] (fun os => Q (.lst os)) :=
  lcD_typed (Q := fun os => Q (.lst os)) c f l [] h (by simpa using hl) fun os e _ _ _ _ => by rw [e]; simpa using hq
@[simp] theorem atI_last {α : Type} (l : List α) (x : α) : atI (l ++ [x]) (-1) = some x := by
  unfold atI ixN
  rw [if_neg (by decide), if_pos (by simp; omega)]
  rw [Option.bind_some, show ((-1 : Int) + ((l ++ [x]).length : Nat)).toNat = l.length by simp; omega]
  simp
theorem atI_pos {α : Type} (l : List α) {i : Int} (h : 0 ≤ i) : atI l i = l[i.toNat]? := by
  unfold atI ixN
  rw [if_pos h]
  by_cases q : i < l.length
  · rw [if_pos q]; rfl
  · rw [if_neg q, List.getElem?_eq_none (by omega)]; rfl
@[simp] theorem atI_nat {α : Type} (l : List α) (i : Nat) : atI l (i : Int) = l[i]? := by
  rw [atI_pos l (by omega)]; simp
@[simp] theorem T_inj {α : Type} [Enc α] (a b : List α) : T a = T b ↔ a = b := by
  constructor
  · intro h
    refine (Enc.inj a b).mp ?_
    rw [en_list, en_list, h, ← en_list]
    exact (Enc.inj b b).mpr rfl
  · intro h; rw [h]
@[simp] theorem fPick_v {n : Int} {Q : O → Prop} {E : EX} : fPick [.src, .int n] Q E ↔ n.natAbs.log2 < 9000 ∧ ∀ r : Int, 0 ≤ r → r < max 1 n → Q (.val (.int r)) := by
  constructor
  · rintro ⟨m, e, h⟩
    simp only [List.cons.injEq, D.int.injEq, true_and, and_true] at e
    subst e
    exact h
  · exact fun h => ⟨n, rfl, h⟩
theorem log9 {n : Int} (h0 : -18446744073709551616 < n) (h1 : n < 18446744073709551616) : n.natAbs.log2 < 9000 := by
  have : n.natAbs < 2 ^ 64 := by omega
  by_cases z : n.natAbs = 0
  · rw [z]; decide
  · have := (Nat.log2_lt z).mpr this
    omega
/-- what a draw tells -/
theorem pick_of {n : Int} {Q : O → Prop} {E : EX} (h0 : -18446744073709551616 < n) (h1 : n < 18446744073709551616) (h : ∀ r : Int, 0 ≤ r → r < max 1 n → Q (.val (.int r))) : fPick [.src, .int n] Q E := fPick_v.mpr ⟨log9 h0 h1, h⟩
abbrev fs__law_pick : FSp := fPick
abbrev fs__law_source : FSp := fSrc
theorem cut_lo {α : Type} (l : List α) {i : Int} (h : 0 ≤ i) : cut l none (some i) = l.take i.toNat := by
  show (l.drop 0).take ((if i < 0 then (i + (l.length : Int)).toNat else min i.toNat l.length) - 0) = _
  rw [if_neg (by omega), List.drop_zero, Nat.sub_zero]
  by_cases q : i.toNat ≤ l.length
  · rw [Nat.min_eq_left q]
  · rw [Nat.min_eq_right (by omega), List.take_of_length_le (Nat.le_refl _), List.take_of_length_le (by omega)]
theorem cut_hi {α : Type} (l : List α) {i : Int} (h : 0 ≤ i) : cut l (some i) none = l.drop i.toNat := by
  show (l.drop (if i < 0 then (i + (l.length : Int)).toNat else min i.toNat l.length)).take (l.length - (if i < 0 then (i + (l.length : Int)).toNat else min i.toNat l.length)) = _
  rw [if_neg (by omega), ← List.length_drop, List.take_of_length_le (Nat.le_refl _)]
  by_cases q : i.toNat ≤ l.length
  · rw [Nat.min_eq_left q]
  · rw [Nat.min_eq_right (by omega), List.drop_of_length_le (Nat.le_refl _), List.drop_of_length_le (by omega)]
end DL
/-! DRep -/
namespace DL
open PySem PySem.Spec PyProof.Rows L2
abbrev sOk (x : Str) : Prop := PyData.strOk x = true
theorem sOk_iff (x : Str) : sOk x ↔ ∀ c ∈ x.cps.toList, c < 1114112 := by
  show PyData.strOk x = true ↔ _
  unfold PyData.strOk
  rw [← Array.all_toList, List.all_eq_true]
  simp
theorem sOk_app {x y : Str} (h : sOk x) (h' : sOk y) : sOk (x ++ y) := by
  rw [sOk_iff] at *
  intro c hc
  have e : (x ++ y).cps = x.cps ++ y.cps := rfl
  rw [e, Array.toList_append, List.mem_append] at hc
  exact hc.elim (h c) (h' c)
theorem sOk_of (s : String) : sOk (Str.ofString s) := by
  rw [sOk_iff, Str.ofString_eq_toList]
  intro c hc
  obtain ⟨d, _, rfl⟩ := List.mem_map.mp (by simpa using hc)
  have := d.valid
  rcases this with h | ⟨_, h⟩
  · have : d.val.toNat < 55296 := h
    show d.val.toNat < _
    omega
  · exact h
theorem sOk_join {s : Str} (hs : sOk s) : ∀ {l : List Str}, (∀ x ∈ l, sOk x) → sOk (Str.join s l)
  | [], _ => sOk_of ""
  | [x], h => h x (by simp)
  | x :: y :: r, h => sOk_app (sOk_app (h x (by simp)) hs) (sOk_join hs fun z hz => h z (List.mem_cons_of_mem _ hz))
theorem sOk_from : ∀ {l : List Str} {k : Nat} {acc : Str}, sOk acc → (∀ x ∈ l, sOk x) → sOk (textFrom k acc l)
  | [], _, _, h, _ => h
  | x :: r, k, acc, h, hl => by
    unfold textFrom
    exact sOk_from (sOk_app (sOk_app h (sOk_of _)) (hl x (by simp))) fun z hz => hl z (List.mem_cons_of_mem _ hz)
theorem sOk_list {l : List Str} (h : ∀ x ∈ l, sOk x) : sOk (listText l) := sOk_app (sOk_from (sOk_of _) h) (sOk_of _)
theorem sOk_tup {l : List Str} (h : ∀ x ∈ l, sOk x) : sOk (tupleText l) := sOk_app (sOk_app (sOk_of _) (sOk_join (sOk_of _) h)) (sOk_of _)
theorem rc_ok {q c x : Nat} (hc : c < 1114112) (h : x ∈ Builtin.Str.reprChar q c) : x < 1114112 := by
  have hx : ∀ (w : Nat), x ∈ List.replicate (w - ((Nat.toDigits 16 c).map Char.toNat).length) 48 ++ (Nat.toDigits 16 c).map Char.toNat → x < 1114112 := fun w h => by
    rcases List.mem_append.mp h with h | h
    · rw [(List.mem_replicate.mp h).2]; decide
    · obtain ⟨d, _, rfl⟩ := List.mem_map.mp h
      rcases d.valid with h | ⟨_, h⟩
      · have : d.val.toNat < 55296 := h
        show d.val.toNat < _
        omega
      · exact h
  unfold Builtin.Str.reprChar at h
  dsimp only at h
  split at h
  · simp at h; omega
  split at h
  · simp at h; omega
  split at h
  · simp at h; omega
  split at h
  · simp at h; omega
  split at h
  · simp at h; omega
  split at h
  · rcases List.mem_append.mp h with h | h
    · simp at h; omega
    · exact hx _ h
  split at h
  · rcases List.mem_append.mp h with h | h
    · simp at h; omega
    · exact hx _ h
  · rcases List.mem_append.mp h with h | h
    · simp at h; omega
    · exact hx _ h
theorem rt_fold {q : Nat} : ∀ {l : List Nat} {acc : Array Nat}, (∀ c ∈ acc.toList, c < 1114112) → (∀ c ∈ l, c < 1114112) → ∀ c ∈ (l.foldl (fun out c => out ++ (Builtin.Str.reprChar q c).toArray) acc).toList, c < 1114112
  | [], _, h, _ => h
  | x :: r, acc, h, hl => by
    refine rt_fold (l := r) (fun c hc => ?_) fun c hc => hl c (List.mem_cons_of_mem _ hc)
    rw [Array.toList_append, List.mem_append] at hc
    exact hc.elim (h c) fun hc => rc_ok (hl x (by simp)) hc
theorem sOk_repr {x : Str} (h : sOk x) : sOk (reprText x) := by
  have hq : reprQuote x < 1114112 := by
    unfold reprQuote
    split <;> decide
  rw [sOk_iff] at *
  intro c hc
  unfold reprText at hc
  simp only [Array.toList_push, List.mem_append, List.mem_singleton] at hc
  rcases hc with hc | rfl
  · rw [← Array.foldl_toList] at hc
    exact rt_fold (l := x.cps.toList) (by simpa using hq) h c hc
  · exact hq
mutual
theorem sOk_shown : ∀ (d : D) (n : Nat), okR n d = true → sOk (toPy d).shown
  | .non, _, _ => by simp only [toPy, PyData.shown]; exact sOk_of _
  | .bl b, _, _ => by simp only [toPy, PyData.shown]; cases b <;> exact sOk_of _
  | .int i, _, _ => by simp only [toPy, PyData.shown]; exact sOk_of _
  | .str x, _, h => by simp only [toPy, PyData.shown]; exact sOk_repr (by simpa using h)
  | .tup xs, 0, h => by simp [okR] at h
  | .tup xs, n + 1, h => by simp only [toPy, PyData.shown]; exact sOk_tup (sOk_showns xs n (by simpa using h))
  | .lst xs, 0, h => by simp [okR] at h
  | .lst xs, n + 1, h => by simp only [toPy, PyData.shown]; exact sOk_list (sOk_showns xs n (by simpa using h))
  | .dct _ _ _, n, h => by
    obtain ⟨rfl, rfl, _⟩ := okR_dct_inv h
    simp only [toPy, PyData.shown, PyData.shownKv]
    unfold sOk
    decide +kernel
  | .src, n, h => by cases n <;> simp [okR] at h
  | .scr _, n, h => by cases n <;> simp [okR] at h
theorem sOk_showns : ∀ (ds : List D) (n : Nat), okRs n ds = true → ∀ x ∈ PyData.shownAll (toPys ds), sOk x
  | [], _, _ => by simp [toPys, PyData.shownAll]
  | d :: ds, n, h => by
    have h' := Bool.and_eq_true_iff.mp (by simpa using h)
    simp only [toPys, PyData.shownAll, List.mem_cons]
    rintro x (rfl | hx)
    · exact sOk_shown d n h'.1
    · exact sOk_showns ds n h'.2 x hx
end
theorem okE_shown {d : D} (h : okP d) : okE (.str (shown d)) := by
  show okD 8 _ = true
  rw [okD_str]
  exact sOk_shown d 8 h
@[simp] theorem okE_sh (d : D) (h : okP d) : okE (.str (shown d)) := okE_shown h
@[simp] theorem okP_of (d : D) (h : okE d) : okP d := okR_of d 8 h
@[simp] theorem okP_tup (ds : List D) : okP (.tup ds) ↔ okRs 7 ds = true := by simp [okP]
@[simp] theorem okP_lst (ds : List D) : okP (.lst ds) ↔ okRs 7 ds = true := by simp [okP]
@[simp] theorem okR_T {α : Type} [Enc α] (l : List α) (n : Nat) (h : Enc.dep α < n) : okR n (T l) = true := okR_of _ _ (okD_T l n h)
@[simp] theorem okR_L {α : Type} [Enc α] (l : List α) (n : Nat) (h : Enc.dep α < n) : okR n (L l) = true := okR_of _ _ (okD_L l n h)
@[simp] theorem okP_T {α : Type} [Enc α] (l : List α) (h : Enc.dep α < 8) : okP (T l) := okP_of _ (okE_T l h)
@[simp] theorem okP_L {α : Type} [Enc α] (l : List α) (h : Enc.dep α < 8) : okP (L l) := okP_of _ (okE_L l h)
theorem tup0 : D.tup [] = T ([] : List Int) := rfl
theorem tup2 (a b : Int) : D.tup [.int a, .int b] = T [a, b] := rfl
theorem tup3 (a b c : Int) : D.tup [.int a, .int b, .int c] = T [a, b, c] := rfl
theorem tup4 (a b c d : Int) : D.tup [.int a, .int b, .int c, .int d] = T [a, b, c, d] := rfl
@[simp] theorem atI_zero {α : Type} (x : α) (l : List α) : atI (x :: l) 0 = some x := by
  rw [atI_pos _ (by decide)]; rfl
theorem lst1 (a : Int) : D.lst [.int a] = L [a] := rfl
theorem filter_one {n c : Int} (h0 : 0 ≤ c) (h1 : c < n) : (rngI 0 n).filter (fun m => decide (m = c)) = [c] := by
  have key : ∀ k : Nat, ((List.range k).map fun (i : Nat) => (0 : Int) + (i : Int)).filter (fun m => decide (m = c)) = if c.toNat < k then [c] else [] := by
    intro k
    induction k with
    | zero => simp
    | succ k ih =>
      have e1 : [(0 : Int) + (k : Int)].filter (fun m => decide (m = c)) = if (0 : Int) + k = c then [c] else [] := by
        by_cases h : (0 : Int) + k = c
        · simp [h]
        · have h' : ¬ (k : Int) = c := by omega
          simp [h']
      rw [List.range_succ, List.map_append, List.filter_append, ih, List.map_cons, List.map_nil, e1]
      by_cases q : c.toNat < k
      · rw [if_pos q, if_neg (show ¬ (0 : Int) + k = c by omega), if_pos (show c.toNat < k + 1 by omega)]
        rfl
      · by_cases q2 : c.toNat = k
        · rw [if_neg q, if_pos (show (0 : Int) + k = c by omega), if_pos (show c.toNat < k + 1 by omega)]
          rfl
        · rw [if_neg q, if_neg (show ¬ (0 : Int) + k = c by omega), if_neg (show ¬ c.toNat < k + 1 by omega)]
          rfl
  unfold rngI
  rw [Int.sub_zero, key, if_pos (by omega)]
@[simp] theorem fSrc_v {ns : List Int} {Q : O → Prop} {E : EX} : fSrc [.scr ns] Q E ↔ ns.length ≤ sizeLine ∧ Q (.val .src) := by
  constructor
  · rintro ⟨m, e, h⟩
    simp only [List.cons.injEq, D.scr.injEq, and_true] at e
    subst e
    exact h
  · exact fun h => ⟨ns, rfl, h⟩
/-- a comprehension of things not told, but of a kind -/
theorem lcD_any {α β : Type} [Enc α] [Enc β] {p : Pat} {we : WE} {env : DEnv} {Q : List O → Prop} (P : β → Prop) : ∀ (l : List α) (acc : List β), (∀ b ∈ acc, P b) → (∀ a ∈ l, ∀ R : O → Prop, (∀ b : β, P b → R (.val (Enc.enc b))) → ∃ env', p.bind id (Enc.enc a) env = some env' ∧ we env' R NoX) → acc.length + l.length ≤ sizeLine →
    (∀ (r : List β) os, r.length = acc.length + l.length → (∀ b ∈ r, P b) → O.lst os = Ow r → D.tup (O.ds os) = T r → D.lst (O.ds os) = L r → O.ds os = r.map Enc.enc → (Flat β → O.cleans os = true) → Q os) → lcD p wYes we env (l.map Enc.enc) (acc.map fun b => .val (Enc.enc b)) Q
  | [], acc, ha, _, _, hq => hq acc _ (by simp) ha (by simp [Ow_def]) (by rw [ds_Ow]; simp [T_def]) (by rw [ds_Ow]; simp [L_def]) (by rw [ds_Ow]) (fun _ => clean_Ow acc)
  | d :: ds, acc, ha, h, hl, hq => by
    rw [List.map_cons, lcD_cons]
    simp only [List.length_cons] at hl hq
    obtain ⟨env', h1, h2⟩ := h d (List.mem_cons_self ..) (fun o => acc.length < sizeLine ∧ lcD p wYes we env (ds.map Enc.enc) ((acc.map fun b => .val (Enc.enc b)) ++ [o]) Q) fun b hb => by
      refine ⟨by omega, ?_⟩
      have := lcD_any (p := p) (we := we) (env := env) (Q := Q) P ds (acc ++ [b]) (fun c hc => by
        rcases List.mem_append.mp hc with hc | hc
        · exact ha c hc
        · obtain rfl := List.mem_singleton.mp hc
          exact hb) (fun d hd => h d (List.mem_cons_of_mem _ hd)) (by simp; omega) fun r os hr => hq r os (by simp at hr; omega)
      rw [List.map_append] at this
      exact this
    refine ⟨env', h1, ?_⟩
    simp only [wYes_v, if_pos, List.length_map]
    exact h2
theorem noLsts_of {β : Type} [Enc β] [Flat β] {r : List β} {ds : List D} (e : ds = r.map Enc.enc) : noLsts ds = true := by
  rw [e]
  have := noLst_T r
  rwa [T_def, noLst_tup] at this
theorem tup1 (a : Int) : D.tup [.int a] = T [a] := rfl
theorem cut_mid {α : Type} (l : List α) {i j : Int} (h0 : 0 ≤ i) (h1 : i ≤ j) (h2 : j ≤ l.length) : cut l (some i) (some j) = (l.drop i.toNat).take (j - i).toNat := by
  show (l.drop (if i < 0 then (i + (l.length : Int)).toNat else min i.toNat l.length)).take ((if j < 0 then (j + (l.length : Int)).toNat else min j.toNat l.length) - (if i < 0 then (i + (l.length : Int)).toNat else min i.toNat l.length)) = _
  rw [if_neg (by omega), if_neg (by omega), Nat.min_eq_left (by omega), Nat.min_eq_left (by omega)]
  congr 1
  omega
/-- a test told -/
theorem sIf_run {t : WT} {s1 s2 : WS} {env : SEnv} {De : DEnds} {Ee : SEX} (b : Bool) (h : ∀ Q : Bool → Prop, Q b → t (view env) Q (fun x => x.clean = true ∧ Ee x env)) (k : if b = true then s1 env De Ee else s2 env De Ee) : sIf t s1 s2 env De Ee := h _ k
end DL
/-! DRep2 -/
namespace DL
open PySem PySem.Spec PyProof.Rows L2
section
variable {α β : Type} [Enc α] [Enc β] {env : DEnv} {Q : O → Prop} {E : EX} {w wa wb : WE}
@[simp] theorem iEnD_v {Q : List D → Prop} : iEnD w env Q E = w env (fun o => itemsD o.d fun ds => Q (enumF 0 ds)) E := rfl
@[simp] theorem iZs_v {Q : List D → Prop} : iZs wa wb env Q E = wa env (fun o => wb env (fun u => seqQ (fun ds => seqQ (fun es => ds.length = es.length ∧ Q (zipF ds es)) u.d) o.d) E) E := rfl
@[simp] theorem seqQ_T {Q : List D → Prop} {l : List α} : seqQ Q (T l) = Q (l.map Enc.enc) := rfl
@[simp] theorem seqQ_L {Q : List D → Prop} {l : List α} : seqQ Q (L l) = Q (l.map Enc.enc) := rfl
@[simp] theorem seqQ_tup {Q : List D → Prop} {l : List D} : seqQ Q (.tup l) = Q l := rfl
@[simp] theorem seqQ_lst {Q : List D → Prop} {l : List D} : seqQ Q (.lst l) = Q l := rfl
def enumI : Int → List α → List (Int × α)
  | _, [] => []
  | i, a :: as => (i, a) :: enumI (i + 1) as
@[simp] theorem enumF_enc (l : List α) (k : Int) : enumF k (l.map Enc.enc) = (enumI k l).map Enc.enc := by
  induction l generalizing k with
  | nil => rfl
  | cons a l ih => simp only [List.map_cons, enumF, enumI, ih]; rfl
@[simp] theorem enumI_length (l : List α) (k : Int) : (enumI k l).length = l.length := by
  induction l generalizing k with
  | nil => rfl
  | cons a l ih => simp [enumI, ih]
@[simp] theorem zipF_enc (a : List α) (b : List β) : zipF (a.map Enc.enc) (b.map Enc.enc) = (a.zip b).map Enc.enc := by
  induction a generalizing b with
  | nil => simp [zipF]
  | cons x a ih =>
    cases b with
    | nil => simp [zipF]
    | cons y b => simp only [List.map_cons, zipF, List.zip_cons_cons, ih]; rfl
theorem map_int_inj : ∀ {a b : List Int}, a.map Enc.enc = b.map D.int → a = b
  | [], [], _ => rfl
  | [], _ :: _, h => by simp at h
  | _ :: _, [], h => by simp at h
  | x :: a, y :: b, h => by
    simp only [List.map_cons, List.cons.injEq, en_int, D.int.injEq] at h
    rw [h.1, map_int_inj h.2]
theorem map_bl_inj : ∀ {a b : List Bool}, a.map Enc.enc = b.map D.bl → a = b
  | [], [], _ => rfl
  | [], _ :: _, h => by simp at h
  | _ :: _, [], h => by simp at h
  | x :: a, y :: b, h => by
    simp only [List.map_cons, List.cons.injEq, en_bool, D.bl.injEq] at h
    rw [h.1, map_bl_inj h.2]
@[simp] theorem sumD_L {l : List Int} : sumD [L l] Q ↔ Q (.val (.int l.sum)) :=
  ⟨fun ⟨ns, e, q⟩ => by rw [map_int_inj e]; exact q, fun q => ⟨l, rfl, q⟩⟩
@[simp] theorem maxLD_L {l : List Int} : maxLD [L l] Q ↔ 0 < l.length ∧ ∀ m, m ∈ l → (∀ y, y ∈ l → y ≤ m) → Q (.val (.int m)) :=
  ⟨fun ⟨ns, e, q⟩ => by rw [map_int_inj e]; exact q, fun q => ⟨l, rfl, q⟩⟩
@[simp] theorem minLD_L {l : List Int} : minLD [L l] Q ↔ 0 < l.length ∧ ∀ m, m ∈ l → (∀ y, y ∈ l → m ≤ y) → Q (.val (.int m)) :=
  ⟨fun ⟨ns, e, q⟩ => by rw [map_int_inj e]; exact q, fun q => ⟨l, rfl, q⟩⟩
@[simp] theorem allD_L {l : List Bool} : allD [L l] Q ↔ Q (.val (.bl (l.all id))) :=
  ⟨fun ⟨ns, e, q⟩ => by rw [map_bl_inj e]; exact q, fun q => ⟨l, rfl, q⟩⟩
@[simp] theorem anyD_L {l : List Bool} : anyD [L l] Q ↔ Q (.val (.bl (l.any id))) :=
  ⟨fun ⟨ns, e, q⟩ => by rw [map_bl_inj e]; exact q, fun q => ⟨l, rfl, q⟩⟩
@[simp] theorem sortedD_L {l : List Int} : sortedD [L l] Q ↔ ∀ ns : List Int, ns.Perm l → ns.Pairwise (· ≤ ·) → Q (Ow ns) := by
  have e : ∀ ns : List Int, O.lst ((ns.map D.int).map O.val) = Ow ns := fun ns => by rw [List.map_map]; rfl
  constructor
  · rintro ⟨ns, h, q⟩ ns' h1 h2
    rw [map_int_inj h] at h1
    have := q ns' h1 h2
    rwa [e] at this
  · intro q
    refine ⟨l, rfl, fun ns' h1 h2 => ?_⟩
    rw [e]
    exact q ns' h1 h2
@[simp] theorem intQ_v {Q : Int → Prop} {i : Int} : intQ Q (.int i) = Q i := rfl
@[simp] theorem rg1_v {Q : Int → Int → Prop} : rg1 wa env Q E = wa env (fun o => intQ (fun n => Q 0 n) o.d) E := rfl
@[simp] theorem rg2_v {Q : Int → Int → Prop} : rg2 wa wb env Q E = wa env (fun o => intQ (fun i => wb env (fun u => intQ (fun j => Q i j) u.d) E) o.d) E := rfl
theorem rng_Ow (i j : Int) : O.lst ((rng i j).map .val) = Ow (rngI i j) := by rw [rng_I, lstval]
theorem rng_T (i j : Int) : D.tup (rng i j) = T (rngI i j) := by rw [rng_I]; rfl
@[simp] theorem eLstRg_v {w : WR} : eLstRg w env Q E = w env (fun i j => RgOk i j ∧ Q (Ow (rngI i j))) E := by
  unfold eLstRg
  simp only [rng_Ow]
@[simp] theorem eTupRg_v {w : WR} : eTupRg w env Q E = w env (fun i j => RgOk i j ∧ Q (.val (T (rngI i j)))) E := by
  unfold eTupRg
  simp only [rng_T]
end
/-- an own list with one thing set -/
def setO {α : Type} [Enc α] (l : List α) (j : Nat) (o : O) : O := .lst ((l.map fun a => .val (Enc.enc a)).set j o)
@[simp] theorem setO_int (l : List Int) (j : Nat) (x : Int) : setO l j (.val (.int x)) = Ow (l.set j x) := by
  rw [setO, Ow_def, List.map_set]; rfl
@[simp] theorem setO_T {α : Type} [Enc α] (l : List (List α)) (j : Nat) (x : List α) : setO l j (.val (T x)) = Ow (l.set j x) := by
  rw [setO, Ow_def, List.map_set]; rfl
section
variable {env : SEnv} {De : DEnds} {Ee : SEX} {wi we : WE} {i : Nat}
theorem ix_Ow {α : Type} [Enc α] (l : List α) (h : env[i]? = some (some (Ow l))) : sIx i wi we env De Ee = we (view env) (fun o => o.clean = true ∧ wi (view env) (fun k => k.clean = true ∧ ∃ n j, k.d = .int n ∧ ixN l.length n = some j ∧ De.nx (env.set i (some (setO l j o)))) (fun x => x.clean = true ∧ Ee x env)) (fun x => x.clean = true ∧ Ee x env) := by
  show ownD env[i]? _ = _
  rw [h]
  simp only [Ow_def, ownD, evC, List.length_map, setO]
theorem augIx_Ow (l : List Int) {f : D → D → PQ} (h : env[i]? = some (some (Ow l))) : sAugIx i f wi we env De Ee = wi (view env) (fun k => k.clean = true ∧ ∃ n j m, k.d = .int n ∧ ixN l.length n = some j ∧ l[j]? = some m ∧
    we (view env) (fun o => o.clean = true ∧ f (.int m) o.d fun z => ∃ e, z = .val e ∧ noLst e = true ∧ De.nx (env.set i (some (setO l j (.val e))))) (fun x => x.clean = true ∧ Ee x env)) (fun x => x.clean = true ∧ Ee x env) := by
  have key : ∀ j (m : Int), ((l.map fun a => O.val (Enc.enc a))[j]? = some (O.val (.int m))) = (l[j]? = some m) := fun j m => by
    rw [List.getElem?_map]
    cases l[j]? with
    | none => simp
    | some x => simp
  show ownD env[i]? _ = _
  rw [h]
  simp only [Ow_def, ownD, evC, List.length_map, setO, key]
@[simp] theorem sTry_v {tbl : List (Str × Bool)} {sb sh : WS} : sTry tbl sb sh env De Ee = sb env De (fun e env' => match tbl.lookup e.cls with | some true => sh env' De (fun _ _ => False) | some false => Ee e env' | none => False) := rfl
end
theorem ixN_nat {n i : Nat} (h : i < n) : ixN n (i : Int) = some i := by
  unfold ixN
  rw [if_pos (by omega), if_pos (by omega)]
  rfl
theorem ixN_pos {n : Nat} {i : Int} (h0 : 0 ≤ i) (h : i < n) : ixN n i = some i.toNat := by
  unfold ixN
  rw [if_pos h0, if_pos h]
theorem RgOk_of {i j : Int} (h0 : 0 ≤ i) (h1 : i ≤ 1000000) (h2 : j ≤ 1000000) (h3 : -1000000 ≤ j) : RgOk i j := ⟨by omega, by omega, by omega, by omega, by omega⟩
end DL
/-! DPrim5 -/
namespace DL
open PySem PySem.Spec PyProof.Rows L2

inductive Kd where | int | bool | str | tuple | list | dict
def Kd.nm : Kd → String
  | .int => "int" | .bool => "bool" | .str => "str" | .tuple => "tuple" | .list => "list" | .dict => "dict"
def isK : Kd → D → Bool
  | .int, .int _ => true | .int, .bl _ => true | .bool, .bl _ => true | .str, .str _ => true | .tuple, .tup _ => true
  | .list, .lst _ => true | .list, .scr _ => true | .dict, .dct _ _ _ => true | .dict, .src => true | _, _ => false
def tyD : D → String
  | .non => "NoneType" | .bl _ => "bool" | .int _ => "int" | .str _ => "str" | .tup _ => "tuple" | .lst _ => "list" | .scr _ => "list" | .dct _ _ _ => "dict" | .src => "dict"
inductive TyY (K : PySem.W.Frag) (H : Hp) : V → Value → Prop where
  | x {v : V} {t : Value} (h : TyX K H v t) : TyY K H v t
  | fT {a : Addr} {w : World} {kvs : List (NestedKey × Addr × V)} (e : H a = some (dNo w a kvs)) : TyY K H (.ref a) (.type "dict")
theorem kit_of2 {X : Cx} {pins : List (Addr × Obj)} {σ : L2.St} {H : Hp} {s : Shared} {x : V} {u t : Value} (I : Inv X pins σ H s) (rx : RelV x u) (ty : TyY X.K H x t) : ∃ P : Heap → Prop, PySem.W.KitX X.K u t P ∧ P s.heap ∧ u ≠ .builtin "__main__.__loader__#opaque" := by
  cases ty with
  | x h => exact kit_of I rx h
  | @fT a w kvs ea =>
    cases (show u = Value.ref a from rx)
    obtain ⟨_, _, _, _, o, es, ep, h1, h2, _⟩ := (show ObjOk X.prog X.w H s.heap a (dNo w a kvs) from I.hok a _ ea).1
    exact ⟨_, PySem.W.kitx_dict, ⟨o, h1, h2.1⟩, fun z => nomatch z⟩
def rIsi2 (K : PySem.W.Frag) : List V → Hp → VK → Prop := fun xs H Q => ∃ (x c : V) (t u : Value) (b : Bool), xs = [x, c] ∧ ClsV c u ∧ TyY K H x t ∧ PySem.W.kitOne K t u = some b ∧ Q (.bl b) H
theorem call_isi2 {X : Cx} : CallR X (.builtin "isinstance") (rIsi2 X.K) := by
  intro pins s σ H xs us Q I r h
  obtain ⟨x, c, t, u, b, rfl, k, ty, e, q⟩ := h
  obtain ⟨u1, u2, rfl, r1, r2⟩ := vals2 r
  have e2 := k.eq r2
  subst e2
  obtain ⟨P, Z, p, hx⟩ := kit_of2 I r1 ty
  exact PySem.W.kia_one Z I.kIn p e hx fun tk => ⟨.bl b, H, I.tok tk, rfl, q⟩
theorem SqL.tyY {K : PySem.W.Frag} {H : Hp} {a : Addr} {xs : List V} (h : SqL K H a xs) : TyY K H (.ref a) (.type "list") := by
  rcases h with (h | ⟨o, h⟩) | ⟨o, its, n, h1, h2, _⟩
  · exact .x (.base (.lst h))
  · exact .x (.base (.frz h))
  · exact .x (.kList h1 h2)
theorem SqT.tyY {K : PySem.W.Frag} {H : Hp} {a : Addr} {xs : List V} (h : SqT K H a xs) : TyY K H (.ref a) (.type "tuple") := by
  rcases h with (h | ⟨o, h⟩) | ⟨o, its, n, h1, h2, _⟩
  · exact .x (.base (.tup h))
  · exact .x (.fTuple h)
  · exact .x (.kTuple h1 h2)
theorem At.tyY {K : PySem.W.Frag} {g : Gh} (ok : g.Ok) {v : V} {d : D} (h : At K g.Z g.F v d) : TyY K g.H v (.type (tyD d)) := by
  cases h with
  | non => exact .x (.base .non)
  | bl b => exact .x (.base (.bl b))
  | int i => exact .x (.base (.int i))
  | str x => exact .x (.base (.str x))
  | tup h _ _ => exact SqT.tyY (.inl (.inr ⟨_, ok.sub _ _ h⟩))
  | lst h _ => exact SqL.tyY (SqL.of (ok.sub _ _ h))
  | scr h => exact SqL.tyY (ok.sub.sqL h)
  | dctK h _ =>
    rcases ok.sub.rd h with h | ⟨o, h⟩
    · exact .x (.base (.dK h))
    · exact .x (.fDict h)
  | dctT h _ _ _ => exact .fT (ok.sub _ _ h)
  | src h =>
    obtain ⟨cells, left, mixed, turn, h1, _⟩ := (ok.src.ok _ h).ex
    exact .x (.base (.dK h1))
theorem kitOne_of {K : PySem.W.Frag} (k : Kd) (d : D) : PySem.W.kitOne K (.type (tyD d)) (.type k.nm) = some (isK k d) := by
  cases k <;> cases d <;> (refine kit_ty ?_; simp only [tyD, isK, Kd.nm]; decide +kernel)
section
variable {X : Cx} {W : WX} {w : WE} {e : Expr} {pos p pn : Pos}
def eIsi (k : Kd) (w : WE) : WE := fun env Q E => w env (fun o => Q (.val (.bl (isK k o.d)))) E
theorem le_isi {nm : String} {k : Kd} (hk : k.nm = nm) {tb : TE} (hb : ∀ σ H Q, Q (.ty nm) H → tb σ H Q) (σ : L2.St) (H : Hp) (Q : VK) (h : LE X W (eIsi k w) σ H Q) : LE X W w σ H fun x H1 => tb σ H1 fun y H2 => rIsi2 X.K [x, y] H2 Q := by
  subst hk
  obtain ⟨g, env, Qd, Ed, eH, es, h, kq, kx⟩ := h
  subst eH
  refine LE.go (R := fun d => Qd (.val (.bl (isK k d)))) es h (fun v d g1 s1 a1 h1 => hb _ _ _ ?_) kx
  exact ⟨v, _, _, _, _, rfl, .ty _, a1.tyY s1.ok, kitOne_of k d, kq _ _ g1 s1 (.val (.bl _)) h1⟩
theorem de_isi {x : Str} (k : Kd) (hm : X.mg "isinstance" = none) (hc : X.mg x = none) (hb : bootBuiltins x = some (.type k.nm)) (he : DE X W e w) (hg : Gl X "isinstance" := by rfl) (hgc : Gl X x := by rfl)
    (hn : x ≠ "__name__" := by decide) (hd : (x == ("__debug__" : Str)) = false := by decide) (hbi : bootBuiltins "isinstance" = some (.builtin "isinstance") := by decide +kernel)
    (hs : starEach [e, .Name x pn] X.env = (false, eval e X.env) :: starEach [.Name x pn] X.env := by rfl) (hs2 : starEach [.Name x pn] X.env = (false, eval (.Name x pn) X.env) :: starEach [] X.env := by rfl) (hp : (backTo pos (starEach [.Name x pn] X.env)).any (·.1) = false := by rfl) :
    DE X W (.Call (.Name "isinstance" p) [e, .Name x pn] [] pos) (eIsi k w) :=
  pe_imp (pe_callB call_isi2 hg hm hbi (pa_cons he (pa_cons (pe_bltn (v := .ty k.nm) hgc hc hb rfl hn hd) pa_nil hs2) hs) (by decide) (by decide) hs hp) fun σ H Q h => by
    have := le_isi (X := X) (W := W) (nm := k.nm) rfl (tb := tC (.ty k.nm)) (fun _ _ _ q => q) σ H Q h
    exact this
end

def eq0D : D → D → PQ
  | .lst ds, .lst [] => fun Q => Q (.val (.bl ds.isEmpty))
  | .tup ds, .tup [] => fun Q => Q (.val (.bl ds.isEmpty))
  | a, b => eqD a b
def ne0D : D → D → PQ
  | .lst ds, .lst [] => fun Q => Q (.val (.bl (!ds.isEmpty)))
  | .tup ds, .tup [] => fun Q => Q (.val (.bl (!ds.isEmpty)))
  | a, b => neD a b
@[simp] theorem eq0D_l {ds : List D} {Q : O → Prop} : eq0D (.lst ds) (.lst []) Q = Q (.val (.bl ds.isEmpty)) := rfl
@[simp] theorem eq0D_t {ds : List D} {Q : O → Prop} : eq0D (.tup ds) (.tup []) Q = Q (.val (.bl ds.isEmpty)) := rfl
@[simp] theorem ne0D_l {ds : List D} {Q : O → Prop} : ne0D (.lst ds) (.lst []) Q = Q (.val (.bl (!ds.isEmpty))) := rfl
@[simp] theorem ne0D_t {ds : List D} {Q : O → Prop} : ne0D (.tup ds) (.tup []) Q = Q (.val (.bl (!ds.isEmpty))) := rfl
theorem eqB_l0 (ds : List D) : eqB (.lst ds) (.lst []) = ds.isEmpty := by rw [eqB_lst]; cases ds <;> rfl
theorem eqB_t0 (ds : List D) : eqB (.tup ds) (.tup []) = ds.isEmpty := by rw [eqB_tup]; cases ds <;> rfl
theorem eq0D_of {a b : D} {Q : O → Prop} (h : eqD a b Q) : eq0D a b Q := by
  unfold eq0D
  split
  · have := h.2.2
    rw [eqB_l0] at this
    exact this
  · have := h.2.2
    rw [eqB_t0] at this
    exact this
  · exact h
theorem ne0D_of {a b : D} {Q : O → Prop} (h : neD a b Q) : ne0D a b Q := by
  unfold ne0D
  split
  · have := h.2.2
    rw [eqB_l0] at this
    exact this
  · have := h.2.2
    rw [eqB_t0] at this
    exact this
  · exact h
section
variable {K : PySem.W.Frag}
def rE0 (K : PySem.W.Frag) (f : Bool → Bool) (r : R2) : R2 := fun x y H Q => (∃ p q xs, x = .ref p ∧ y = .ref q ∧ SqL K H p xs ∧ SqL K H q [] ∧ Q (.bl (f xs.isEmpty)) H) ∨ ((∃ p q xs, x = .ref p ∧ y = .ref q ∧ SqT K H p xs ∧ SqT K H q [] ∧ Q (.bl (f xs.isEmpty)) H) ∨ r x y H Q)
theorem Ats.isE {Z : Zs} {F : Hp} {vs : List V} {ds : List D} (h : Ats K Z F vs ds) : vs.isEmpty = ds.isEmpty := by cases h <;> rfl
theorem od_eq0 : OpD K (rE0 K (fun b => b) (rEqD K)) eq0D := by
  intro g x y a b Qd Q ok ha hb hw k
  unfold eq0D at hw
  split at hw
  · obtain ⟨p, vs, rfl, hp, as⟩ := ha.lst_inv
    obtain ⟨q, ws, rfl, hq, bs⟩ := hb.lst_inv
    cases bs
    exact .inl ⟨p, q, vs, rfl, rfl, SqL.of (ok.sub _ _ hp), SqL.of (ok.sub _ _ hq), by rw [as.isE]; exact k _ _ g ok.refl (.val (.bl _)) hw⟩
  · obtain ⟨p, vs, rfl, hp, as⟩ := ha.tup_inv
    obtain ⟨q, ws, rfl, hq, bs⟩ := hb.tup_inv
    cases bs
    exact .inr (.inl ⟨p, q, vs, rfl, rfl, ok.sub.sqT hp, ok.sub.sqT hq, by rw [as.isE]; exact k _ _ g ok.refl (.val (.bl _)) hw⟩)
  · exact .inr (.inr (od_eq g x y _ _ Qd Q ok ha hb hw k))
theorem od_ne0 : OpD K (rE0 K (fun b => !b) (rNeD K)) ne0D := by
  intro g x y a b Qd Q ok ha hb hw k
  unfold ne0D at hw
  split at hw
  · obtain ⟨p, vs, rfl, hp, as⟩ := ha.lst_inv
    obtain ⟨q, ws, rfl, hq, bs⟩ := hb.lst_inv
    cases bs
    exact .inl ⟨p, q, vs, rfl, rfl, SqL.of (ok.sub _ _ hp), SqL.of (ok.sub _ _ hq), by rw [as.isE]; exact k _ _ g ok.refl (.val (.bl _)) hw⟩
  · obtain ⟨p, vs, rfl, hp, as⟩ := ha.tup_inv
    obtain ⟨q, ws, rfl, hq, bs⟩ := hb.tup_inv
    cases bs
    exact .inr (.inl ⟨p, q, vs, rfl, rfl, ok.sub.sqT hp, ok.sub.sqT hq, by rw [as.isE]; exact k _ _ g ok.refl (.val (.bl _)) hw⟩)
  · exact .inr (.inr (od_ne g x y _ _ Qd Q ok ha hb hw k))
end
theorem Vals.nil_inv {us : List Value} (h : Vals [] us) : us = [] := by cases h; rfl
theorem isE_size {xs : List V} {its : List Value} (r : Vals xs its) : xs.isEmpty = decide (its.toArray.size = 0) := by cases r <;> simp
theorem op_eq0 {X : Cx} (hu : X.A.units + 64 < cLine) : OpR X (compareOp .Eq) (rE0 X.K (fun b => b) (rEqD X.K)) := by
  intro pins s σ H x y v u Q I rx ry h
  rcases h with ⟨p, q, xs, rfl, rfl, hp, hq, hQ⟩ | ⟨p, q, xs, rfl, rfl, hp, hq, hQ⟩ | h
  · cases rx
    cases ry
    obtain ⟨its, r, pl, hz⟩ := I.list hp
    obtain ⟨its2, r2, pl2, _⟩ := I.list hq
    obtain rfl := Vals.nil_inv r2
    rw [isE_size r] at hQ
    by_cases c : its.toArray.size = 0
    · rw [decide_eq_true c] at hQ
      refine SeqAt.eq_listAt (e := fun _ => true) pl.isList pl2.isList (by rw [c]; rfl) (by omega) (fun j h1 _ => absurd h1 (by omega)) ?_
      rw [c]
      exact ⟨.bl true, H, I, rfl, hQ⟩
    · rw [decide_eq_false c] at hQ
      exact SeqAt.eq_list_lengthsAt pl.isList pl2.isList (by simp at c ⊢; exact c) (by omega) ⟨.bl false, H, I, rfl, hQ⟩
  · cases rx
    cases ry
    obtain ⟨its, r, pl, hz⟩ := I.tuple hp
    obtain ⟨its2, r2, pl2, _⟩ := I.tuple hq
    obtain rfl := Vals.nil_inv r2
    rw [isE_size r] at hQ
    refine SeqAt.eq_tupleAt (e := fun _ => true) pl pl2 (by omega) (fun j _ h2 => absurd h2 (by simp)) ?_
    have : ((List.range (min its.toArray.size ([] : List Value).toArray.size)).all (fun _ => true) && its.toArray.size == ([] : List Value).toArray.size) = decide (its.toArray.size = 0) := by
      simp only [List.all_eq_true.mpr fun _ _ => rfl, Bool.true_and]
      by_cases c : its.toArray.size = 0
      · rw [decide_eq_true c, c]; rfl
      · rw [decide_eq_false c]; exact beq_eq_false_iff_ne.mpr c
    rw [this]
    exact ⟨.bl _, H, I, rfl, hQ⟩
  · exact op_eqD hu pins s σ H x y v u Q I rx ry h
theorem op_ne0 {X : Cx} (hu : X.A.units + 64 < cLine) : OpR X (compareOp .NotEq) (rE0 X.K (fun b => !b) (rNeD X.K)) := by
  intro pins s σ H x y v u Q I rx ry h
  rcases h with ⟨p, q, xs, rfl, rfl, hp, hq, hQ⟩ | ⟨p, q, xs, rfl, rfl, hp, hq, hQ⟩ | h
  · cases rx
    cases ry
    obtain ⟨its, r, pl, hz⟩ := I.list hp
    obtain ⟨its2, r2, pl2, _⟩ := I.list hq
    obtain rfl := Vals.nil_inv r2
    rw [isE_size r] at hQ
    by_cases c : its.toArray.size = 0
    · rw [decide_eq_true c] at hQ
      refine SeqAt.RcNeAt.lists (e := fun _ => true) pl.isList pl2.isList (by rw [c]; rfl) (by omega) (fun j h1 _ => absurd h1 (by omega)) _ _ _ _ ?_
      rw [c]
      exact ⟨.bl false, H, I, rfl, hQ⟩
    · rw [decide_eq_false c] at hQ
      exact SeqAt.RcNeAt.lists_lengths pl.isList pl2.isList (by simp at c ⊢; exact c) (by omega) _ _ _ _ ⟨.bl true, H, I, rfl, hQ⟩
  · cases rx
    cases ry
    obtain ⟨its, r, pl, hz⟩ := I.tuple hp
    obtain ⟨its2, r2, pl2, _⟩ := I.tuple hq
    obtain rfl := Vals.nil_inv r2
    rw [isE_size r] at hQ
    refine SeqAt.RcNeAt.tuples (e := fun _ => true) pl pl2 (by omega) (fun j _ h2 => absurd h2 (by simp)) _ _ _ _ ?_
    have : ((List.range (min its.toArray.size ([] : List Value).toArray.size)).all (fun _ => true) && its.toArray.size == ([] : List Value).toArray.size) = decide (its.toArray.size = 0) := by
      simp only [List.all_eq_true.mpr fun _ _ => rfl, Bool.true_and]
      by_cases c : its.toArray.size = 0
      · rw [decide_eq_true c, c]; rfl
      · rw [decide_eq_false c]; exact beq_eq_false_iff_ne.mpr c
    rw [this]
    exact ⟨.bl _, H, I, rfl, hQ⟩
  · exact op_neD hu pins s σ H x y v u Q I rx ry h
end DL
/-! DMeth -/
namespace DL
open PySem PySem.Spec PyProof.Rows L2
/-- a method of one argument, of a list or a tuple -/
def mth (fl ft : List D → D → PQ) : D → D → PQ
  | .lst ds, a => fl ds a
  | .tup ds, a => ft ds a
  | _, _ => fun _ => False
@[simp] theorem mth_lst {fl ft : List D → D → PQ} {ds : List D} {a : D} : mth fl ft (.lst ds) a = fl ds a := rfl
@[simp] theorem mth_tup {fl ft : List D → D → PQ} {ds : List D} {a : D} : mth fl ft (.tup ds) a = ft ds a := rfl
def seqD : D → Prop
  | .lst _ => True
  | .tup _ => True
  | _ => False
@[simp] theorem seqD_l {ds : List D} : seqD (.lst ds) = True := rfl
@[simp] theorem seqD_t {ds : List D} : seqD (.tup ds) = True := rfl
def eMth (fl ft : List D → D → PQ) (wo wa : WE) : WE := fun env Q E => wo env (fun x => seqD x.d ∧ wa env (fun y => mth fl ft x.d y.d Q) E) E
@[simp] theorem eMth_v {fl ft : List D → D → PQ} {wo wa : WE} {env : DEnv} {Q : O → Prop} {E : EX} : eMth fl ft wo wa env Q E = wo env (fun x => seqD x.d ∧ wa env (fun y => mth fl ft x.d y.d Q) E) E := rfl
/-- what the rule of the method asks, by data -/
def MthL (K : PySem.W.Frag) (r : V → List V → Hp → VK → Prop) (f : List D → D → PQ) : Prop := ∀ (g : Gh) (p : Addr) (vs : List V) (ds : List D) (v : V) (a : D) (Qd : O → Prop) (Q : VK), g.Ok → g.F p = some (.lst vs) → Ats K g.Z g.F vs ds → At K g.Z g.F v a → f ds a Qd → (∀ v o g', Step g g' → RR K g g' v o → Qd o → Q v g'.H) → r (.ref p) [v] g.H Q
def MthT (K : PySem.W.Frag) (r : V → List V → Hp → VK → Prop) (f : List D → D → PQ) : Prop := ∀ (g : Gh) (p : Addr) (ob : Obj) (vs : List V) (ds : List D) (v : V) (a : D) (Qd : O → Prop) (Q : VK), g.Ok → g.F p = some (.frz ob (.tup vs)) → Ats K g.Z g.F vs ds → At K g.Z g.F v a → f ds a Qd → (∀ v o g', Step g g' → RR K g g' v o → Qd o → Q v g'.H) → r (.ref p) [v] g.H Q
section
variable {X : Cx} {W : WX} {wo wa : WE} {o e : Expr} {apos cpos : Pos} {name : Str} {idL idT : String} {rL rT : V → List V → Hp → VK → Prop} {fl ft : List D → D → PQ}
theorem de_mth (slotL : Slot "list" name idL) (tyL : typeOf (.builtin idL) = pure (.type "method_descriptor")) (mL : MtR X idL rL) (hL : MthL X.K rL fl)
    (slotT : Slot "tuple" name idT) (tyT : typeOf (.builtin idT) = pure (.type "method_descriptor")) (mT : MtR X idT rT) (hT : MthT X.K rT ft) (ho : DE X W o wo) (ha : DE X W e wa)
    (hbase : attributeBase o name X.env (eval o X.env) = eval o X.env := by rfl)
    (hfew : ((backTo cpos (starEach [e] X.env)).all (fun x => !x.1) && (backToKw cpos (keywordEach [] X.env)).all (fun x => x.1.isSome) && decide ([e].length + ([] : List Keyword).length + (if ([] : List Keyword).isEmpty then 0 else 1) < 30)) = true := by rfl)
    (hline : (apos.endLine == cpos.line) = true := by rfl) (hs : starEach [e] X.env = (false, eval e X.env) :: starEach [] X.env := by rfl) (hpl : (backTo cpos (starEach [] X.env)).any (·.1) = false := by rfl) :
    DE X W (.Call (.Attribute o name apos) [e] [] cpos) (eMth fl ft wo wa) := by
  refine ⟨fun pins s σ H Q I ⟨g, env, Qd, Ed, eH, es, hw, k, kx⟩ => ?_⟩
  subst eH
  refine wpAny_Call_method_late hbase hfew hline rfl (thn (ho.run pins s σ g.H (fun x H1 => ∃ g1 d, g1.H = H1 ∧ Step g g1 ∧ At X.K g1.Z g1.F x d ∧ seqD d ∧ wa env (fun y => mth fl ft d y.d Qd) Ed) I
    (LE.go (R := fun d => seqD d ∧ wa env (fun y => mth fl ft d y.d Qd) Ed) es hw (fun x d g1 s1 a1 h1 => ⟨g1, d, rfl, s1, a1, h1⟩) kx)) fun v s1 ⟨x, H1, I1, rx, g1, d, eH1, st, a1, sq, h1⟩ => ?_)
  subst eH1
  have run : ∀ (id : String) (r : V → List V → Hp → VK → Prop), MtR X id r → (∀ w b g2, Step g1 g2 → At X.K g2.Z g2.F w b → mth fl ft d b Qd → r x [w] g2.H Q) → wpAny (model X.prog X.w) X.A (callWith cpos (.builtin id) [v] (backTo cpos (starEach [e] X.env)) []) (EP X pins σ Q) X.xe s1 := by
    intro id r hm hr
    have hA := (pa_cons ha pa_nil hs).run cpos pins s1 σ g1.H (fun vs H2 => r x vs H2 Q) I1
      (LE.go (R := fun b => mth fl ft d b Qd) (es.step st) h1 (fun w b g2 s2 a2 h2 => hr w b g2 s2 a2 h2) (XL.on kx st))
    rw [hs] at hA ⊢
    refine Calls.callWith_builtin (by show (false || (backTo cpos (starEach [] X.env)).any (·.1)) = false; rw [hpl]; rfl) (Calls.evalArgs_plain ?_)
    exact thn hA fun us s2 ⟨vs, H2, I2, r2, q2⟩ => hm pins s2 σ H2 x vs v us Q I2 rx r2 q2
  cases d with
  | lst ds =>
    obtain ⟨p, vs, rfl, hp, as⟩ := a1.lst_inv
    obtain ⟨t1, t2⟩ := tyV_is (T := "list") I1 rx (.inl ⟨rfl, vs, SqL.of (st.ok.sub _ _ hp)⟩)
    refine ⟨"list", idL, PySem.F.plainAttrs_list, slotL, tyL, t1, t2, run idL rL mL fun w b g2 s2 a2 h2 => ?_⟩
    exact hL g2 p vs ds w b Qd Q s2.ok (s2.up _ _ hp) (as.mono s2.up s2.zs) a2 h2 (QL.on (QL.on k st) s2)
  | tup ds =>
    obtain ⟨p, ob, vs, rfl, hp, hd, as⟩ := a1.tup_inv'
    cases rx
    obtain ⟨at_, _, its, _, o2, e2, c2, _⟩ := (show ObjOk X.prog X.w g1.H s1.heap p (.frz ob (.tup vs)) from I1.hok p _ (st.ok.sub _ _ hp))
    rw [at_] at e2
    obtain rfl := Option.some.inj e2
    refine ⟨"tuple", idT, PySem.F.plainAttrs_tuple, slotT, tyT, ⟨ob, at_, c2⟩, fun a ea => ?_, run idT rT mT fun w b g2 s2 a2 h2 => ?_⟩
    · cases ea
      exact ⟨ob, at_, hd⟩
    · exact hT g2 p ob vs ds w b Qd Q s2.ok (s2.up _ _ hp) (as.mono s2.up s2.zs) a2 h2 (QL.on (QL.on k st) s2)
  | _ => exact sq.elim
end
def indexF (ds : List D) (a : D) : PQ := fun Q => okE a ∧ okE (.lst ds) ∧ ∃ j, ds.findIdx? (fun z => eqB z a) = some j ∧ Q (.val (.int (j : Nat)))
def countF (ds : List D) (a : D) : PQ := fun Q => okE a ∧ okE (.lst ds) ∧ Q (.val (.int (ds.countP fun z => eqB z a : Nat)))
def rIdxT (K : PySem.W.Frag) : V → List V → Hp → VK → Prop := fun x xs H Q => ∃ (p : Addr) (y : V) (d : PyData) (ds : List PyData) (j : Nat) (z : PyData), x = .ref p ∧ xs = [y] ∧ Dp K H (.ref p) (.tuple ds) ∧ Dp K H y d ∧
  SeqAt.shaped (.list ds) = true ∧ SeqAt.shaped d = true ∧ ds[j]? = some z ∧ PyData.eqv z d = true ∧ (∀ (m : Nat) (z' : PyData), m < j → ds[m]? = some z' → PyData.eqv z' d = false) ∧ Q (.int (j : Nat)) H
theorem mt_idxT {X : Cx} (hu : X.A.units + 65 < cLine) : MtR X "tuple.index" (rIdxT X.K) := by
  intro pins s σ H x xs v us Q I r1 r2 h
  obtain ⟨p, y, d, ds, j, z, ex, exs, hd, hy, sh, sd, hj, hz, hno, fin⟩ := h
  subst ex exs
  cases r1
  obtain ⟨w, rfl, rw_⟩ := vals1 r2
  obtain ⟨bs, rd⟩ := Dp.reads I d y w hy rw_
  have lay : PyData.canLayAll0 ds = true := SeqAt.canLay_of_shaped sh
  have room : X.A.units + 1 + min (PyData.depthAll ds) d.depth < cLine := room_in_shaped sd hu
  cases hd with
  | tup hs ha =>
    obtain ⟨its, rv, ⟨⟨c, dct, dta, sls⟩, ho, hc, n, hdt⟩, _⟩ := I.tuple hs
    simp only at hc hdt
    subst hc hdt
    obtain ⟨as, ra⟩ := Dp.readsAll I ds _ its ha rv
    have len : its.length = ds.length := SeqAt.ReadsAll.length ds its as ra
    have same : its.map (SeqAt.readOf s.heap) = ds := SeqAt.readsAll_map ds its as lay ra
    obtain ⟨jd, _⟩ := List.getElem?_eq_some_iff.mp hj
    have jb : j < its.toArray.size := by simp; omega
    have read : ∀ (m : Nat) (hm : m < its.toArray.size) (z' : PyData), ds[m]? = some z' → SeqAt.readOf s.heap its.toArray[m] = z' := by
      intro m hm z' q
      have hm' : m < its.length := by simpa using hm
      rw [← same, List.getElem?_map, List.getElem?_eq_getElem hm'] at q
      simpa using q
    refine call_meets PySem.F.slot_tuple_index ⟨_, ho, rfl⟩ PySem.F.entry_tuple_index (PySem.F.args_tuple_index_2 _ _)
      (TI.tuple_indexAt p its.toArray n dct sls w (fun u => PyData.eqv (SeqAt.readOf s.heap u) d) j jb ?_ ?_) ⟨ho, SeqAt.items_eqAt (vs := its.toArray) (show ReadsAll s.heap its.toArray.toList ds as from ra) rd lay (SeqAt.canLay_of_shaped sd) room, .int (j : Nat), H, I.tok _, ⟨_, rfl⟩, fin⟩
    · show PyData.eqv (SeqAt.readOf s.heap its.toArray[j]) d = true
      rw [read j _ z hj]
      exact hz
    · intro m hm mj
      have q : ds[m]? = some ds[m] := List.getElem?_eq_getElem (by omega)
      show PyData.eqv (SeqAt.readOf s.heap its.toArray[m]) d = false
      rw [read m hm _ q]
      exact hno m _ mj q
def rCntT (K : PySem.W.Frag) (T : List PyData → PyData) : V → List V → Hp → VK → Prop := fun x xs H Q => ∃ (p : Addr) (y : V) (d : PyData) (ds : List PyData), x = .ref p ∧ xs = [y] ∧ Dp K H (.ref p) (T ds) ∧ Dp K H y d ∧
  SeqAt.shaped (.list ds) = true ∧ SeqAt.shaped d = true ∧ Q (.int (ds.countP fun z => PyData.eqv z d : Nat)) H
theorem count_by {h : Heap} {vs : List Value} {xs : List PyData} {as : List Addr} {d : PyData} (rs : ReadsAll h vs xs as) (hxs : PyData.canLayAll0 xs = true) : vs.countP (fun y => PyData.eqv (SeqAt.readOf h y) d) = xs.countP fun y => PyData.eqv y d := by
  rw [← SeqAt.readsAll_map xs _ _ hxs rs, List.countP_map]
  rfl
theorem mt_cntT {X : Cx} (hu : X.A.units + 65 < cLine) : MtR X "tuple.count" (rCntT X.K .tuple) := by
  intro pins s σ H x xs v us Q I r1 r2 h
  obtain ⟨p, y, d, ds, ex, exs, hd, hy, sh, sd, fin⟩ := h
  subst ex exs
  cases r1
  obtain ⟨w, rfl, rw_⟩ := vals1 r2
  obtain ⟨bs, rd⟩ := Dp.reads I d y w hy rw_
  have lay : PyData.canLayAll0 ds = true := SeqAt.canLay_of_shaped sh
  have room : X.A.units + 1 + min (PyData.depthAll ds) d.depth < cLine := room_in_shaped sd hu
  cases hd with
  | tup hs ha =>
    obtain ⟨its, rv, ⟨⟨c, dct, dta, sls⟩, ho, hc, n, hdt⟩, _⟩ := I.tuple hs
    simp only at hc hdt
    subst hc hdt
    obtain ⟨as, ra⟩ := Dp.readsAll I ds _ its ha rv
    refine call_meets PySem.F.slot_tuple_count ⟨_, ho, rfl⟩ PySem.F.entry_tuple_count (PySem.F.args_tuple_count_2 _ _)
      (SeqAt.tuple_countAt p its.toArray n dct sls w (fun u => PyData.eqv (SeqAt.readOf s.heap u) d)) ⟨ho, SeqAt.items_eqAt (vs := its.toArray) (show ReadsAll s.heap its.toArray.toList ds as from ra) rd lay (SeqAt.canLay_of_shaped sd) room, ?_⟩
    rw [show its.toArray.toList = its from rfl, count_by ra lay]
    exact ⟨.int _, H, I.tok _, ⟨_, rfl⟩, fin⟩
theorem mt_cntL {X : Cx} (hu : X.A.units + 65 < cLine) : MtR X "list.count" (rCntT X.K .list) := by
  intro pins s σ H x xs v us Q I r1 r2 h
  obtain ⟨p, y, d, ds, ex, exs, hd, hy, sh, sd, fin⟩ := h
  subst ex exs
  cases r1
  obtain ⟨w, rfl, rw_⟩ := vals1 r2
  obtain ⟨bs, rd⟩ := Dp.reads I d y w hy rw_
  have lay : PyData.canLayAll0 ds = true := SeqAt.canLay_of_shaped sh
  have room : X.A.units + 1 + min (PyData.depthAll ds) d.depth < cLine := room_in_shaped sd hu
  cases hd with
  | lst hs ha =>
    obtain ⟨its, rv, ⟨⟨c, dct, dta, sls⟩, n, ho, hc, hdn, hdt⟩, _⟩ := I.list hs
    simp only at hc hdt
    subst hc hdt
    obtain ⟨as, ra⟩ := Dp.readsAll I ds _ its ha rv
    refine call_meets PySem.F.slot_list_count ⟨_, ho, rfl⟩ PySem.F.entry_list_count (PySem.F.args_list_count_2 _ _)
      (SeqAt.list_countAt p its.toArray n dct sls w (fun u => PyData.eqv (SeqAt.readOf s.heap u) d)) ⟨ho, SeqAt.items_eqAt (vs := its.toArray) (show ReadsAll s.heap its.toArray.toList ds as from ra) rd lay (SeqAt.canLay_of_shaped sd) room, ?_⟩
    rw [show its.toArray.toList = its from rfl, count_by ra lay]
    exact ⟨.int _, H, I.tok _, ⟨_, rfl⟩, fin⟩
section
variable {K : PySem.W.Frag}
theorem idx_py {ds : List D} {a : D} {j : Nat} (h : ds.findIdx? (fun z => eqB z a) = some j) : ∃ z, (toPys ds)[j]? = some z ∧ PyData.eqv z (toPy a) = true ∧ ∀ (m : Nat) (z' : PyData), m < j → (toPys ds)[m]? = some z' → PyData.eqv z' (toPy a) = false := by
  obtain ⟨hj, h1, h2⟩ := List.findIdx?_eq_some_iff_getElem.mp h
  rw [toPys_map]
  refine ⟨toPy ds[j], by rw [List.getElem?_map, List.getElem?_eq_getElem hj]; rfl, h1, fun m z' hm e => ?_⟩
  rw [List.getElem?_map, List.getElem?_eq_getElem (by omega)] at e
  simp only [Option.map_some, Option.some.injEq] at e
  subst e
  have := h2 m hm
  simpa [eqB] using this
theorem cnt_py (ds : List D) (a : D) : ((toPys ds).countP fun z => PyData.eqv z (toPy a)) = ds.countP fun z => eqB z a := by
  rw [toPys_map, List.countP_map]
  rfl
theorem ih_idxL : MthL K (rIndexD K) indexF := by
  intro g p vs ds v a Qd Q ok hp as av hw k
  obtain ⟨h1, h2, j, hj, q⟩ := hw
  have hl := (At.lst hp as).dp ok.sub h2
  have hs := shaped_of h2 (by decide)
  simp only [toPy] at hl hs
  obtain ⟨z, z1, z2, z3⟩ := idx_py hj
  exact ⟨p, v, toPy a, toPys ds, j, z, rfl, rfl, hl, av.dp ok.sub h1, hs, shaped_of h1 (by decide), z1, z2, z3, k _ _ g ok.refl (.val (.int _)) q⟩
theorem okE_lt {ds : List D} (h : okE (.lst ds)) : okE (.tup ds) := h
theorem ih_idxT : MthT K (rIdxT K) indexF := by
  intro g p ob vs ds v a Qd Q ok hp as av hw k
  obtain ⟨h1, h2, j, hj, q⟩ := hw
  have hl : Dp K g.H (.ref p) (.tuple (toPys ds)) := .tup (.inl (.inr ⟨_, ok.sub _ _ hp⟩)) (Ats.dps ok.sub as (n := 7) (by simpa [okE] using h2))
  have hs := shaped_of h2 (by decide)
  simp only [toPy] at hs
  obtain ⟨z, z1, z2, z3⟩ := idx_py hj
  exact ⟨p, v, toPy a, toPys ds, j, z, rfl, rfl, hl, av.dp ok.sub h1, hs, shaped_of h1 (by decide), z1, z2, z3, k _ _ g ok.refl (.val (.int _)) q⟩
theorem ih_cntL : MthL K (rCntT K .list) countF := by
  intro g p vs ds v a Qd Q ok hp as av hw k
  obtain ⟨h1, h2, q⟩ := hw
  have hl := (At.lst hp as).dp ok.sub h2
  have hs := shaped_of h2 (by decide)
  simp only [toPy] at hl hs
  exact ⟨p, v, toPy a, toPys ds, rfl, rfl, hl, av.dp ok.sub h1, hs, shaped_of h1 (by decide), by rw [cnt_py]; exact k _ _ g ok.refl (.val (.int _)) q⟩
theorem ih_cntT : MthT K (rCntT K .tuple) countF := by
  intro g p ob vs ds v a Qd Q ok hp as av hw k
  obtain ⟨h1, h2, q⟩ := hw
  have hl : Dp K g.H (.ref p) (.tuple (toPys ds)) := .tup (.inl (.inr ⟨_, ok.sub _ _ hp⟩)) (Ats.dps ok.sub as (n := 7) (by simpa [okE] using h2))
  have hs := shaped_of h2 (by decide)
  simp only [toPy] at hs
  exact ⟨p, v, toPy a, toPys ds, rfl, rfl, hl, av.dp ok.sub h1, hs, shaped_of h1 (by decide), by rw [cnt_py]; exact k _ _ g ok.refl (.val (.int _)) q⟩
end
section
variable {X : Cx} {W : WX} {wo wa : WE} {o e : Expr} {apos cpos : Pos}
abbrev eIndex (wo wa : WE) : WE := eMth indexF indexF wo wa
abbrev eCount (wo wa : WE) : WE := eMth countF countF wo wa
theorem de_index (hu : X.A.units + 65 < cLine) (ho : DE X W o wo) (ha : DE X W e wa)
    (hbase : attributeBase o "index" X.env (eval o X.env) = eval o X.env := by rfl)
    (hfew : ((backTo cpos (starEach [e] X.env)).all (fun x => !x.1) && (backToKw cpos (keywordEach [] X.env)).all (fun x => x.1.isSome) && decide ([e].length + ([] : List Keyword).length + (if ([] : List Keyword).isEmpty then 0 else 1) < 30)) = true := by rfl)
    (hline : (apos.endLine == cpos.line) = true := by rfl) (hs : starEach [e] X.env = (false, eval e X.env) :: starEach [] X.env := by rfl) (hpl : (backTo cpos (starEach [] X.env)).any (·.1) = false := by rfl) :
    DE X W (.Call (.Attribute o "index" apos) [e] [] cpos) (eIndex wo wa) :=
  de_mth PySem.F.slot_list_index PySem.F.type_list_index (mt_indexD hu) ih_idxL PySem.F.slot_tuple_index PySem.F.type_tuple_index (mt_idxT hu) ih_idxT ho ha hbase hfew hline hs hpl
theorem de_count (hu : X.A.units + 65 < cLine) (ho : DE X W o wo) (ha : DE X W e wa)
    (hbase : attributeBase o "count" X.env (eval o X.env) = eval o X.env := by rfl)
    (hfew : ((backTo cpos (starEach [e] X.env)).all (fun x => !x.1) && (backToKw cpos (keywordEach [] X.env)).all (fun x => x.1.isSome) && decide ([e].length + ([] : List Keyword).length + (if ([] : List Keyword).isEmpty then 0 else 1) < 30)) = true := by rfl)
    (hline : (apos.endLine == cpos.line) = true := by rfl) (hs : starEach [e] X.env = (false, eval e X.env) :: starEach [] X.env := by rfl) (hpl : (backTo cpos (starEach [] X.env)).any (·.1) = false := by rfl) :
    DE X W (.Call (.Attribute o "count" apos) [e] [] cpos) (eCount wo wa) :=
  de_mth PySem.F.slot_list_count PySem.F.type_list_count (mt_cntL hu) ih_cntL PySem.F.slot_tuple_count PySem.F.type_tuple_count (mt_cntT hu) ih_cntT ho ha hbase hfew hline hs hpl
end
end DL
/-! DDct -/
namespace DL
open PySem PySem.Spec PyProof.Rows L2

def keyT : Bool → D → Bool
  | false, .int _ => true
  | false, .str _ => true
  | true, .tup xs => match nkD (.tup xs) with | some k => decide (k.depth ≤ 8) | none => false
  | _, _ => false
theorem keyT_f {d : D} (h : keyT false d = true) : ∃ k : Key, d = kD k := by
  unfold keyT at h
  split at h
  · exact ⟨.inl _, rfl⟩
  · exact ⟨.inr _, rfl⟩
  · exact absurd (by assumption) Bool.false_ne_true
  · cases h
theorem keyT_t {d : D} (h : keyT true d = true) : ∃ xs k, d = .tup xs ∧ nkD d = some k ∧ k.depth ≤ 8 := by
  unfold keyT at h
  split at h
  · rename_i h1; cases h1
  · rename_i h1; cases h1
  · rename_i xs _
    cases e : nkD (.tup xs) with
    | none => rw [e] at h; cases h
    | some k => rw [e] at h; exact ⟨xs, k, rfl, rfl, of_decide_eq_true h⟩
  · cases h
theorem At.key {K : PySem.W.Frag} {Z : Zs} {F : Hp} {v : V} {k : Key} (h : At K Z F v (kD k)) : v = kV k := by
  cases k with
  | inl i => exact h.int_inv
  | inr x => exact h.str_inv
theorem eqB_kD (j k : Key) : eqB (kD j) (kD k) = decide (j = k) := by
  cases j <;> cases k <;> simp [kD]
  · unfold eqB; simp [toPy, PyData.eqv]
  · unfold eqB; simp [toPy, PyData.eqv]
mutual
theorem eqB_nk : ∀ (a b : D) (j k : NestedKey), nkD a = some j → nkD b = some k → eqB a b = decide (j = k)
  | .non, .non, _, _, h1, h2 => by
    simp only [nkD, Option.some.injEq] at h1 h2; subst h1 h2
    unfold eqB; simp [toPy, PyData.eqv]
  | .non, .int i, _, _, h1, h2 => by
    simp only [nkD, Option.some.injEq] at h1 h2; subst h1 h2
    unfold eqB; simp [toPy, PyData.eqv]
  | .non, .tup xs, _, _, h1, h2 => by
    simp only [nkD, Option.some.injEq, Option.map_eq_some_iff] at h1 h2
    obtain ⟨ks, _, rfl⟩ := h2
    subst h1
    unfold eqB; simp [toPy, PyData.eqv]
  | .int i, .non, _, _, h1, h2 => by
    simp only [nkD, Option.some.injEq] at h1 h2; subst h1 h2
    unfold eqB; simp [toPy, PyData.eqv]
  | .int i, .int j, _, _, h1, h2 => by
    simp only [nkD, Option.some.injEq] at h1 h2; subst h1 h2
    simp
  | .int i, .tup xs, _, _, h1, h2 => by
    simp only [nkD, Option.some.injEq, Option.map_eq_some_iff] at h1 h2
    obtain ⟨ks, _, rfl⟩ := h2
    subst h1
    unfold eqB; simp [toPy, PyData.eqv]
  | .tup xs, .non, _, _, h1, h2 => by
    simp only [nkD, Option.some.injEq, Option.map_eq_some_iff] at h1 h2
    obtain ⟨ks, _, rfl⟩ := h1
    subst h2
    unfold eqB; simp [toPy, PyData.eqv]
  | .tup xs, .int i, _, _, h1, h2 => by
    simp only [nkD, Option.some.injEq, Option.map_eq_some_iff] at h1 h2
    obtain ⟨ks, _, rfl⟩ := h1
    subst h2
    unfold eqB; simp [toPy, PyData.eqv]
  | .tup xs, .tup ys, _, _, h1, h2 => by
    simp only [nkD, Option.map_eq_some_iff] at h1 h2
    obtain ⟨ks, h1, rfl⟩ := h1
    obtain ⟨ls, h2, rfl⟩ := h2
    rw [eqB_tup, eqBs_nk xs ys ks ls h1 h2]
    by_cases e : ks = ls
    · rw [decide_eq_true e, decide_eq_true (by rw [e])]
    · rw [decide_eq_false e, decide_eq_false fun z => e (by injection z)]
  | .bl _, _, _, _, h, _ => by simp [nkD] at h
  | .str _, _, _, _, h, _ => by simp [nkD] at h
  | .lst _, _, _, _, h, _ => by simp [nkD] at h
  | .dct _ _ _, _, _, _, h, _ => by simp [nkD] at h
  | .src, _, _, _, h, _ => by simp [nkD] at h
  | .scr _, _, _, _, h, _ => by simp [nkD] at h
  | .non, .bl _, _, _, _, h => by simp [nkD] at h
  | .non, .str _, _, _, _, h => by simp [nkD] at h
  | .non, .lst _, _, _, _, h => by simp [nkD] at h
  | .non, .dct _ _ _, _, _, _, h => by simp [nkD] at h
  | .non, .src, _, _, _, h => by simp [nkD] at h
  | .non, .scr _, _, _, _, h => by simp [nkD] at h
  | .int _, .bl _, _, _, _, h => by simp [nkD] at h
  | .int _, .str _, _, _, _, h => by simp [nkD] at h
  | .int _, .lst _, _, _, _, h => by simp [nkD] at h
  | .int _, .dct _ _ _, _, _, _, h => by simp [nkD] at h
  | .int _, .src, _, _, _, h => by simp [nkD] at h
  | .int _, .scr _, _, _, _, h => by simp [nkD] at h
  | .tup _, .bl _, _, _, _, h => by simp [nkD] at h
  | .tup _, .str _, _, _, _, h => by simp [nkD] at h
  | .tup _, .lst _, _, _, _, h => by simp [nkD] at h
  | .tup _, .dct _ _ _, _, _, _, h => by simp [nkD] at h
  | .tup _, .src, _, _, _, h => by simp [nkD] at h
  | .tup _, .scr _, _, _, _, h => by simp [nkD] at h
theorem eqBs_nk : ∀ (a b : List D) (j k : List NestedKey), nkDs a = some j → nkDs b = some k → eqBs a b = decide (j = k)
  | [], [], _, _, h1, h2 => by
    simp only [nkDs, Option.some.injEq] at h1 h2; subst h1 h2; simp
  | [], y :: ys, _, _, h1, h2 => by
    simp only [nkDs, Option.some.injEq, Option.bind_eq_some_iff, Option.map_eq_some_iff] at h1 h2
    obtain ⟨_, _, _, _, rfl⟩ := h2
    subst h1
    simp
  | x :: xs, [], _, _, h1, h2 => by
    simp only [nkDs, Option.some.injEq, Option.bind_eq_some_iff, Option.map_eq_some_iff] at h1 h2
    obtain ⟨_, _, _, _, rfl⟩ := h1
    subst h2
    simp
  | x :: xs, y :: ys, _, _, h1, h2 => by
    simp only [nkDs, Option.bind_eq_some_iff, Option.map_eq_some_iff] at h1 h2
    obtain ⟨k, h1, ks, h1', rfl⟩ := h1
    obtain ⟨l, h2, ls, h2', rfl⟩ := h2
    rw [eqBs_cc, eqB_nk x y k l h1 h2, eqBs_nk xs ys ks ls h1' h2']
    by_cases e : k = l <;> by_cases e' : ks = ls <;> simp [e, e']
end
mutual
/-- the hash of such a key is one in all worlds -/
theorem nk_hash (w w' : World) : ∀ (d : D) (k : NestedKey), nkD d = some k → k.hash w = k.hash w'
  | .non, _, h => by simp only [nkD, Option.some.injEq] at h; subst h; simp [NestedKey.hash]
  | .int _, _, h => by simp only [nkD, Option.some.injEq] at h; subst h; simp [NestedKey.hash]
  | .tup xs, _, h => by
    simp only [nkD, Option.map_eq_some_iff] at h
    obtain ⟨ks, h, rfl⟩ := h
    simp only [NestedKey.hash]
    rw [nks_hash w w' xs ks h]
  | .bl _, _, h => by simp [nkD] at h
  | .str _, _, h => by simp [nkD] at h
  | .lst _, _, h => by simp [nkD] at h
  | .dct _ _ _, _, h => by simp [nkD] at h
  | .src, _, h => by simp [nkD] at h
  | .scr _, _, h => by simp [nkD] at h
theorem nks_hash (w w' : World) : ∀ (ds : List D) (ks : List NestedKey), nkDs ds = some ks → NestedKey.hashes w ks = NestedKey.hashes w' ks
  | [], _, h => by simp only [nkDs, Option.some.injEq] at h; subst h; simp [NestedKey.hashes]
  | x :: xs, _, h => by
    simp only [nkDs, Option.bind_eq_some_iff, Option.map_eq_some_iff] at h
    obtain ⟨k, h1, ks, h2, rfl⟩ := h
    simp only [NestedKey.hashes]
    rw [nk_hash w w' x k h1, nks_hash w w' xs ks h2]
end
theorem pair_keys {kvs : List (NestedKey × Addr × V)} {xs : List (NestedKey × Addr × Value)} (h : Paired (fun (p : NestedKey × Addr × V) (x : NestedKey × Addr × Value) => x.1 = p.1 ∧ x.2.1 = p.2.1 ∧ RelV p.2.2 x.2.2) kvs xs) : xs.map (·.1) = kvs.map (·.1) := by
  induction h with
  | nil => rfl
  | cons r _ ih => rw [List.map_cons, List.map_cons, ih, r.1]
section
variable {X : Cx} {pins : List (Addr × Obj)} {σ : L2.St} {H : Hp} {s : Shared} {Z : Zs} {F : Hp}
mutual
/-- such a key stands in the heap -/
theorem At.nested (I : Inv X pins σ H s) (e : Sub F H) : ∀ {d : D} {v : V} {u : Value} {k : NestedKey}, At X.K Z F v d → nkD d = some k → RelV v u → NestedIs s.heap k u
  | .non, _, _, _, h, q, r => by
    simp only [nkD, Option.some.injEq] at q; subst q
    rw [h.non_inv] at r
    cases r
    exact .none
  | .int i, _, _, _, h, q, r => by
    simp only [nkD, Option.some.injEq] at q; subst q
    rw [h.int_inv] at r
    obtain ⟨t, rfl⟩ := r
    exact .int _ _
  | .tup xs, _, _, _, h, q, r => by
    simp only [nkD, Option.map_eq_some_iff] at q
    obtain ⟨ks, q, rfl⟩ := q
    obtain ⟨p, ob, vs, rfl, hp, _, as⟩ := h.tup_inv'
    cases r
    obtain ⟨at_, _, its, rv, o2, e2, c2, n, d2⟩ := (show ObjOk X.prog X.w H s.heap p (.frz ob (.tup vs)) from I.hok p _ (e _ _ hp))
    exact .tup e2 c2 d2 (Ats.nested I e as q rv)
  | .bl _, _, _, _, _, h, _ => by simp [nkD] at h
  | .str _, _, _, _, _, h, _ => by simp [nkD] at h
  | .lst _, _, _, _, _, h, _ => by simp [nkD] at h
  | .dct _ _ _, _, _, _, _, h, _ => by simp [nkD] at h
  | .src, _, _, _, _, h, _ => by simp [nkD] at h
  | .scr _, _, _, _, _, h, _ => by simp [nkD] at h
theorem Ats.nested (I : Inv X pins σ H s) (e : Sub F H) : ∀ {ds : List D} {vs : List V} {us : List Value} {ks : List NestedKey}, Ats X.K Z F vs ds → nkDs ds = some ks → Vals vs us → NestedAll s.heap ks us
  | [], _, _, _, h, q, r => by
    simp only [nkDs, Option.some.injEq] at q; subst q
    cases h
    cases r
    exact .nil
  | x :: xs, _, _, _, h, q, r => by
    simp only [nkDs, Option.bind_eq_some_iff, Option.map_eq_some_iff] at q
    obtain ⟨k, h1, ks, h2, rfl⟩ := q
    cases h with
    | cons a as =>
      cases r with
      | cons ra ras => exact .cons (At.nested I e a h1 ra) (Ats.nested I e as h2 ras)
end
/-- the dict with tuple keys, opened -/
theorem dn_open {a : Addr} {w0 : World} {kvs : List (NestedKey × Addr × V)} {ks : List D} (I : Inv X pins σ H s) (e : Sub F H) (h : H a = some (dNo w0 a kvs)) (hk : Ats X.K Z F (kvs.map fun p => .ref p.2.1) ks) (q : ks.map nkD = kvs.map fun p => some p.1) :
    ∃ xs : List (NestedKey × Addr × Value), Paired (fun (p : NestedKey × Addr × V) (x : NestedKey × Addr × Value) => x.1 = p.1 ∧ x.2.1 = p.2.1 ∧ RelV p.2.2 x.2.2) kvs xs ∧ s.heap.DictOfH (nestedKind X.prog X.w) a xs ∧ kvs.length ≤ sizeLine ∧ (a == sysModules) = false ∧ (kvs.map (·.1)).Nodup ∧ ∀ p ∈ kvs, p.1.depth ≤ 8 := by
  obtain ⟨hz, hs, nd, dp, o, es, ep, h1, h2, h3, h4⟩ := (show ObjOk X.prog X.w H s.heap a (dNo w0 a kvs) from I.hok a _ h).1
  have go : ∀ (kvs : List (NestedKey × Addr × V)) (ks : List D) (es : List DictEntry), Ats X.K Z F (kvs.map fun p => .ref p.2.1) ks → (ks.map nkD = kvs.map fun p => some p.1) → (∀ p ∈ kvs, p.1.depth ≤ 8) →
      Paired (fun (p : NestedKey × Addr × V) (e : DictEntry) => e.hash = p.1.hash w0 ∧ e.key = .ref p.2.1 ∧ RelV p.2.2 e.val) kvs es →
      ∃ xs : List (NestedKey × Addr × Value), Paired (fun (p : NestedKey × Addr × V) (x : NestedKey × Addr × Value) => x.1 = p.1 ∧ x.2.1 = p.2.1 ∧ RelV p.2.2 x.2.2) kvs xs ∧ es = xs.map (entryOfKey (nestedKind X.prog X.w)) ∧ ∀ x ∈ xs, (nestedKind X.prog X.w).is s.heap x.1 x.2.1 := by
    intro kvs
    induction kvs with
    | nil =>
      intro ks es hk q dp r
      cases r
      exact ⟨[], .nil, rfl, fun x hx => nomatch hx⟩
    | cons p kvs ih =>
      intro ks es hk q dp r
      cases r with
      | cons r rs =>
        rename_i en es
        cases ks with
        | nil => simp at q
        | cons d ks =>
          simp only [List.map_cons, List.cons.injEq] at q hk
          cases hk with
          | cons a as =>
            obtain ⟨xs, i1, i2, i3⟩ := ih ks es as q.2 (fun z hz => dp z (List.mem_cons_of_mem _ hz)) rs
            obtain ⟨r1, r2, r3⟩ := r
            refine ⟨(p.1, p.2.1, en.val) :: xs, .cons ⟨rfl, rfl, r3⟩ i1, ?_, fun x hx => ?_⟩
            · rw [List.map_cons, i2]
              congr 1
              obtain ⟨eh, ek, ev⟩ := en
              simp only at r1 r2
              rw [r1, r2, nk_hash w0 X.w d p.1 q.1]
              rfl
            · rcases List.mem_cons.mp hx with rfl | hx
              · exact ⟨At.nested I e a q.1 rfl, dp p (List.mem_cons_self ..)⟩
              · exact i3 x hx
  obtain ⟨xs, i1, i2, i3⟩ := go kvs ks es.toList hk q dp h4
  have en := pair_keys i1
  exact ⟨xs, i1, ⟨o, es, ep, h1, h2, h3, i2, i3, by rw [en]; exact nd⟩, hz, hs, nd, dp⟩
end

def posD (ks : List D) (a : D) : Option Nat := ks.findIdx? fun k => eqB k a
theorem find_idx {α β : Type} (p : α → Bool) (f : α → β) : ∀ l : List α, (l.find? p).map f = (l.findIdx? p).bind fun j => (l.map f)[j]?
  | [] => rfl
  | x :: l => by
    rw [List.find?_cons, List.findIdx?_cons]
    cases h : p x with
    | true => rfl
    | false =>
      simp only [Bool.false_eq_true, if_false]
      rw [find_idx p f l]
      cases l.findIdx? p <;> simp
theorem findIdx_map {α β : Type} (f : α → β) (p : β → Bool) : ∀ l : List α, (l.map f).findIdx? p = l.findIdx? fun x => p (f x)
  | [] => rfl
  | x :: l => by
    rw [List.map_cons, List.findIdx?_cons, List.findIdx?_cons, findIdx_map f p l]
theorem posD_K {α : Type} (l : List α) (f : α → Key) (k : Key) : posD (l.map fun x => kD (f x)) (kD k) = l.findIdx? fun x => decide (f x = k) := by
  unfold posD
  rw [findIdx_map]
  congr 1
  funext x
  exact eqB_kD _ _
theorem posD_N {α : Type} (f : α → NestedKey) {a : D} {k : NestedKey} (hk : nkD a = some k) : ∀ {l : List α} {ks : List D}, ks.map nkD = l.map (fun x => some (f x)) → posD ks a = l.findIdx? fun x => decide (f x = k)
  | [], [], _ => rfl
  | [], _ :: _, h => by simp at h
  | _ :: _, [], h => by simp at h
  | x :: l, d :: ks, h => by
    simp only [List.map_cons, List.cons.injEq] at h
    have ih := posD_N f hk h.2
    unfold posD at ih ⊢
    rw [List.findIdx?_cons, List.findIdx?_cons, ih, eqB_nk d a _ _ h.1 hk]
/-- what the dict at a holds at y: by the layer, or by tuple keys -/
def DGetN (K : PySem.W.Frag) (H : Hp) (a : Addr) (y : V) (r : Option V) : Prop := ∃ (g : Gh) (w0 : World) (kvs : List (NestedKey × Addr × V)) (ks : List D) (kd : D) (k : NestedKey) (b : Addr), g.H = H ∧ g.Ok ∧ H a = some (dNo w0 a kvs) ∧ Ats K g.Z g.F (kvs.map fun p => .ref p.2.1) ks ∧
  (ks.map nkD = kvs.map fun p => some p.1) ∧ At K g.Z g.F y kd ∧ nkD kd = some k ∧ k.depth ≤ 8 ∧ y = .ref b ∧ r = (kvs.find? fun p => decide (p.1 = k)).map (·.2.2)
def DGetX (K : PySem.W.Frag) (H : Hp) (a : Addr) (y : V) (r : Option V) : Prop := DGet H a y r ∨ DGetN K H a y r
theorem DGetX.of {K : PySem.W.Frag} {g : Gh} (ok : g.Ok) {v y : V} {t : Bool} {ks ds : List D} {kd : D} (h : At K g.Z g.F v (.dct t ks ds)) (hy : At K g.Z g.F y kd) (kt : keyT t kd = true) :
    ∃ a us, v = .ref a ∧ Ats K g.Z g.F us ds ∧ DGetX K g.H a y ((posD ks kd).bind fun j => us[j]?) := by
  cases h with
  | dctK h hs =>
    rename_i a kvs
    obtain ⟨k, rfl⟩ := keyT_f kt
    refine ⟨a, _, rfl, hs, .inl (.inl ⟨kvs, k, ok.sub.rd h, hy.key, ?_⟩)⟩
    rw [posD_K kvs (·.1) k]
    exact (find_idx (fun kv : Key × V => decide (kv.1 = k)) (·.2) kvs).symm
  | dctT h hk q hs =>
    rename_i a w0 kvs
    obtain ⟨xs, k, rfl, e, dk⟩ := keyT_t kt
    obtain ⟨b, _, _, rfl, _⟩ := hy.tup_inv'
    refine ⟨a, _, rfl, hs, .inr ⟨g, w0, kvs, ks, _, k, b, rfl, ok, ok.sub _ _ h, hk, q, hy, e, dk, rfl, ?_⟩⟩
    rw [posD_N (f := fun p : NestedKey × Addr × V => p.1) e q]
    exact (find_idx (fun p : NestedKey × Addr × V => decide (p.1 = k)) (·.2.2) kvs).symm
section
variable {X : Cx} {pins : List (Addr × Obj)} {σ : L2.St} {H : Hp} {s : Shared} {a : Addr} {y d : V} {u r : Value} {o : Option V} {A : Around} {E : Value → Shared → Prop}
theorem pair_find {kvs : List (NestedKey × Addr × V)} {xs : List (NestedKey × Addr × Value)} (h : Paired (fun (p : NestedKey × Addr × V) (x : NestedKey × Addr × Value) => x.1 = p.1 ∧ x.2.1 = p.2.1 ∧ RelV p.2.2 x.2.2) kvs xs) (k : NestedKey) :
    RelO ((kvs.find? fun p => decide (p.1 = k)).map (·.2.2)) ((atKey xs k).map (·.2)) := by
  unfold atKey
  induction h with
  | nil => exact trivial
  | @cons p x ps xs r t ih =>
    rw [List.find?_cons, List.find?_cons, r.1]
    by_cases e : p.1 = k
    · rw [decide_eq_true e]; exact r.2.2
    · rw [decide_eq_false e]; exact ih
theorem DGetN.open (I : Inv X pins σ H s) (g : DGetN X.K H a y o) (ry : RelV y u) : ∃ b xs k, u = .ref b ∧ s.heap.DictOfH (nestedKind X.prog X.w) a xs ∧ (a == sysModules) = false ∧ (nestedKind X.prog X.w).is s.heap k b ∧ RelO o ((atKey xs k).map (·.2)) := by
  obtain ⟨g, w0, kvs, ks, kd, k, b, eH, ok, h, hk, q, hy, e, dk, rfl, rfl⟩ := g
  subst eH
  obtain ⟨xs, i1, i2, i3, i4, _⟩ := dn_open I ok.sub h hk q
  cases ry
  exact ⟨b, xs, k, rfl, i2, i4, ⟨At.nested I ok.sub hy e rfl, dk⟩, pair_find i1 k⟩
theorem dx_getItem {Q : Value → Shared → Prop} {v : V} (hu : A.units + 9 < cLine) (I : Inv X pins σ H s) (g : DGetX X.K H a y (some v)) (ry : RelV y u) (h : ∀ w' s', Inv X pins σ H s' → RelV v w' → Q w' s') :
    wpAny (model X.prog X.w) A (getItem (.ref a) u) Q E s := by
  rcases g with g | g
  · exact d_getItem (by omega) I g ry h
  · obtain ⟨b, xs, k, rfl, dd, _, hk, ro⟩ := DGetN.open I g ry
    obtain ⟨w', hw, rw'⟩ := RelO.some_of ro
    obtain ⟨p, hp, hp2⟩ := Option.map_eq_some_iff.mp hw
    refine wpAny_getItem_heap (show A.in1.units + 8 < cLine by show A.units + 1 + 8 < cLine; omega) hk dd hp ?_
    rw [hp2]
    exact h w' _ (I.tok _) rw'
theorem dx_in {Q : Value → Shared → Prop} (hu : A.units + 9 < cLine) (I : Inv X pins σ H s) (g : DGetX X.K H a y o) (ry : RelV y u) (h : ∀ s', Inv X pins σ H s' → Q (.bool o.isSome) s') :
    wpAny (model X.prog X.w) A (compareOp .In u (.ref a)) Q E s := by
  rcases g with g | g
  · exact d_in (by omega) I g ry h
  · obtain ⟨b, xs, k, rfl, dd, hs, hk, ro⟩ := DGetN.open I g ry
    have q := ro.isSome_eq
    rw [Option.isSome_map] at q
    refine wpAny_in_heap (show A.in1.units + 8 < cLine by show A.units + 1 + 8 < cLine; omega) hk hs dd ?_
    rw [← q]
    exact h _ (I.tok _)
theorem dx_notIn {Q : Value → Shared → Prop} (hu : A.units + 9 < cLine) (I : Inv X pins σ H s) (g : DGetX X.K H a y o) (ry : RelV y u) (h : ∀ s', Inv X pins σ H s' → Q (.bool (!o.isSome)) s') :
    wpAny (model X.prog X.w) A (compareOp .NotIn u (.ref a)) Q E s := by
  rcases g with g | g
  · exact d_notIn (by omega) I g ry h
  · obtain ⟨b, xs, k, rfl, dd, hs, hk, ro⟩ := DGetN.open I g ry
    have q := ro.isSome_eq
    rw [Option.isSome_map] at q
    refine PyProof.Rows.wpAny_notIn_heap (show A.in1.units + 8 < cLine by show A.units + 1 + 8 < cLine; omega) hk hs dd ?_
    rw [← q]
    exact h _ (I.tok _)
theorem dx_typeIs (I : Inv X pins σ H s) (g : DGetX X.K H a y o) (ry : RelV y u) : s.TypeIs (.ref a) "dict" := by
  rcases g with g | g
  · exact dict_typeIs I g
  · obtain ⟨b, xs, k, rfl, dd, _⟩ := DGetN.open I g ry
    exact dd.typeIs
end

/-- a[b], of dicts too -/
def ixXD : D → D → PQ
  | .dct t ks vs, k => fun Q => keyT t k = true ∧ ∃ d, ((posD ks k).bind fun j => vs[j]?) = some d ∧ Q (.val d)
  | .tup ds, k => ixD (.tup ds) k
  | .lst ds, k => ixD (.lst ds) k
  | a, b => ixD a b
def rIxDX (K : PySem.W.Frag) : R2 := fun x y H Q => ∃ a v, x = .ref a ∧ DGetX K H a y (some v) ∧ Q v H
theorem ix_dct {X : Cx} (hu : X.A.units + 9 < cLine) : IxR X (rIxDX X.K) := by
  intro value slice pins s σ H x y v u Q I rx ry h hs
  obtain ⟨a, r, rfl, g, q⟩ := h
  obtain rfl : v = Value.ref a := rx
  exact tail_any (dx_typeIs I g ry) PySem.F.slot_dict_getitem.lookup (dx_getItem hu I g ry fun w' s' I' rw' => ⟨r, H, I', rw', q⟩) hs
def rIxX (K : PySem.W.Frag) : R2 := fun x y H Q => rIx K x y H Q ∨ rIxDX K x y H Q
theorem ix_X {X : Cx} (hu : X.A.units + 9 < cLine) : IxR X (rIxX X.K) := ix_seq.or (ix_dct hu)
theorem Ats.some {K : PySem.W.Frag} {Z : Zs} {F : Hp} {us : List V} {ds : List D} {p : Option Nat} {d : D} (h : Ats K Z F us ds) (e : (p.bind fun j => ds[j]?) = some d) : ∃ v, (p.bind fun j => us[j]?) = some v ∧ At K Z F v d := by
  cases p with
  | none => cases e
  | some j => exact h.get e
theorem Ats.isSome {K : PySem.W.Frag} {Z : Zs} {F : Hp} {us : List V} {ks ds : List D} {a : D} (h : Ats K Z F us ds) (hl : ks.length = ds.length) : ((posD ks a).bind fun j => us[j]?).isSome = (posD ks a).isSome := by
  cases e : posD ks a with
  | none => rfl
  | some j =>
    have hj : j < us.length := by
      rw [h.length, ← hl]
      unfold posD at e
      exact (List.findIdx?_eq_some_iff_getElem.mp e).1
    show (us[j]?).isSome = true
    rw [List.getElem?_eq_getElem hj]
    rfl
theorem At.dct_len {K : PySem.W.Frag} {Z : Zs} {F : Hp} {v : V} {t : Bool} {ks ds : List D} (h : At K Z F v (.dct t ks ds)) : ks.length = ds.length := by
  cases h with
  | dctK h hs => have := hs.length; simp at this ⊢; exact this
  | dctT h hk q hs =>
    have l1 := hs.length
    have l2 := congrArg List.length q
    simp at l1 l2
    omega
section
variable {K : PySem.W.Frag}
theorem od_ixX : OpD K (rIxX K) ixXD := by
  intro g x y a b Qd Q ok ha hb hw k
  unfold ixXD at hw
  split at hw
  · obtain ⟨kt, d, e, q⟩ := hw
    obtain ⟨p, us, rfl, as, gt⟩ := DGetX.of ok ha hb kt
    obtain ⟨v, e', av⟩ := as.some e
    rw [e'] at gt
    exact .inr ⟨p, v, rfl, gt, k _ _ g ok.refl (.val av) q⟩
  · exact .inl (od_ix g x y _ _ Qd Q ok ha hb hw k)
  · exact .inl (od_ix g x y _ _ Qd Q ok ha hb hw k)
  · exact .inl (od_ix g x y _ _ Qd Q ok ha hb hw k)
/-- a in b: lists, tuples, dicts -/
def inXD (n : Bool) (a : D) : D → PQ
  | .lst ds => fun Q => okE a ∧ okE (.lst ds) ∧ Q (.val (.bl (n ^^ ds.any fun z => eqB z a)))
  | .tup ds => fun Q => okE a ∧ okE (.lst ds) ∧ Q (.val (.bl (n ^^ ds.any fun z => eqB z a)))
  | .dct t ks _ => fun Q => keyT t a = true ∧ Q (.val (.bl (n ^^ (posD ks a).isSome)))
  | _ => fun _ => False
def rInX (K : PySem.W.Frag) (n : Bool) : R2 := fun x y H Q => (∃ d ds, Dp K H x d ∧ (Dp K H y (.list ds) ∨ Dp K H y (.tuple ds)) ∧ SeqAt.shaped d = true ∧ SeqAt.shaped (.list ds) = true ∧ Q (.bl (n ^^ ds.any fun z => PyData.eqv z d)) H) ∨
  ∃ a o, y = .ref a ∧ DGetX K H a x o ∧ Q (.bl (n ^^ o.isSome)) H
theorem od_inX (n : Bool) : OpD K (rInX K n) (inXD n) := by
  intro g x y a b Qd Q ok ha hb hw k
  unfold inXD at hw
  split at hw
  · obtain ⟨h1, h2, h3⟩ := hw
    have hb' := hb.dp ok.sub h2
    have hs := shaped_of h2 (by decide)
    simp only [toPy] at hb' hs
    refine .inl ⟨_, _, ha.dp ok.sub h1, .inl hb', shaped_of h1 (by decide), hs, ?_⟩
    rw [any_toPys]
    exact k _ _ g ok.refl (.val (.bl _)) h3
  · obtain ⟨h1, h2, h3⟩ := hw
    have hb' := hb.dp ok.sub (show okD 8 _ = true from h2)
    have hs := shaped_of h2 (by decide)
    simp only [toPy] at hb' hs
    refine .inl ⟨_, _, ha.dp ok.sub h1, .inr hb', shaped_of h1 (by decide), hs, ?_⟩
    rw [any_toPys]
    exact k _ _ g ok.refl (.val (.bl _)) h3
  · obtain ⟨kt, q⟩ := hw
    obtain ⟨p, us, rfl, as, gt⟩ := DGetX.of ok hb ha kt
    refine .inr ⟨p, _, rfl, gt, ?_⟩
    rw [as.isSome hb.dct_len]
    exact k _ _ g ok.refl (.val (.bl _)) q
  · exact hw.elim
end
theorem op_inX {X : Cx} (hu : X.A.units + 65 < cLine) : OpR X (compareOp .In) (rInX X.K false) := by
  intro pins s σ H x y v u Q I rx ry h
  rcases h with ⟨d, ds, hd, he, sd, se, q⟩ | ⟨a, o, rfl, gt, q⟩
  · obtain ⟨as, r1⟩ := Dp.reads I d x v hd rx
    rw [Bool.false_xor] at q
    rcases he with he | he
    · obtain ⟨bs, r2⟩ := Dp.reads I (.list ds) y u he ry
      exact SeqAt.in_list_reads r2 r1 (SeqAt.canLay_of_shaped se) (SeqAt.canLay_of_shaped sd) (room_in_shaped sd hu) ⟨.bl _, H, I, rfl, q⟩
    · obtain ⟨bs, r2⟩ := Dp.reads I (.tuple ds) y u he ry
      exact SeqAt.in_tuple_reads r2 r1 (SeqAt.canLay_of_shaped se) (SeqAt.canLay_of_shaped sd) (room_in_shaped sd hu) ⟨.bl _, H, I, rfl, q⟩
  · obtain rfl : u = Value.ref a := ry
    rw [Bool.false_xor] at q
    exact dx_in (by omega) I gt rx fun s' I' => ⟨.bl _, H, I', rfl, q⟩
theorem op_notInX {X : Cx} (hu : X.A.units + 65 < cLine) : OpR X (compareOp .NotIn) (rInX X.K true) := by
  intro pins s σ H x y v u Q I rx ry h
  rcases h with ⟨d, ds, hd, he, sd, se, q⟩ | ⟨a, o, rfl, gt, q⟩
  · obtain ⟨as, r1⟩ := Dp.reads I d x v hd rx
    rw [Bool.true_xor] at q
    rcases he with he | he
    · obtain ⟨bs, r2⟩ := Dp.reads I (.list ds) y u he ry
      exact SeqAt.notIn_list_reads r2 r1 (SeqAt.canLay_of_shaped se) (SeqAt.canLay_of_shaped sd) (room_in_shaped sd hu) ⟨.bl _, H, I, rfl, q⟩
    · obtain ⟨bs, r2⟩ := Dp.reads I (.tuple ds) y u he ry
      exact SeqAt.notIn_tuple_reads r2 r1 (SeqAt.canLay_of_shaped se) (SeqAt.canLay_of_shaped sd) (room_in_shaped sd hu) ⟨.bl _, H, I, rfl, q⟩
  · obtain rfl : u = Value.ref a := ry
    rw [Bool.true_xor] at q
    exact dx_notIn (by omega) I gt rx fun s' I' => ⟨.bl _, H, I', rfl, q⟩
section
variable {Q : O → Prop} {ds : List D} {a b : D} {t : Bool} {ks vs : List D}
@[simp] theorem ixXD_tup : ixXD (.tup ds) b Q = ixD (.tup ds) b Q := rfl
@[simp] theorem ixXD_lst : ixXD (.lst ds) b Q = ixD (.lst ds) b Q := rfl
@[simp] theorem ixXD_T {α : Type} [Enc α] (l : List α) : ixXD (T l) b Q = ixD (T l) b Q := rfl
@[simp] theorem ixXD_L {α : Type} [Enc α] (l : List α) : ixXD (L l) b Q = ixD (L l) b Q := rfl
@[simp] theorem ixXD_dct : ixXD (.dct t ks vs) b Q = (keyT t b = true ∧ ∃ d, ((posD ks b).bind fun j => vs[j]?) = some d ∧ Q (.val d)) := rfl
@[simp] theorem inXD_lst {n : Bool} : inXD n a (.lst ds) Q = (okE a ∧ okE (.lst ds) ∧ Q (.val (.bl (n ^^ ds.any fun z => eqB z a)))) := rfl
@[simp] theorem inXD_tup {n : Bool} : inXD n a (.tup ds) Q = (okE a ∧ okE (.lst ds) ∧ Q (.val (.bl (n ^^ ds.any fun z => eqB z a)))) := rfl
@[simp] theorem inXD_dct {n : Bool} : inXD n a (.dct t ks vs) Q = (keyT t a = true ∧ Q (.val (.bl (n ^^ (posD ks a).isSome)))) := rfl
end
end DL
/-! DStm4 -/
namespace DL
open PySem PySem.Spec PyProof.Rows L2
section
variable {X : Cx} {W : WX} {K : PySem.W.Frag} {g0 g : Gh} {env : SEnv} {σ : L2.St} {vs vs' : List V} {os os' : List O} {cs : Option Nat → List Addr}
/-- a cell l of what slot i holds is written -/
theorem SS'.putC' (h : SS' K g0 g env σ vs os cs) {i : Nat} {l : Addr} {u' : HO} {v : V} {o o' : O} {c1 ct : List Addr} (e : env[i]? = some (some o)) (hv : σ[i]? = some (some v)) (lin : l ∈ cs (some i)) (hu : isCellO u' = true)
    (r1 : RO K g.Z g.F (upd g.H l u') v o' c1) (r2 : ROs K g.Z g.F (upd g.H l u') vs' os' ct) (cnt : ∀ c, c1.count c + ct.count c ≤ (cs (some i)).count c + (cs none).count c) :
    ∃ cs', SS' K g0 ⟨g.Z, g.F, upd g.H l u'⟩ (env.set i (some o')) σ vs' os' cs' ∧ ∀ j c, c ∈ cs' j → ∃ j', c ∈ cs j' := by
  obtain ⟨lF, l0, lZ, _⟩ := h.fr _ l lin
  have from1 : ∀ c, c ∈ c1 ∨ c ∈ ct → c ∈ cs (some i) ∨ c ∈ cs none := fun c m => by
    have := cnt c
    have p1 : c ∈ c1 → 0 < c1.count c := List.count_pos_iff.mpr
    have p2 : c ∈ ct → 0 < ct.count c := List.count_pos_iff.mpr
    by_cases q : c ∈ cs (some i)
    · exact .inl q
    · refine .inr (List.count_pos_iff.mp ?_)
      have := List.count_eq_zero.mpr q
      rcases m with m | m
      · have := p1 m; omega
      · have := p2 m; omega
  have le1 : ∀ c, (cs (some i)).count c + (cs none).count c ≤ 1 := fun c => by
    have a1 := List.nodup_iff_count.mp (h.nd (some i)) c
    have a2 := List.nodup_iff_count.mp (h.nd none) c
    by_cases q : c ∈ cs (some i)
    · have := List.count_eq_zero.mpr (show c ∉ cs none from fun m => by have := h.dj _ _ c q m; cases this)
      omega
    · have := List.count_eq_zero.mpr q
      omega
  have fr1 : ∀ c, c ∈ c1 ∨ c ∈ ct → g.F c = none ∧ g0.H c = none ∧ ¬ inZ g.Z c ∧ ∃ u, g.H c = some u ∧ isCellO u = true := fun c m => by
    rcases from1 c m with q | q
    · exact h.fr _ c q
    · exact h.fr _ c q
  have oth : ∀ {i' c}, i' ≠ i → c ∈ cs (some i') → c ≠ l ∧ ¬ (c ∈ c1 ∨ c ∈ ct) := fun {i' c} n m => by
    refine ⟨fun q => ?_, fun q => ?_⟩
    · subst q
      have := h.dj _ _ c m lin
      simp at this
      exact n this
    · rcases from1 c q with q | q
      · have := h.dj _ _ c m q
        simp at this
        exact n this
      · have := h.dj _ _ c m q; cases this
  have kp : ∀ c u, c ≠ l → g.H c = some u → upd g.H l u' c = some u := fun c u n q => by rw [upd_ne n]; exact q
  have no : ∀ c, c ∈ c1 → c ∈ ct → False := fun c a b => by
    have := cnt c
    have := le1 c
    have := List.count_pos_iff.mpr a
    have := List.count_pos_iff.mpr b
    omega
  refine ⟨fun j => match j with | none => ct | some i' => if i' = i then c1 else cs (some i'), ⟨h.st.own l0 lF lZ, by simp [h.len], fun i' p q => ?_, r2, fun j c m => ?_, fun j => ?_, fun j j' c m m' => ?_⟩, fun j c m => ?_⟩
  case refine_5 =>
    cases j with
    | none => rcases from1 c (.inr m) with q | q <;> exact ⟨_, q⟩
    | some i' =>
      by_cases q : i' = i
      · simp only [if_pos q] at m
        rcases from1 c (.inl m) with q | q <;> exact ⟨_, q⟩
      · simp only [if_neg q] at m
        exact ⟨_, m⟩
  · rcases List.set_get q with ⟨ei, q1⟩ | ⟨n, q1⟩
    · subst ei
      obtain rfl : o' = p := Option.some.inj q1
      refine ⟨_, hv, ?_⟩
      simp only [if_pos]
      exact r1
    · obtain ⟨w, h1, h2⟩ := h.slot i' p q1
      refine ⟨w, h1, ?_⟩
      simp only [if_neg (Ne.symm n)]
      exact h2.mono (Sub.refl _) (fun _ z => z) fun c m u q => kp c u (oth (Ne.symm n) m).1 q
  · have put : (g.F c = none ∧ g0.H c = none ∧ ¬ inZ g.Z c ∧ ∃ u, g.H c = some u ∧ isCellO u = true) → g.F c = none ∧ g0.H c = none ∧ ¬ inZ g.Z c ∧ ∃ u, upd g.H l u' c = some u ∧ isCellO u = true := fun ⟨a, b, d, u, hc, hk⟩ => by
      refine ⟨a, b, d, ?_⟩
      by_cases q : c = l
      · subst q; exact ⟨_, upd_same, hu⟩
      · exact ⟨u, kp c u q hc, hk⟩
    cases j with
    | none => exact put (fr1 c (.inr m))
    | some i' =>
      by_cases q : i' = i
      · simp only [if_pos q] at m
        exact put (fr1 c (.inl m))
      · simp only [if_neg q] at m
        exact put (h.fr _ c m)
  · cases j with
    | none =>
      show ct.Nodup
      exact List.nodup_iff_count.mpr fun c => by have := cnt c; have := le1 c; omega
    | some i' =>
      by_cases q : i' = i
      · simp only [if_pos q]
        exact List.nodup_iff_count.mpr fun c => by have := cnt c; have := le1 c; omega
      · simp only [if_neg q]; exact h.nd _
  · cases j with
    | none =>
      cases j' with
      | none => rfl
      | some i' =>
        by_cases q : i' = i
        · simp only [if_pos q] at m'
          exact (no c m' m).elim
        · simp only [if_neg q] at m'
          exact absurd (.inr m) (oth q m').2
    | some i1 =>
      by_cases q : i1 = i
      · simp only [if_pos q] at m
        cases j' with
        | none => exact (no c m m').elim
        | some i2 =>
          by_cases q' : i2 = i
          · rw [q, q']
          · simp only [if_neg q'] at m'
            exact absurd (.inl m) (oth q' m').2
      · simp only [if_neg q] at m
        cases j' with
        | none => exact absurd (.inr m') (oth q m).2
        | some i2 =>
          by_cases q' : i2 = i
          · simp only [if_pos q'] at m'
            exact absurd (.inl m') (oth q m).2
          · simp only [if_neg q'] at m'
            exact h.dj _ _ c m m'
theorem SS'.putC (h : SS' K g0 g env σ vs os cs) {i : Nat} {l : Addr} {u' : HO} {v : V} {o o' : O} {c1 ct : List Addr} (e : env[i]? = some (some o)) (hv : σ[i]? = some (some v)) (lin : l ∈ cs (some i)) (hu : isCellO u' = true)
    (r1 : RO K g.Z g.F (upd g.H l u') v o' c1) (r2 : ROs K g.Z g.F (upd g.H l u') vs' os' ct) (cnt : ∀ c, c1.count c + ct.count c ≤ (cs (some i)).count c + (cs none).count c) :
    SS K g0 ⟨g.Z, g.F, upd g.H l u'⟩ (env.set i (some o')) σ vs' os' := by
  obtain ⟨cs', h', _⟩ := h.putC' e hv lin hu r1 r2 cnt
  exact ⟨cs', h'⟩
/-- the kids of an own structure -/
def O.kids : O → List O
  | .lst os => os
  | .dct _ _ os => os
  | .val _ => []
def O.setKid : O → Nat → O → O
  | .lst os, j, p => .lst (os.set j p)
  | .dct t ks os, j, p => .dct t ks (os.set j p)
  | .val d, _, _ => .val d
@[simp] theorem O.kids_lst (os : List O) : (O.lst os).kids = os := rfl
@[simp] theorem O.kids_dct (t : Bool) (ks : List D) (os : List O) : (O.dct t ks os).kids = os := rfl
@[simp] theorem O.setKid_lst (os : List O) (j : Nat) (p : O) : (O.lst os).setKid j p = .lst (os.set j p) := rfl
@[simp] theorem O.setKid_dct (t : Bool) (ks : List D) (os : List O) (j : Nat) (p : O) : (O.dct t ks os).setKid j p = .dct t ks (os.set j p) := rfl
theorem ROs.kid {Z : Zs} {F H : Hp} : ∀ {ps : List O} {us : List V} {c0 : List Addr} {j : Nat} {p : O}, ROs K Z F H us ps c0 → ps[j]? = some p → c0.Nodup →
    ∃ w d, us[j]? = some w ∧ RO K Z F H w p d ∧ (∀ c, d.count c ≤ c0.count c) ∧ ∀ (H' : Hp) (p' : O) (d' : List Addr), (∀ c ∈ c0, c ∉ d → ∀ u, H c = some u → H' c = some u) → RO K Z F H' w p' d' → ∃ c', ROs K Z F H' us (ps.set j p') c' ∧ ∀ c, c'.count c + d.count c = c0.count c + d'.count c
  | [], _, _, _, _, _, e, _ => by simp at e
  | q :: ps, _, _, 0, p, .cons (cs := c1) (ds := c2) r t, e, nd => by
    simp only [List.getElem?_cons_zero, Option.some.injEq] at e
    subst e
    obtain ⟨_, _, ap⟩ := List.nodup_append.mp nd
    refine ⟨_, c1, rfl, r, fun c => by rw [List.count_append]; omega, fun H' p' d' kp r' => ⟨d' ++ c2, .cons r' (ROs.mono (Sub.refl _) (fun _ z => z) t fun c m u q => kp c (by simp [m]) (fun m' => ap c m' c m rfl) u q), fun c => by rw [List.count_append, List.count_append]; omega⟩⟩
  | q :: ps, _, _, j + 1, p, .cons (cs := c1) (ds := c2) r t, e, nd => by
    obtain ⟨n1, n2, ap⟩ := List.nodup_append.mp nd
    obtain ⟨w, d, h1, h2, h3, h4⟩ := ROs.kid (j := j) t (by simpa using e) n2
    have h3' : ∀ c ∈ d, c ∈ c2 := fun c m => List.count_pos_iff.mp (Nat.lt_of_lt_of_le (List.count_pos_iff.mpr m) (h3 c))
    refine ⟨w, d, by simpa using h1, h2, fun c => by rw [List.count_append]; have := h3 c; omega, fun H' p' d' kp r' => ?_⟩
    obtain ⟨c', k1, k2⟩ := h4 H' p' d' (fun c m n u q => kp c (by simp [m]) n u q) r'
    refine ⟨c1 ++ c', .cons (r.mono (Sub.refl _) (fun _ z => z) fun c m u q => kp c (by simp [m]) (fun m' => ap c m c (h3' c m') rfl) u q) k1, fun c => ?_⟩
    rw [List.count_append, List.count_append]
    have := k2 c
    omega
/-- what stands in the cell of an own structure -/
inductive CellOf (K : PySem.W.Frag) (Z : Zs) (F H : Hp) (l : Addr) : O → List V → Prop
  | lst {us : List V} {os : List O} : H l = some (.lst us) → CellOf K Z F H l (.lst os) us
  | dctK {kvs : List (Key × V)} {os : List O} : H l = some (.dK kvs) → (kvs.map (·.1)).Nodup → CellOf K Z F H l (.dct false (kvs.map fun p => kD p.1) os) (kvs.map (·.2))
  | dctT {w : World} {kvs : List (NestedKey × Addr × V)} {ks : List D} {os : List O} : H l = some (dNo w l kvs) → (kvs.map (·.1)).Nodup → Ats K Z F (kvs.map fun p => .ref p.2.1) ks → ks.map nkD = (kvs.map fun p => some p.1) → CellOf K Z F H l (.dct true ks os) (kvs.map (·.2.2))
def O.withKids : O → List O → O
  | .lst _, os => .lst os
  | .dct t ks _, os => .dct t ks os
  | .val d, _ => .val d
theorem O.setKid_eq (o : O) (j : Nat) (p : O) : o.setKid j p = o.withKids (o.kids.set j p) := by cases o <;> rfl
def O.isVal : O → Bool
  | .val _ => true
  | _ => false
theorem RO.open {Z : Zs} {F H : Hp} {v : V} {o : O} {cs : List Addr} (r : RO K Z F H v o cs) (n : o.isVal = false) : ∃ l us c0, v = .ref l ∧ cs = l :: c0 ∧ CellOf K Z F H l o us ∧ ROs K Z F H us o.kids c0 := by
  cases r with
  | val _ => cases n
  | lst h hs => exact ⟨_, _, _, rfl, rfl, .lst h, hs⟩
  | dctK h nd hs => exact ⟨_, _, _, rfl, rfl, .dctK h nd, hs⟩
  | dctT h nd hk q hs => exact ⟨_, _, _, rfl, rfl, .dctT h nd hk q, hs⟩
theorem CellOf.mk {Z : Zs} {F H H' : Hp} {l : Addr} {o : O} {us : List V} {os : List O} {c0 : List Addr} (c : CellOf K Z F H l o us) (e : H' l = H l) (r : ROs K Z F H' us os c0) : RO K Z F H' (.ref l) (o.withKids os) (l :: c0) := by
  cases c with
  | lst h => exact .lst (e.trans h) r
  | dctK h nd => exact .dctK (e.trans h) nd r
  | dctT h nd hk q => exact .dctT (e.trans h) nd hk q r
def kidPos : O → D → Option Nat
  | .lst os, .int n => ixN os.length n
  | .dct t ks _, k => if keyT t k = true then posD ks k else none
  | _, _ => none
@[simp] theorem kidPos_lst {os : List O} {n : Int} : kidPos (.lst os) (.int n) = ixN os.length n := rfl
@[simp] theorem kidPos_dct {t : Bool} {ks : List D} {os : List O} {k : D} : kidPos (.dct t ks os) k = if keyT t k = true then posD ks k else none := rfl
theorem kidPos_val {o : O} {k : D} {j : Nat} (h : kidPos o k = some j) : o.isVal = false := by cases o <;> first | rfl | (simp [kidPos] at h)
/-- the kid at a key is read -/
theorem own_get {l : Addr} {o : O} {us : List V} {c0 : List Addr} {y : V} {kd : D} {j : Nat} {p : O} (ok : g.Ok) (c : CellOf K g.Z g.F g.H l o us) (r : ROs K g.Z g.F g.H us o.kids c0) (ej : kidPos o kd = some j) (ay : At K g.Z g.F y kd) (ek : o.kids[j]? = some p) :
    ∃ w, us[j]? = some w ∧ ∀ Q : VK, Q w g.H → rIxX K (.ref l) y g.H Q := by
  have hl : j < us.length := by rw [r.length]; exact (List.getElem?_eq_some_iff.mp ek).1
  refine ⟨us[j], List.getElem?_eq_getElem hl, fun Q q => ?_⟩
  cases c with
  | lst h =>
    cases kd with
    | int n =>
      refine .inl (.inl ⟨l, us, n, us[j], rfl, ay.int_inv, SqL.of h, ?_, q⟩)
      have e2 : ixN us.length n = some j := by rw [r.length]; exact ej
      unfold L2.atI
      rw [e2]
      exact List.getElem?_eq_getElem hl
    | _ => cases ej
  | dctK h nd =>
    rename_i kvs os
    simp only [kidPos_dct] at ej
    split at ej
    · rename_i kt
      obtain ⟨k, rfl⟩ := keyT_f kt
      refine .inr ⟨l, _, rfl, .inl (.inl ⟨kvs, k, .inl h, ay.key, ?_⟩), q⟩
      rw [posD_K kvs (·.1) k] at ej
      have := find_idx (fun kv : Key × V => decide (kv.1 = k)) (·.2) kvs
      rw [ej] at this
      show _ = (kvs.find? fun kv => decide (kv.1 = k)).map (·.2)
      rw [this]
      exact (List.getElem?_eq_getElem hl).symm
    · cases ej
  | dctT h nd hk q' =>
    rename_i w0 kvs ks os
    simp only [kidPos_dct] at ej
    split at ej
    · rename_i kt
      obtain ⟨xs, k, rfl, e, dk⟩ := keyT_t kt
      obtain ⟨b, _, _, rfl, _⟩ := ay.tup_inv'
      refine .inr ⟨l, _, rfl, .inr ⟨g, w0, kvs, ks, _, k, b, rfl, ok, h, hk, q', ay, e, dk, rfl, ?_⟩, q⟩
      rw [posD_N (f := fun p : NestedKey × Addr × V => p.1) e q'] at ej
      have := find_idx (fun p : NestedKey × Addr × V => decide (p.1 = k)) (·.2.2) kvs
      rw [ej] at this
      rw [this]
      exact (List.getElem?_eq_getElem hl).symm
    · cases ej
/-- evC, and what stands keeps standing -/
theorem SS'.goK {w : WE} {Qd : O → Prop} {Ee : SEX} {Q : VK} (h : SS' X.K g0 g env σ vs os cs) (hw : evC w env Qd Ee) (k : ∀ v o g1 cs1, SS' X.K g0 g1 env σ (v :: vs) (o :: os) cs1 → (∀ i, cs1 (some i) = cs (some i)) → Sub g.F g1.F → (∀ p ∈ g.Z, p ∈ g1.Z) → (∀ a u, g.H a = some u → ¬ inZ g.Z a → g1.H a = some u) → Qd o → Q v g1.H) (kx : EL X W g0 Ee) : LE X W w σ g.H Q := by
  refine LE.goO (g := ⟨g.Z, thaw g.F g.H (cells cs), g.H⟩) h.es hw (fun v o g1 s r q => ?_) fun x cls dd g1 s r q => ?_
  · obtain ⟨ds, r, nd, hc⟩ := r
    have r' : RO X.K g1.Z (untw g1.F (cells cs)) g1.H v o ds := RO.strip (h.tups s) r q.1
    have st := h.back s
    have fr : ∀ c ∈ ds, untw g1.F (cells cs) c = none := fun c m => by
      by_cases z : cells cs c
      · exact untw_in z
      · rw [untw_out z]; exact (hc c m).1
    exact k v o ⟨g1.Z, untw g1.F (cells cs), g1.H⟩ _ ((h.step st).push r' nd (fun c m => ⟨fr c m, h.st.none_ (hc c m).2.1, (hc c m).2.2⟩) fun j c m m' => by
      obtain ⟨_, _, _, u, hu, _⟩ := h.fr j c m'
      have e2 : g.H c = none := (hc c m).2.1
      rw [e2] at hu; cases hu) (fun _ => rfl) st.up st.zs st.keep q.2
  · exact kx ⟨g1.Z, untw g1.F (cells cs), g1.H⟩ env σ x cls dd (SS.drop (X := X) ⟨cs, h.step (h.back s)⟩) (r.back h s q.1) q.2
theorem CellOf.mono {Z Z' : Zs} {F F' H H' : Hp} {l : Addr} {o : O} {us : List V} (c : CellOf K Z F H l o us) (e : Sub F F') (z : ∀ p ∈ Z, p ∈ Z') (k : ∀ u, H l = some u → H' l = some u) : CellOf K Z' F' H' l o us := by
  cases c with
  | lst h => exact .lst (k _ h)
  | dctK h nd => exact .dctK (k _ h) nd
  | dctT h nd hk q => exact .dctT (k _ h) nd (hk.mono e z) q
/-- an own slot, opened -/
theorem SS'.ownO (h : SS' K g0 g env σ vs os cs) {i : Nat} {o : O} (e : env[i]? = some (some o)) (n : o.isVal = false) : ∃ l us c0, σ[i]? = some (some (.ref l)) ∧ cs (some i) = l :: c0 ∧ CellOf K g.Z g.F g.H l o us ∧ ROs K g.Z g.F g.H us o.kids c0 := by
  obtain ⟨v, hv, r⟩ := h.slot i o e
  obtain ⟨l, us, c0, rfl, h1, h2, h3⟩ := r.open n
  exact ⟨l, us, c0, hv, h1, h2, h3⟩
end
end DL
/-! DPut -/
namespace DL
open PySem PySem.Spec PyProof.Rows L2
def putN (kvs : List (NestedKey × Addr × V)) (k : NestedKey) (b : Addr) (v : V) : List (NestedKey × Addr × V) :=
  if (kvs.any fun p => decide (p.1 = k)) = true then kvs.map (fun p => if p.1 = k then (p.1, p.2.1, v) else p) else kvs ++ [(k, b, v)]
def DPutN (K : PySem.W.Frag) (H : Hp) (a : Addr) (y v : V) (H' : Hp) : Prop := ∃ (g : Gh) (w0 : World) (kvs : List (NestedKey × Addr × V)) (ks : List D) (kd : D) (k : NestedKey) (b : Addr), g.H = H ∧ g.Ok ∧ H a = some (dNo w0 a kvs) ∧ Ats K g.Z g.F (kvs.map fun p => .ref p.2.1) ks ∧
  (ks.map nkD = kvs.map fun p => some p.1) ∧ At K g.Z g.F y kd ∧ nkD kd = some k ∧ k.depth ≤ 8 ∧ y = .ref b ∧ kvs.length < sizeLine ∧ H' = upd H a (dNo w0 a (putN kvs k b v))
def DPutX (K : PySem.W.Frag) (H : Hp) (a : Addr) (y v : V) (H' : Hp) : Prop := DPut H a y v H' ∨ DPutN K H a y v H'
abbrev PrN : NestedKey × Addr × V → NestedKey × Addr × Value → Prop := fun p x => x.1 = p.1 ∧ x.2.1 = p.2.1 ∧ RelV p.2.2 x.2.2
theorem pair_any {kvs : List (NestedKey × Addr × V)} {xs : List (NestedKey × Addr × Value)} (h : Paired PrN kvs xs) (k : NestedKey) : (kvs.any fun p => decide (p.1 = k)) = (atKey xs k).isSome := by
  unfold atKey
  induction h with
  | nil => rfl
  | @cons p x ps xs r t ih =>
    rw [List.any_cons, List.find?_cons, r.1]
    by_cases e : p.1 = k
    · rw [decide_eq_true e]; rfl
    · rw [decide_eq_false e, Bool.false_or]; exact ih
theorem Paired.snocP {α β : Type} {F : α → β → Prop} {a : α} {b : β} (h : F a b) : ∀ {l : List α} {m : List β}, Paired F l m → Paired F (l ++ [a]) (m ++ [b])
  | _, _, .nil => .cons h .nil
  | _, _, .cons r t => .cons r (Paired.snocP h t)
theorem pair_put {kvs : List (NestedKey × Addr × V)} {xs : List (NestedKey × Addr × Value)} (h : Paired PrN kvs xs) (k : NestedKey) (b : Addr) {v : V} {u : Value} (rv : RelV v u) : Paired PrN (putN kvs k b v) (storedH xs k b u) := by
  unfold putN storedH
  rw [pair_any h k]
  split
  · rename_i z
    clear z
    induction h with
    | nil => exact .nil
    | @cons p x ps xs r t ih =>
      refine .cons ?_ ih
      unfold putAt
      show PrN (if p.1 = k then (p.1, p.2.1, v) else p) (if x.1 = k then (x.1, x.2.1, u) else x)
      by_cases e : p.1 = k
      · rw [if_pos e, if_pos (r.1.trans e)]
        exact ⟨r.1, r.2.1, rv⟩
      · rw [if_neg e, if_neg fun q => e (r.1.symm.trans q)]
        exact r
  · exact Paired.snocP (show PrN (k, b, v) (k, b, u) from ⟨rfl, rfl, rv⟩) h
theorem mem_putN {kvs : List (NestedKey × Addr × V)} {k : NestedKey} {b : Addr} {v : V} {p : NestedKey × Addr × V} (h : p ∈ putN kvs k b v) : p.1 = k ∨ ∃ q ∈ kvs, q.1 = p.1 := by
  unfold putN at h
  split at h
  · obtain ⟨q, hq, rfl⟩ := List.mem_map.mp h
    split
    · exact .inr ⟨q, hq, rfl⟩
    · exact .inr ⟨q, hq, rfl⟩
  · rcases List.mem_append.mp h with h | h
    · exact .inr ⟨p, h, rfl⟩
    · simp only [List.mem_singleton] at h
      subst h
      exact .inl rfl
theorem putN_keys (kvs : List (NestedKey × Addr × V)) (k : NestedKey) (b : Addr) (v : V) : (putN kvs k b v).map (·.1) = if (kvs.any fun p => decide (p.1 = k)) = true then kvs.map (·.1) else kvs.map (·.1) ++ [k] := by
  unfold putN
  split
  · rw [List.map_map]
    apply List.map_congr_left
    intro p _
    simp only [Function.comp]
    split <;> rfl
  · simp
theorem putN_nodup {kvs : List (NestedKey × Addr × V)} {k : NestedKey} {b : Addr} {v : V} (h : (kvs.map (·.1)).Nodup) : ((putN kvs k b v).map (·.1)).Nodup := by
  rw [putN_keys]
  split
  · exact h
  · rename_i n
    rw [List.nodup_append]
    refine ⟨h, by simp, fun a ha c hc e => n ?_⟩
    simp only [List.mem_singleton] at hc
    obtain ⟨q, hq, rfl⟩ := List.mem_map.mp ha
    rw [List.any_eq_true]
    exact ⟨q, hq, decide_eq_true (e.trans hc)⟩
theorem putN_len (kvs : List (NestedKey × Addr × V)) (k : NestedKey) (b : Addr) (v : V) : (putN kvs k b v).length ≤ kvs.length + 1 := by
  unfold putN
  split <;> simp
theorem nk_src {kvs : List (NestedKey × Addr × V)} {ks : List D} (q : ks.map nkD = kvs.map fun p => some p.1) {p : NestedKey × Addr × V} (h : p ∈ kvs) : ∃ d, nkD d = some p.1 := by
  have : some p.1 ∈ ks.map nkD := by rw [q]; exact List.mem_map.mpr ⟨p, h, rfl⟩
  obtain ⟨d, _, e⟩ := List.mem_map.mp this
  exact ⟨d, e⟩
theorem pair_es {P : Program} {w w0 : World} {kvs : List (NestedKey × Addr × V)} {xs : List (NestedKey × Addr × Value)} (h : Paired PrN kvs xs) (n : ∀ p ∈ kvs, ∃ d, nkD d = some p.1) :
    Paired (fun (p : NestedKey × Addr × V) (e : DictEntry) => e.hash = p.1.hash w0 ∧ e.key = .ref p.2.1 ∧ RelV p.2.2 e.val) kvs (xs.map (entryOfKey (nestedKind P w))) := by
  induction h with
  | nil => exact .nil
  | @cons p x ps xs r t ih =>
    refine .cons ⟨?_, ?_, r.2.2⟩ (ih fun q hq => n q (List.mem_cons_of_mem _ hq))
    · obtain ⟨d, e⟩ := n p (List.mem_cons_self ..)
      show x.1.hash w = p.1.hash w0
      rw [r.1]
      exact nk_hash w w0 d _ e
    · show Value.ref x.2.1 = Value.ref p.2.1
      rw [r.2.1]
section
variable {X : Cx} {pins : List (Addr × Obj)} {σ : L2.St} {H H' : Hp} {s : Shared} {a : Addr} {y v d : V} {u r : Value} {A : Around} {E : Value → Shared → Prop}
/-- the new dict, held -/
theorem dn_new {h' : Heap} {w0 : World} {kvs : List (NestedKey × Addr × V)} {ks : List D} {xs : List (NestedKey × Addr × Value)} {kd : D} {k : NestedKey} {b : Addr} (l : kvs.length < sizeLine) (hs : (a == sysModules) = false) (nd : (kvs.map (·.1)).Nodup) (dp : ∀ p ∈ kvs, p.1.depth ≤ 8)
    (q : ks.map nkD = kvs.map fun p => some p.1) (e : nkD kd = some k) (dk : k.depth ≤ 8) (i1 : Paired PrN kvs xs) (rv : RelV v r) (dd : h'.DictOfH (nestedKind X.prog X.w) a (storedH xs k b r)) {H2 : Hp} : ObjOk X.prog X.w H2 h' a (dNo w0 a (putN kvs k b v)) := by
  obtain ⟨o, es, ep, hq, h2, h3, h4, _, h5⟩ := dd
  refine ⟨⟨?_, hs, putN_nodup nd, fun p hp => ?_, o, es, ep, hq, h2, h3, ?_⟩, ⟨o, hq⟩, fun h1 h2 ⟨x1, x2, x3, x4, o', es', ep', y1, y2⟩ ko => ⟨x1, x2, x3, x4, o', es', ep', ko o' y1, y2⟩⟩
  · have := putN_len kvs k b v; omega
  · rcases mem_putN hp with z | ⟨c, hc, z⟩
    · rw [z]; exact dk
    · rw [← z]; exact dp c hc
  · rw [h4]
    refine pair_es (pair_put i1 k b rv) fun p hp => ?_
    rcases mem_putN hp with z | ⟨c, hc, z⟩
    · exact ⟨kd, by rw [z]; exact e⟩
    · rw [← z]; exact nk_src q hc
theorem dx_setItem {Q : Unit → Shared → Prop} (hu : A.units + 9 < cLine) (I : Inv X pins σ H s) (g : DPutX X.K H a y v H') (ry : RelV y u) (rv : RelV v r) (h : ∀ s', Inv X pins σ H' s' → Q () s') :
    wpAny (model X.prog X.w) A (setItem (.ref a) u r) Q E s := by
  rcases g with g | ⟨g, w0, kvs, ks, kd, k, b, eH, ok, ea, hk, q, ay, e, dk, rfl, l, rfl⟩
  · exact d_setItem (by omega) I g ry rv h
  · subst eH
    obtain ⟨xs, i1, i2, i3, i4, nd, dp⟩ := dn_open I ok.sub ea hk q
    cases ry
    have hz : xs.length ≤ sizeLine := by rw [← Paired.length i1]; exact i3
    refine wpAny_setItem_heap (knd := nestedKind X.prog X.w) (hsz := hz) (show A.in1.units + 8 < cLine by show A.units + 1 + 8 < cLine; omega) ⟨At.nested I ok.sub ay e rfl, dk⟩ i2 fun h' dd' hs => h _ ?_
    have he : ∃ q, h'.get? a = some q := let ⟨q, _, _, hq, _⟩ := dd'; ⟨q, hq⟩
    exact d_write I (by rw [ea]; exact True.intro) hs he (dn_new l i4 nd dp q e dk i1 rv dd')
end
/-- d[k] = v -/
def sDPutX (K : PySem.W.Frag) (td ty tv : TE) : TS := fun D σ H => tv σ H fun v H1 => td σ H1 fun x H2 => ty σ H2 fun y H3 => ∃ a H4, x = .ref a ∧ DPutX K H3 a y v H4 ∧ D.nx σ H4
def sDAugX (K : PySem.W.Frag) (td ty tv : TE) (rd : V → V → Hp → VK → Prop) : TS := fun D σ H => td σ H fun x H1 => ty σ H1 fun y H2 => ∃ a v, x = .ref a ∧ DGetX K H2 a y (some v) ∧
  tv σ H2 fun y2 H3 => rd v y2 H3 fun z H4 => ∃ H5, DPutX K H4 a y z H5 ∧ D.nx σ H5
section
variable {X : Cx} {o i value : Expr} {pos pos' tpos : Pos} {td ty tv : TE}
theorem ps_dputX (hu : X.A.units + 9 < cLine) (ho : PE X o td) (hi : PE X i ty) (hv : PE X value tv) (hs : swapsWith value (some (.Subscript o i pos')) pos.line X.env = pure false) :
    PS X (.Assign [.Subscript o i pos'] value pos) (sDPutX X.K td ty tv) :=
  ⟨fun pins s σ H D I h => wpAny_Assign_Subscript (thn (hv.run pins s σ H _ I h) fun r s1 ⟨v, H1, I1, rv, q1⟩ => thn (ho.run pins s1 σ H1 _ I1 q1) fun u s2 ⟨x, H2, I2, rx, q2⟩ => thn (hi.run pins s2 σ H2 _ I2 q2) fun iv s3 ⟨y, H3, I3, ry, a, H4, ex, g, q3⟩ => by
    subst ex
    obtain rfl : u = Value.ref a := rx
    exact dx_setItem hu I3 g ry rv fun s4 I4 => ⟨σ, H4, I4, q3⟩) hs⟩
theorem ps_daugX {op : Operator} {rd : V → V → Hp → VK → Prop} (hu : X.A.units + 9 < cLine) (ho : PE X o td) (hi : PE X i ty) (hv : PE X value tv) (hop : InOp X op rd)
    (ha : ∀ ov iv new, augStore i ov iv new = (do holding [new, ov, iv] (setItem ov iv new); release [new, ov, iv] []; pure .next)) : PS X (.AugAssign (.Subscript o i tpos) op value pos) (sDAugX X.K td ty tv rd) :=
  ⟨fun pins s σ H D I h => wpAny_AugAssign_SubscriptAny (thn (ho.run pins s σ H _ I h) fun u s1 ⟨x, H1, I1, rx, q1⟩ => thn (hi.run pins s1 σ H1 _ I1 q1) fun iv s2 ⟨y, H2, I2, ry, a, v, ex, g, q2⟩ => by
    subst ex
    obtain rfl : u = Value.ref a := rx
    exact dx_getItem hu I2 g ry fun w' s3 I3 rw' => thn (hv.run pins s3 σ H2 _ I3 q2) fun w2 s4 ⟨y2, H3, I4, ry2, q3⟩ => thn (hop pins s4 σ H3 v y2 w' w2 _ I4 rw' ry2 q3) fun w3 s5 ⟨z, H4, I5, rz, H5, g5, q4⟩ =>
      dx_setItem hu I5 g5 ry rz fun s6 I6 => ⟨σ, H5, I6, q4⟩) ha⟩
end
end DL
/-! DStm5 -/
namespace DL
open PySem PySem.Spec PyProof.Rows L2
theorem upd_at {α κ β : Type} [DecidableEq κ] (key : α → κ) (val : α → β) (g : α → α) (v : β) (hg : ∀ x, val (g x) = v) (k : κ) : ∀ (l : List α), (l.map key).Nodup → ∀ j, l.findIdx? (fun x => decide (key x = k)) = some j → (l.map fun x => if key x = k then g x else x).map val = (l.map val).set j v
  | [], _, _, h => by simp at h
  | x :: l, nd, j, h => by
    rw [List.findIdx?_cons] at h
    rw [List.map_cons, List.nodup_cons] at nd
    by_cases e : key x = k
    · rw [decide_eq_true e] at h
      simp only [if_true, Option.some.injEq] at h
      subst h
      have rest : (l.map fun x => if key x = k then g x else x) = l := by
        conv => rhs; rw [← List.map_id l]
        apply List.map_congr_left
        intro z hz
        rw [if_neg fun q => nd.1 (by rw [e, ← q]; exact List.mem_map.mpr ⟨z, hz, rfl⟩)]
        rfl
      rw [List.map_cons, List.map_cons, if_pos e, rest, hg, List.map_cons, List.set_cons_zero]
    · rw [decide_eq_false e] at h
      simp only [Bool.false_eq_true, if_false, Option.map_eq_some_iff] at h
      obtain ⟨i, h, rfl⟩ := h
      rw [List.map_cons, List.map_cons, if_neg e, upd_at key val g v hg k l nd.2 i h, List.map_cons, List.set_cons_succ]
def putKs (ks : List D) (a : D) : List D := match posD ks a with
  | some _ => ks
  | none => ks ++ [a]
def putVs {α : Type} (ks : List D) (os : List α) (a : D) (o : α) : List α := match posD ks a with
  | some j => os.set j o
  | none => os ++ [o]
theorem putK_sides {kvs : List (Key × V)} {k : Key} {v : V} (nd : (kvs.map (·.1)).Nodup) : ((putK kvs k v).map fun p => kD p.1) = putKs (kvs.map fun p => kD p.1) (kD k) ∧ (putK kvs k v).map (·.2) = putVs (kvs.map fun p => kD p.1) (kvs.map (·.2)) (kD k) v ∧ ((putK kvs k v).map (·.1)).Nodup := by
  unfold putKs putVs putK
  rw [posD_K kvs (·.1) k]
  have an : (kvs.any fun kv => decide (kv.1 = k)) = (kvs.findIdx? fun kv => decide (kv.1 = k)).isSome := (List.findIdx?_isSome).symm
  rw [an]
  cases e : kvs.findIdx? fun kv => decide (kv.1 = k) with
  | some j =>
    simp only [Option.isSome_some, if_true]
    have keys : (kvs.map fun kv => if kv.1 = k then (kv.1, v) else kv).map (·.1) = kvs.map (·.1) := by
      rw [List.map_map]
      apply List.map_congr_left
      intro p _
      simp only [Function.comp]
      split <;> rfl
    refine ⟨?_, upd_at (·.1) (·.2) (fun kv => (kv.1, v)) v (fun _ => rfl) k kvs nd j e, by rw [keys]; exact nd⟩
    show List.map (kD ∘ fun p : Key × V => p.1) _ = List.map (kD ∘ fun p : Key × V => p.1) _
    rw [← List.map_map, ← List.map_map, keys]
  | none =>
    simp only [Option.isSome_none, Bool.false_eq_true, if_false, List.map_append, List.map_cons, List.map_nil]
    refine ⟨trivial, trivial, ?_⟩
    rw [List.nodup_append]
    refine ⟨nd, by simp, fun a ha c hc q => ?_⟩
    simp only [List.mem_singleton] at hc
    obtain ⟨p, hp, rfl⟩ := List.mem_map.mp ha
    have := List.findIdx?_eq_none_iff.mp e p hp
    exact (of_decide_eq_false this) (q.trans hc)
theorem putN_sides {kvs : List (NestedKey × Addr × V)} {k : NestedKey} {b : Addr} {v : V} {ks : List D} {kd : D} (nd : (kvs.map (·.1)).Nodup) (q : ks.map nkD = kvs.map fun p => some p.1) (e : nkD kd = some k) {K : PySem.W.Frag} {Z : Zs} {F : Hp} (hk : Ats K Z F (kvs.map fun p => .ref p.2.1) ks) (ay : At K Z F (.ref b) kd) :
    Ats K Z F ((putN kvs k b v).map fun p => .ref p.2.1) (putKs ks kd) ∧ ((putKs ks kd).map nkD = (putN kvs k b v).map fun p => some p.1) ∧ (putN kvs k b v).map (·.2.2) = putVs ks (kvs.map (·.2.2)) kd v := by
  unfold putKs putVs putN
  rw [posD_N (f := fun p : NestedKey × Addr × V => p.1) e q]
  have an : (kvs.any fun kv => decide (kv.1 = k)) = (kvs.findIdx? fun kv => decide (kv.1 = k)).isSome := (List.findIdx?_isSome).symm
  rw [an]
  cases ef : kvs.findIdx? fun kv => decide (kv.1 = k) with
  | some j =>
    simp only [Option.isSome_some, if_true]
    have same : ∀ {β : Type} (f : NestedKey × Addr × V → β), (∀ p : NestedKey × Addr × V, f (p.1, p.2.1, v) = f p) → (kvs.map fun p => if p.1 = k then (p.1, p.2.1, v) else p).map f = kvs.map f := fun f hf => by
      rw [List.map_map]
      apply List.map_congr_left
      intro p _
      simp only [Function.comp]
      split
      · exact hf p
      · rfl
    refine ⟨?_, ?_, upd_at (·.1) (·.2.2) (fun p => (p.1, p.2.1, v)) v (fun _ => rfl) k kvs nd j ef⟩
    · rw [same _ fun _ => rfl]; exact hk
    · rw [same _ fun _ => rfl]; exact q
  | none =>
    simp only [Option.isSome_none, Bool.false_eq_true, if_false, List.map_append, List.map_cons, List.map_nil]
    exact ⟨hk.append (.one ay), by rw [q, e], trivial⟩
section
variable {X : Cx} {W : WX} {K : PySem.W.Frag} {g0 g : Gh} {env : SEnv} {σ : L2.St} {vs : List V} {os : List O} {cs : Option Nat → List Addr} {i : Nat} {x : Str} {e ek : Expr} {we wk : WE} {pos p tp : Pos}
theorem ROs.putVs {Z : Zs} {F H : Hp} {us : List V} {os : List O} {c0 d : List Addr} {v : V} {o : O} (r : ROs K Z F H us os c0) (rv : RO K Z F H v o d) (ks : List D) (a : D) (hl : ks.length = os.length) : ∃ c', ROs K Z F H (putVs ks us a v) (putVs ks os a o) c' ∧ ∀ c, c'.count c ≤ c0.count c + d.count c := by
  unfold DL.putVs
  cases ep : posD ks a with
  | some j =>
    have hj : j < os.length := by
      rw [← hl]
      unfold posD at ep
      exact (List.findIdx?_eq_some_iff_getElem.mp ep).1
    exact ROs.set rv j r hj
  | none => exact ⟨c0 ++ (d ++ []), r.append (.cons rv .nil), fun c => by simp⟩
/-- the heap behind the dict's store -/
def PutsTo (K : PySem.W.Frag) (g : Gh) (a : Addr) (t : Bool) (ks : List D) (us : List V) (kd : D) (y v : V) (H' : Hp) : Prop :=
  (∃ (kvs : List (Key × V)) (k : Key), t = false ∧ g.H a = some (.dK kvs) ∧ (kvs.map (·.1)).Nodup ∧ ks = (kvs.map fun p => kD p.1) ∧ us = kvs.map (·.2) ∧ kd = kD k ∧ H' = upd g.H a (.dK (putK kvs k v))) ∨
  ∃ (w0 : World) (kvs : List (NestedKey × Addr × V)) (k : NestedKey) (b : Addr), t = true ∧ g.H a = some (dNo w0 a kvs) ∧ (kvs.map (·.1)).Nodup ∧ Ats K g.Z g.F (kvs.map fun p => .ref p.2.1) ks ∧ (ks.map nkD = kvs.map fun p => some p.1) ∧ us = kvs.map (·.2.2) ∧ nkD kd = some k ∧ y = .ref b ∧ H' = upd g.H a (dNo w0 a (putN kvs k b v))
theorem puts_ex {l : Addr} {t : Bool} {ks : List D} {ps : List O} {us : List V} {y : V} {kd : D} (v : V) (ok : g.Ok) (co : CellOf K g.Z g.F g.H l (.dct t ks ps) us) (ay : At K g.Z g.F y kd) (kt : keyT t kd = true) (hz : ks.length < sizeLine) : ∃ H', PutsTo K g l t ks us kd y v H' ∧ DPutX K g.H l y v H' := by
  generalize hoo : O.dct t ks ps = oo at co
  cases co with
  | lst _ => cases hoo
  | @dctK kvs ps2 hH nd =>
    simp only [O.dct.injEq] at hoo
    obtain ⟨rfl, rfl, rfl⟩ := hoo
    obtain ⟨k, rfl⟩ := keyT_f kt
    exact ⟨_, .inl ⟨kvs, k, rfl, hH, nd, rfl, rfl, rfl, rfl⟩, .inl (.inl ⟨kvs, k, hH, ay.key, by simpa using hz, rfl⟩)⟩
  | @dctT w0 kvs ks2 ps2 hH nd hk q =>
    simp only [O.dct.injEq] at hoo
    obtain ⟨rfl, rfl, rfl⟩ := hoo
    obtain ⟨xs, k, rfl, ek, dk⟩ := keyT_t kt
    obtain ⟨b, _, _, rfl, _⟩ := ay.tup_inv'
    have lks : ks.length = kvs.length := by have := congrArg List.length q; simpa using this
    exact ⟨_, .inr ⟨w0, kvs, k, b, rfl, hH, nd, hk, q, rfl, ek, rfl, rfl⟩, .inr ⟨g, w0, kvs, ks, _, k, b, rfl, ok, hH, hk, q, ay, ek, dk, rfl, by omega, rfl⟩⟩
/-- the dict in slot i gets o at the key: what its cell is then -/
theorem SS'.dputTo (h : SS' K g0 g env σ vs os cs) {t : Bool} {ks : List D} {ps : List O} {y v : V} {kd : D} {o : O} {d ct : List Addr} {vs' : List V} {os' : List O} {l : Addr} {us : List V} {c0 : List Addr} {H' : Hp} (e : env[i]? = some (some (.dct t ks ps))) (hl : σ[i]? = some (some (.ref l))) (hc : cs (some i) = l :: c0) (rs : ROs K g.Z g.F g.H us ps c0) (pt : PutsTo K g l t ks us kd y v H')
    (ay : At K g.Z g.F y kd) (rv : RO K g.Z g.F g.H v o d)
    (r2 : ROs K g.Z g.F g.H vs' os' ct) (hd : ∀ c ∈ d, c ∈ cs none) (hct : ∀ c ∈ ct, c ∈ cs none) (cnt : ∀ c, d.count c + ct.count c ≤ (cs none).count c) :
    SS K g0 ⟨g.Z, g.F, H'⟩ (env.set i (some (.dct t (putKs ks kd) (putVs ks ps kd o)))) σ vs' os' := by
  have ln : l ∉ cs none := fun m => by
    have := h.dj (some i) none l (by rw [hc]; simp) m
    cases this
  have nd0 := h.nd (some i)
  rw [hc] at nd0
  have ln0 := (List.nodup_cons.mp nd0).1
  have kp : ∀ (u' : HO) c, c ≠ l → ∀ w, g.H c = some w → upd g.H l u' c = some w := fun u' c n w q => by rw [upd_ne n]; exact q
  have fin : ∀ (u' : HO) (c1 : List Addr), isCellO u' = true → (∀ c, c1.count c ≤ c0.count c + d.count c) → RO K g.Z g.F (upd g.H l u') (.ref l) (.dct t (putKs ks kd) (DL.putVs ks ps kd o)) (l :: c1) → SS K g0 ⟨g.Z, g.F, upd g.H l u'⟩ (env.set i (some (.dct t (putKs ks kd) (DL.putVs ks ps kd o)))) σ vs' os' := fun u' c1 hu hcn r => by
    refine h.putC e hl (by rw [hc]; simp) hu r (r2.mono (Sub.refl _) (fun _ z => z) fun c m w q => kp u' c (fun z => ln (by rw [← z]; exact hct c m)) w q) fun c => ?_
    have := hcn c
    have := cnt c
    rw [hc, List.count_cons, List.count_cons]
    omega
  have lift : ∀ (u' : HO) (us' : List V) (ps' : List O) (c1 : List Addr), (∀ c, c1.count c ≤ c0.count c + d.count c) → ROs K g.Z g.F g.H us' ps' c1 → ROs K g.Z g.F (upd g.H l u') us' ps' c1 := fun u' us' ps' c1 hcn r =>
    r.mono (Sub.refl _) (fun _ z => z) fun c m w q => kp u' c (fun z => by
      have h1 := List.count_pos_iff.mpr m
      have h2 := hcn c
      by_cases a : c ∈ c0
      · exact ln0 (by rw [← z]; exact a)
      · have := List.count_eq_zero.mpr a
        have h3 : 0 < d.count c := by omega
        exact ln (by rw [← z]; exact hd c (List.count_pos_iff.mp h3))) w q
  rcases pt with ⟨kvs, k, rfl, hH, nd, rfl, rfl, rfl, rfl⟩ | ⟨w0, kvs, k, b, rfl, hH, nd, hk, q, rfl, ek, rfl, rfl⟩
  · obtain ⟨s1, s2, s3⟩ := putK_sides (k := k) (v := v) nd
    obtain ⟨c1, r1, hcn⟩ := rs.putVs rv (kvs.map fun p => kD p.1) (kD k) (by have := rs.length; simp at this ⊢; exact this)
    refine fin _ c1 rfl hcn ?_
    rw [← s1]
    refine .dctK upd_same s3 ?_
    rw [s2]
    exact lift _ _ _ _ hcn r1
  · obtain ⟨s1, s2, s3⟩ := putN_sides (b := b) (v := v) nd q ek hk ay
    have lks : ks.length = kvs.length := by have := congrArg List.length q; simpa using this
    obtain ⟨c1, r1, hcn⟩ := rs.putVs rv ks kd (by have := rs.length; simp at this ⊢; omega)
    refine fin _ c1 rfl hcn ?_
    refine .dctT upd_same (putN_nodup nd) s1 s2 ?_
    rw [s3]
    exact lift _ _ _ _ hcn r1
theorem SS'.dput (h : SS' K g0 g env σ vs os cs) {t : Bool} {ks : List D} {ps : List O} {y v : V} {kd : D} {o : O} {d ct : List Addr} {vs' : List V} {os' : List O} (e : env[i]? = some (some (.dct t ks ps))) (ay : At K g.Z g.F y kd) (kt : keyT t kd = true) (hz : ks.length < sizeLine) (rv : RO K g.Z g.F g.H v o d)
    (r2 : ROs K g.Z g.F g.H vs' os' ct) (hd : ∀ c ∈ d, c ∈ cs none) (hct : ∀ c ∈ ct, c ∈ cs none) (cnt : ∀ c, d.count c + ct.count c ≤ (cs none).count c) :
    ∃ l H', σ[i]? = some (some (.ref l)) ∧ DPutX K g.H l y v H' ∧ SS K g0 ⟨g.Z, g.F, H'⟩ (env.set i (some (.dct t (putKs ks kd) (putVs ks ps kd o)))) σ vs' os' := by
  obtain ⟨l, us, c0, hl, hc, co, rs⟩ := h.ownO e rfl
  obtain ⟨H', pt, dp⟩ := puts_ex v h.st.ok co ay kt hz
  exact ⟨l, H', hl, dp, h.dputTo e hl hc rs pt ay rv r2 hd hct cnt⟩
def dctD (o : Option (Option O)) (Q : Bool → List D → List O → Prop) : Prop := match o with
  | some (some (.dct t ks os)) => Q t ks os
  | _ => False
theorem dctD_inv {o : Option (Option O)} {Q : Bool → List D → List O → Prop} (h : dctD o Q) : ∃ t ks os, o = some (some (.dct t ks os)) ∧ Q t ks os := by
  unfold dctD at h
  split at h
  · exact ⟨_, _, _, rfl, h⟩
  · exact h.elim
/-- d[k] = v, d own -/
def sDput (i : Nat) (wk wv : WE) : WS := fun env D E => dctD env[i]? fun t ks os => evC wv env (fun o => evC wk env (fun k => keyT t k.d = true ∧ ks.length < sizeLine ∧ D.nx (env.set i (some (.dct t (putKs ks k.d) (putVs ks os k.d o))))) E) E
theorem keyT_noLst {t : Bool} {d : D} (h : keyT t d = true) : noLst d = true := by
  cases t with
  | false => obtain ⟨k, rfl⟩ := keyT_f h; cases k <;> simp [kD]
  | true => obtain ⟨xs, k, rfl, e, _⟩ := keyT_t h; exact nk_noLst _ _ e
theorem ds_dput (hu : X.A.units + 9 < cLine) (he : DE X W e we) (hk : DE X W ek wk) (hN : X.N[i]? = some x := by rfl) (hv : Vis X.env.scope x := by first | exact Or.inl rfl | exact Or.inr (Or.inl rfl) | exact Or.inr (Or.inr rfl)) (hd : (x == ("__debug__" : Str)) = false := by decide) (hcd : (x == ("__classdict__" : Str)) = false := by decide)
    (hs : swapsWith e (some (.Subscript (.Name x p) ek tp)) pos.line X.env = pure false := by rfl) : DS X W (.Assign [.Subscript (.Name x p) ek tp] e pos) (sDput i wk we) :=
  ps_imp (ps_dputX hu (pe_var hN hv hd hcd) hk he hs) fun Dn σ H ⟨g0, g, env, De, Ee, eH, h, hw, k⟩ => by
  subst eH
  obtain ⟨t, ks, ps, e1, hw⟩ := dctD_inv hw
  refine h.goC hw (fun v o g1 h1 q => ?_) k.ex
  have hl : ∃ l, σ[i]? = some (some (.ref l)) := by
    obtain ⟨cs, h⟩ := h1
    obtain ⟨l, us, c0, q1, _⟩ := h.ownO e1 rfl
    exact ⟨l, q1⟩
  obtain ⟨l, hl⟩ := hl
  refine ⟨.ref l, hl, h1.goC q (fun y ok g2 h2 q => ?_) k.ex⟩
  obtain ⟨kt, hz, q⟩ := q
  obtain ⟨cs, h2⟩ := h2
  have ht := h2.tmp
  generalize hcn : cs none = cn at ht
  cases ht with
  | cons ry t2 =>
    rename_i c1 c2
    obtain ⟨v', ev, rv⟩ := t2.one_inv
    obtain rfl : v = v' := by simpa using ev
    obtain ⟨l', H', hl', dp, hS⟩ := h2.dput (vs' := []) (os' := []) (ct := []) e1 (ry.nolst (keyT_noLst kt)) kt hz rv .nil (fun c m => by rw [hcn]; simp [m]) (fun c m => by simp at m) (fun c => by rw [hcn]; simp)
    rw [hl] at hl'
    obtain rfl : l = l' := by simpa using hl'
    exact ⟨l, H', rfl, dp, k.nx _ _ _ hS q⟩
/-- d[k] op= v, d own, the value an int -/
def sDaug (i : Nat) (f : D → D → PQ) (wk wv : WE) : WS := fun env D E => dctD env[i]? fun t ks os => evC wk env (fun k => keyT t k.d = true ∧ ks.length < sizeLine ∧ ∃ m, ((posD ks k.d).bind fun j => os[j]?) = some (.val (.int m)) ∧
  evC wv env (fun o => f (.int m) o.d fun z => ∃ z', z = .val z' ∧ noLst z' = true ∧ D.nx (env.set i (some (.dct t (putKs ks k.d) (putVs ks os k.d (.val z')))))) E) E
end
end DL
/-! DStm6 -/
namespace DL
open PySem PySem.Spec PyProof.Rows L2
section
variable {X : Cx} {W : WX} {K : PySem.W.Frag} {g0 g : Gh} {env : SEnv} {σ : L2.St} {vs : List V} {os : List O} {cs : Option Nat → List Addr} {i : Nat} {x : Str} {e ek : Expr} {we wk : WE} {pos p tp : Pos}
/-- the own dict is read -/
theorem own_dget {l : Addr} {t : Bool} {ks : List D} {ps : List O} {us : List V} {c0 : List Addr} {y : V} {kd : D} {j : Nat} {q : O} (ok : g.Ok) (c : CellOf K g.Z g.F g.H l (.dct t ks ps) us) (r : ROs K g.Z g.F g.H us ps c0) (kt : keyT t kd = true) (ay : At K g.Z g.F y kd) (ej : posD ks kd = some j) (ek : ps[j]? = some q) :
    ∃ w, us[j]? = some w ∧ DGetX K g.H l y (some w) := by
  have hl : j < us.length := by rw [r.length]; exact (List.getElem?_eq_some_iff.mp ek).1
  refine ⟨us[j], List.getElem?_eq_getElem hl, ?_⟩
  generalize hoo : O.dct t ks ps = oo at c
  cases c with
  | lst _ => cases hoo
  | @dctK kvs ps2 h nd =>
    simp only [O.dct.injEq] at hoo
    obtain ⟨rfl, rfl, rfl⟩ := hoo
    obtain ⟨k, rfl⟩ := keyT_f kt
    refine .inl (.inl ⟨kvs, k, .inl h, ay.key, ?_⟩)
    rw [posD_K kvs (·.1) k] at ej
    have := find_idx (fun kv : Key × V => decide (kv.1 = k)) (·.2) kvs
    rw [ej] at this
    show _ = (kvs.find? fun kv => decide (kv.1 = k)).map (·.2)
    rw [this]
    exact (List.getElem?_eq_getElem hl).symm
  | @dctT w0 kvs ks2 ps2 h nd hk q' =>
    simp only [O.dct.injEq] at hoo
    obtain ⟨rfl, rfl, rfl⟩ := hoo
    obtain ⟨xs, k, rfl, e, dk⟩ := keyT_t kt
    obtain ⟨b, _, _, rfl, _⟩ := ay.tup_inv'
    refine .inr ⟨g, w0, kvs, ks, _, k, b, rfl, ok, h, hk, q', ay, e, dk, rfl, ?_⟩
    rw [posD_N (f := fun p : NestedKey × Addr × V => p.1) e q'] at ej
    have := find_idx (fun p : NestedKey × Addr × V => decide (p.1 = k)) (·.2.2) kvs
    rw [ej] at this
    rw [this]
    exact (List.getElem?_eq_getElem hl).symm
theorem ds_daug {op : Operator} {r : R2} {f : D → D → PQ} (hu : X.A.units + 9 < cLine) (ho : OpR X (inplaceOp op) r) (hf : OpD X.K r f) (hk : DE X W ek wk) (he : DE X W e we) (hN : X.N[i]? = some x := by rfl) (hv : Vis X.env.scope x := by first | exact Or.inl rfl | exact Or.inr (Or.inl rfl) | exact Or.inr (Or.inr rfl)) (hd : (x == ("__debug__" : Str)) = false := by decide) (hcd : (x == ("__classdict__" : Str)) = false := by decide)
    (ha : ∀ ov iv new, augStore ek ov iv new = (do holding [new, ov, iv] (setItem ov iv new); release [new, ov, iv] []; pure .next) := by intros; rfl) :
    DS X W (.AugAssign (.Subscript (.Name x p) ek tp) op e pos) (sDaug i f wk we) :=
  ps_imp (ps_daugX (rd := r) hu (pe_var hN hv hd hcd) hk he (fun pins s σ H x y v u Q I rx ry h => ho pins s σ H x y v u Q I rx ry h) ha) fun Dn σ H ⟨g0, g, env, De, Ee, eH, h, hw, k⟩ => by
  subst eH
  obtain ⟨t, ks, ps, e1, hw⟩ := dctD_inv hw
  have hl : ∃ l, σ[i]? = some (some (.ref l)) := by
    obtain ⟨cs, h⟩ := h
    obtain ⟨l, us, c0, q1, _⟩ := h.ownO e1 rfl
    exact ⟨l, q1⟩
  obtain ⟨l, hl⟩ := hl
  refine ⟨.ref l, hl, h.goC hw (fun y ok g1 h1 q => ?_) k.ex⟩
  obtain ⟨kt, hz, m, em, q⟩ := q
  obtain ⟨cs1, h1⟩ := h1
  obtain ⟨l', us, c0, q1, q2, q3, q4⟩ := h1.ownO e1 rfl
  rw [hl] at q1
  obtain rfl : l = l' := by simpa using q1
  obtain ⟨y', ey, ry⟩ := h1.tmp.one_inv
  obtain rfl : y = y' := by simpa using ey
  obtain ⟨j, ej, em⟩ := Option.bind_eq_some_iff.mp em
  obtain ⟨w, ew, dg⟩ := own_dget h1.st.ok q3 q4 kt (ry.nolst (keyT_noLst kt)) ej em
  obtain ⟨w', ew', aw⟩ := q4.getV em
  rw [ew] at ew'
  obtain rfl := Option.some.inj ew'
  rw [aw.int_inv] at dg
  refine ⟨l, .int m, rfl, dg, h1.goK q (fun z o g2 cs2 h2 _ up zs kp q => ?_) k.ex⟩
  have ht2 := h2.tmp
  have upz := thaw_up (H := g2.H) h2.fz
  have rz : ∃ c, RO X.K g2.Z g2.F g2.H z o c ∧ ∀ x ∈ c, x ∈ cs2 none := by
    generalize hcn : cs2 none = cn at ht2
    cases ht2 with
    | cons rz t => exact ⟨_, rz, fun x m => by simp [m]⟩
  obtain ⟨cz, rz, hcz⟩ := rz
  refine hf ⟨g2.Z, thaw g2.F g2.H (cells cs2), g2.H⟩ (.int m) z (.int m) o.d _ _ (h2.st.ok.thaw h2.nz) (.int m) (rz.at_ upz fun c m => thaw_in ⟨_, hcz c m⟩) q fun v3 o3 g3 s3 r3 qz => ?_
  obtain ⟨ez, rfl, nl, hn⟩ := qz
  obtain ⟨cs3, h3⟩ := h2.resC s3 r3 (by simpa using nl)
  have ht := h3.tmp
  generalize hcn : cs3 none = cn at ht
  cases ht with
  | cons rv t =>
    rename_i c1 c2
    cases t with
    | cons rz3 t =>
      rename_i c3 c4
      obtain ⟨y', ey, ry3⟩ := t.one_inv
      obtain rfl : y = y' := by simpa using ey
      obtain ⟨l', H', hl', dp, hS⟩ := h3.dput (vs' := []) (os' := []) (ct := []) e1 (ry3.nolst (keyT_noLst kt)) kt hz rv .nil (fun c m => by rw [hcn]; simp [m]) (fun c m => by simp at m) (fun c => by rw [hcn]; simp [List.count_append])
      rw [hl] at hl'
      obtain rfl : l = l' := by simpa using hl'
      exact ⟨H', dp, k.nx _ _ _ hS hn⟩
theorem dx_isD {pins : List (Addr × Obj)} {H : Hp} {s : Shared} {v : V} {u : Value} {t : Bool} {ks ds : List D} (I : Inv X pins σ H s) (eH : g.H = H) (ok : g.Ok) (h : At X.K g.Z g.F v (.dct t ks ds)) (r : RelV v u) : s.TypeIs u "dict" ∧ ∀ b, u = .ref b → ∃ ob, s.heap.get? b = some ob ∧ ob.dict = none := by
  subst eH
  cases h with
  | dctK h hs =>
    cases r
    obtain ⟨t1, t2, _⟩ := isD_at I (.inl ⟨_, ok.sub.rd h⟩)
    exact ⟨t1, t2⟩
  | dctT h hk q hs =>
    cases r
    obtain ⟨_, _, _, _, o, es, ep, h1, h2, _⟩ := (show ObjOk X.prog X.w g.H s.heap _ (dNo _ _ _) from I.hok _ _ (ok.sub _ _ h)).1
    exact ⟨⟨o, h1, h2.1⟩, fun b q => by cases q; exact ⟨o, h1, h2.2.1⟩⟩
theorem dx_get1 {pins : List (Addr × Obj)} {H : Hp} {s : Shared} {a : Addr} {y : V} {u : Value} {o : Option V} {Q : Value → Shared → Prop} (hu : X.A.units + 9 < cLine) (I : Inv X pins σ H s) (gg : DGetX X.K H a y o) (ry : RelV y u) (h : ∀ w' s', Inv X pins σ H s' → RelV (o.getD .non) w' → Q w' s') :
    wpAny (model X.prog X.w) X.A (call (.builtin "dict.get") [.ref a, u]) Q X.xe s := by
  rcases gg with gg | gg
  · exact d_get1 (by omega) I gg ry h
  · obtain ⟨b, xs, k, rfl, dd, hs, hk, ro⟩ := DGetN.open I gg ry
    exact call_meetsIn PySem.F.slot_dict_get dd.typeIs PySem.F.entry_dict_get (PySem.F.args_dict_get_2 _ _) (meetsH_dict_get (nestedKind X.prog X.w) a b hs) ⟨show X.A.units + 1 + 8 < cLine by omega, k, xs, hk, dd, h _ _ (I.tok _) (ro.getD rfl)⟩
theorem dx_get2 {pins : List (Addr × Obj)} {H : Hp} {s : Shared} {a : Addr} {y d : V} {u r : Value} {o : Option V} {Q : Value → Shared → Prop} (hu : X.A.units + 9 < cLine) (I : Inv X pins σ H s) (gg : DGetX X.K H a y o) (ry : RelV y u) (rd : RelV d r) (h : ∀ w' s', Inv X pins σ H s' → RelV (o.getD d) w' → Q w' s') :
    wpAny (model X.prog X.w) X.A (call (.builtin "dict.get") [.ref a, u, r]) Q X.xe s := by
  rcases gg with gg | gg
  · exact d_get2 (by omega) I gg ry rd h
  · obtain ⟨b, xs, k, rfl, dd, hs, hk, ro⟩ := DGetN.open I gg ry
    exact call_meetsIn PySem.F.slot_dict_get dd.typeIs PySem.F.entry_dict_get (PySem.F.args_dict_get_3 _ _ _) (meetsH_dict_get_default (nestedKind X.prog X.w) a b hs r) ⟨show X.A.units + 1 + 8 < cLine by omega, k, xs, hk, dd, h _ _ (I.tok _) (ro.getD rd)⟩
end
def dctQ (d : D) (Q : Bool → List D → List D → Prop) : Prop := match d with
  | .dct t ks vs => Q t ks vs
  | _ => False
theorem dctQ_inv {d : D} {Q : Bool → List D → List D → Prop} (h : dctQ d Q) : ∃ t ks vs, d = .dct t ks vs ∧ Q t ks vs := by
  unfold dctQ at h
  split at h
  · exact ⟨_, _, _, rfl, h⟩
  · exact h.elim
@[simp] theorem dctQ_dct {t : Bool} {ks vs : List D} {Q : Bool → List D → List D → Prop} : dctQ (.dct t ks vs) Q = Q t ks vs := rfl
def lookD (ks vs : List D) (k d : D) : D := ((posD ks k).bind fun j => vs[j]?).getD d
def eGet1 (wo wk : WE) : WE := fun env Q E => wo env (fun o => dctQ o.d fun t ks vs => wk env (fun k => keyT t k.d = true ∧ Q (.val (lookD ks vs k.d .non))) E) E
def eGet2 (wo wk wx : WE) : WE := fun env Q E => wo env (fun o => dctQ o.d fun t ks vs => wk env (fun k => wx env (fun x => keyT t k.d = true ∧ Q (.val (lookD ks vs k.d x.d))) E) E) E
@[simp] theorem eGet1_v {wo wk : WE} {env : DEnv} {Q : O → Prop} {E : EX} : eGet1 wo wk env Q E = wo env (fun o => dctQ o.d fun t ks vs => wk env (fun k => keyT t k.d = true ∧ Q (.val (lookD ks vs k.d .non))) E) E := rfl
@[simp] theorem eGet2_v {wo wk wx : WE} {env : DEnv} {Q : O → Prop} {E : EX} : eGet2 wo wk wx env Q E = wo env (fun o => dctQ o.d fun t ks vs => wk env (fun k => wx env (fun x => keyT t k.d = true ∧ Q (.val (lookD ks vs k.d x.d))) E) E) E := rfl
section
variable {X : Cx} {W : WX} {wo wk wx : WE} {o e f : Expr} {apos cpos : Pos}
theorem look_at {K : PySem.W.Frag} {Z : Zs} {F : Hp} {us : List V} {vs : List D} {ks : List D} {k d : D} {v : V} (h : Ats K Z F us vs) (hd : At K Z F v d) : At K Z F (((posD ks k).bind fun j => us[j]?).getD v) (lookD ks vs k d) := by
  unfold lookD
  cases e : posD ks k with
  | none => exact hd
  | some j =>
    show At K Z F ((us[j]?).getD v) ((vs[j]?).getD d)
    cases e2 : vs[j]? with
    | none =>
      have : us[j]? = none := by
        rw [List.getElem?_eq_none_iff] at e2 ⊢
        rw [h.length]; exact e2
      rw [this]
      exact hd
    | some z =>
      obtain ⟨w, hw, aw⟩ := h.get e2
      rw [hw]
      exact aw
theorem de_get1 (hu : X.A.units + 9 < cLine) (ho : DE X W o wo) (hk : DE X W e wk)
    (hbase : attributeBase o "get" X.env (eval o X.env) = eval o X.env := by rfl)
    (hfew : ((backTo cpos (starEach [e] X.env)).all (fun x => !x.1) && (backToKw cpos (keywordEach [] X.env)).all (fun x => x.1.isSome) && decide ([e].length + ([] : List Keyword).length + (if ([] : List Keyword).isEmpty then 0 else 1) < 30)) = true := by rfl)
    (hline : (apos.endLine == cpos.line) = true := by rfl) (hs : starEach [e] X.env = (false, eval e X.env) :: starEach [] X.env := by rfl) (hpl : (backTo cpos (starEach [] X.env)).any (·.1) = false := by rfl) :
    DE X W (.Call (.Attribute o "get" apos) [e] [] cpos) (eGet1 wo wk) := by
  refine ⟨fun pins s σ H Q I ⟨g, env, Qd, Ed, eH, es, hw, k, kx⟩ => ?_⟩
  subst eH
  refine wpAny_Call_method_late hbase hfew hline rfl (thn (ho.run pins s σ g.H (fun x H1 => ∃ g1 t ks ds, g1.H = H1 ∧ Step g g1 ∧ At X.K g1.Z g1.F x (.dct t ks ds) ∧ wk env (fun k => keyT t k.d = true ∧ Qd (.val (lookD ks ds k.d .non))) Ed) I
    (LE.go (R := fun d => dctQ d fun t ks vs => wk env (fun k => keyT t k.d = true ∧ Qd (.val (lookD ks vs k.d .non))) Ed) es hw (fun x d g1 s1 a1 h1 => by
      obtain ⟨t, ks, ds, rfl, h1⟩ := dctQ_inv h1
      exact ⟨g1, t, ks, ds, rfl, s1, a1, h1⟩) kx)) fun v s1 ⟨x, H1, I1, rx, g1, t, ks, ds, eH1, st, a1, h1⟩ => ?_)
  obtain ⟨t1, t2⟩ := dx_isD I1 eH1 st.ok a1 rx
  subst eH1
  refine ⟨"dict", "dict.get", PySem.F.plainAttrs_dict, PySem.F.slot_dict_get, PySem.F.type_dict_get, t1, t2, ?_⟩
  have hA := (pa_cons hk pa_nil hs).run cpos pins s1 σ g1.H (fun vs H2 => ∃ a y o, x = .ref a ∧ vs = [y] ∧ DGetX X.K H2 a y o ∧ Q (o.getD .non) H2) I1
    (LE.go (R := fun b => keyT t b = true ∧ Qd (.val (lookD ks ds b .non))) (es.step st) h1 (fun w b g2 s2 a2 h2 => by
      obtain ⟨kt, q⟩ := h2
      have a1' := a1.mono s2.up s2.zs
      obtain ⟨a, us, ev, as, gt⟩ := DGetX.of s2.ok a1' a2 kt
      exact ⟨a, w, _, ev, rfl, gt, QL.on (QL.on k st) s2 _ _ g2 s2.ok.refl (.val (look_at as .non)) q⟩) (XL.on kx st))
  rw [hs] at hA ⊢
  refine Calls.callWith_builtin (by show (false || (backTo cpos (starEach [] X.env)).any (·.1)) = false; rw [hpl]; rfl) (Calls.evalArgs_plain ?_)
  refine thn hA fun us s2 ⟨vs, H2, I2, r2, a, y, ov, ex, exs, gt, q2⟩ => ?_
  subst ex exs
  obtain rfl : v = Value.ref a := rx
  obtain ⟨u, rfl, ru⟩ := vals1 r2
  exact dx_get1 hu I2 gt ru fun w' s' I' rw' => ⟨_, H2, I', rw', q2⟩
theorem de_get2 (hu : X.A.units + 9 < cLine) (ho : DE X W o wo) (hk : DE X W e wk) (hx : DE X W f wx)
    (hbase : attributeBase o "get" X.env (eval o X.env) = eval o X.env := by rfl)
    (hfew : ((backTo cpos (starEach [e, f] X.env)).all (fun x => !x.1) && (backToKw cpos (keywordEach [] X.env)).all (fun x => x.1.isSome) && decide ([e, f].length + ([] : List Keyword).length + (if ([] : List Keyword).isEmpty then 0 else 1) < 30)) = true := by rfl)
    (hline : (apos.endLine == cpos.line) = true := by rfl) (hs : starEach [e, f] X.env = (false, eval e X.env) :: starEach [f] X.env := by rfl) (hs2 : starEach [f] X.env = (false, eval f X.env) :: starEach [] X.env := by rfl) (hpl : (backTo cpos (starEach [f] X.env)).any (·.1) = false := by rfl) :
    DE X W (.Call (.Attribute o "get" apos) [e, f] [] cpos) (eGet2 wo wk wx) := by
  refine ⟨fun pins s σ H Q I ⟨g, env, Qd, Ed, eH, es, hw, k, kx⟩ => ?_⟩
  subst eH
  refine wpAny_Call_method_late hbase hfew hline rfl (thn (ho.run pins s σ g.H (fun x H1 => ∃ g1 t ks ds, g1.H = H1 ∧ Step g g1 ∧ At X.K g1.Z g1.F x (.dct t ks ds) ∧ wk env (fun k => wx env (fun x => keyT t k.d = true ∧ Qd (.val (lookD ks ds k.d x.d))) Ed) Ed) I
    (LE.go (R := fun d => dctQ d fun t ks vs => wk env (fun k => wx env (fun x => keyT t k.d = true ∧ Qd (.val (lookD ks vs k.d x.d))) Ed) Ed) es hw (fun x d g1 s1 a1 h1 => by
      obtain ⟨t, ks, ds, rfl, h1⟩ := dctQ_inv h1
      exact ⟨g1, t, ks, ds, rfl, s1, a1, h1⟩) kx)) fun v s1 ⟨x, H1, I1, rx, g1, t, ks, ds, eH1, st, a1, h1⟩ => ?_)
  obtain ⟨t1, t2⟩ := dx_isD I1 eH1 st.ok a1 rx
  subst eH1
  refine ⟨"dict", "dict.get", PySem.F.plainAttrs_dict, PySem.F.slot_dict_get, PySem.F.type_dict_get, t1, t2, ?_⟩
  have hA := (pa_cons hk (pa_cons hx pa_nil hs2) hs).run cpos pins s1 σ g1.H (fun vs H2 => ∃ a y z o, x = .ref a ∧ vs = [y, z] ∧ DGetX X.K H2 a y o ∧ Q (o.getD z) H2) I1
    (LE.go (R := fun b => wx env (fun x => keyT t b = true ∧ Qd (.val (lookD ks ds b x.d))) Ed) (es.step st) h1 (fun w b g2 s2 a2 h2 =>
      LE.go (R := fun c => keyT t b = true ∧ Qd (.val (lookD ks ds b c))) ((es.step st).step s2) h2 (fun z c g3 s3 a3 h3 => by
        obtain ⟨kt, q⟩ := h3
        have a1' := (a1.mono s2.up s2.zs).mono s3.up s3.zs
        obtain ⟨a, us, ev, as, gt⟩ := DGetX.of s3.ok a1' (a2.mono s3.up s3.zs) kt
        exact ⟨a, w, z, _, ev, rfl, gt, QL.on (QL.on (QL.on k st) s2) s3 _ _ g3 s3.ok.refl (.val (look_at as a3)) q⟩) (XL.on (XL.on kx st) s2)) (XL.on kx st))
  rw [hs] at hA ⊢
  refine Calls.callWith_builtin (by show (false || (backTo cpos (starEach [f] X.env)).any (·.1)) = false; rw [hpl]; rfl) (Calls.evalArgs_plain ?_)
  refine thn hA fun us s2 ⟨vs, H2, I2, r2, a, y, z, ov, ex, exs, gt, q2⟩ => ?_
  subst ex exs
  obtain rfl : v = Value.ref a := rx
  obtain ⟨u, u2, rfl, ru, ru2⟩ := vals2 r2
  exact dx_get2 hu I2 gt ru ru2 fun w' s' I' rw' => ⟨_, H2, I', rw', q2⟩
end
end DL
/-! DStm7 -/
namespace DL
open PySem PySem.Spec PyProof.Rows L2
section
variable {X : Cx} {W : WX} {K : PySem.W.Frag} {g0 g : Gh} {env : SEnv} {σ : L2.St} {vs : List V} {os : List O} {cs : Option Nat → List Addr} {i : Nat} {x : Str} {e ek f o : Expr} {we wk wf : WE} {pos p tp apos cpos : Pos} {td ty tx : TE}
theorem cell_isD {pins : List (Addr × Obj)} {H : Hp} {s : Shared} {a : Addr} {t : Bool} {ks : List D} {ps : List O} {us : List V} {Z : Zs} {F : Hp} (I : Inv X pins σ H s) (c : CellOf K Z F H a (.dct t ks ps) us) : s.TypeIs (.ref a) "dict" ∧ ∀ b, Value.ref a = .ref b → ∃ ob, s.heap.get? b = some ob ∧ ob.dict = none := by
  generalize hoo : O.dct t ks ps = oo at c
  cases c with
  | lst _ => cases hoo
  | dctK h nd =>
    obtain ⟨t1, t2, _⟩ := isD_at I (.inl ⟨_, .inl h⟩)
    exact ⟨t1, t2⟩
  | dctT h nd hk q =>
    obtain ⟨_, _, _, _, o, es, ep, h1, h2, _⟩ := (show ObjOk X.prog X.w H s.heap _ (dNo _ _ _) from I.hok _ _ h).1
    exact ⟨⟨o, h1, h2.1⟩, fun b q => by cases q; exact ⟨o, h1, h2.2.1⟩⟩
theorem dx_setd {pins : List (Addr × Obj)} {s : Shared} {a : Addr} {y d : V} {u r : Value} {Q : Value → Shared → Prop} {t : Bool} {ks : List D} {ps : List O} {us : List V} {kd : D} (hu : X.A.units + 9 < cLine) (I : Inv X pins σ g.H s) (ok : g.Ok) (c : CellOf X.K g.Z g.F g.H a (.dct t ks ps) us) (kt : keyT t kd = true) (ay : At X.K g.Z g.F y kd) (hz : ks.length < sizeLine)
    (ry : RelV y u) (rd : RelV d r) (h1 : ∀ v j, posD ks kd = some j → us[j]? = some v → ∀ w' s', Inv X pins σ g.H s' → RelV v w' → Q w' s') (h2 : posD ks kd = none → ∀ H', PutsTo X.K g a t ks us kd y d H' → ∀ w' s', Inv X pins σ H' s' → RelV d w' → Q w' s') :
    wpAny (model X.prog X.w) X.A (call (.builtin "dict.setdefault") [.ref a, u, r]) Q X.xe s := by
  generalize hoo : O.dct t ks ps = oo at c
  cases c with
  | lst _ => cases hoo
  | @dctK kvs ps2 h nd =>
    simp only [O.dct.injEq] at hoo
    obtain ⟨rfl, rfl, rfl⟩ := hoo
    obtain ⟨k, rfl⟩ := keyT_f kt
    have ey := ay.key
    subst ey
    have fi := find_idx (fun kv : Key × V => decide (kv.1 = k)) (·.2) kvs
    have hz' : kvs.length < sizeLine := by simpa using hz
    refine d_setd I h ry rd hz' (fun v hv w' s' I' r' => ?_) fun hn w' s' I' r' => ?_
    · have hv : (kvs.find? fun kv => decide (kv.1 = k)).map (·.2) = some v := hv
      rw [fi] at hv
      obtain ⟨j, ej, ev⟩ := Option.bind_eq_some_iff.mp hv
      exact h1 v j (by rw [posD_K kvs (·.1) k]; exact ej) ev w' s' I' r'
    · have hn : (kvs.find? fun kv => decide (kv.1 = k)).map (·.2) = none := hn
      rw [fi] at hn
      refine h2 ?_ _ (.inl ⟨kvs, k, rfl, h, nd, rfl, rfl, rfl, rfl⟩) w' s' I' r'
      rw [posD_K kvs (·.1) k]
      cases ef : kvs.findIdx? fun kv => decide (kv.1 = k) with
      | none => rfl
      | some j =>
        rw [ef] at hn
        have hj := (List.findIdx?_eq_some_iff_getElem.mp ef).1
        have hn : (kvs.map (·.2))[j]? = none := hn
        rw [List.getElem?_eq_none_iff, List.length_map] at hn
        omega
  | @dctT w0 kvs ks2 ps2 h nd hk q =>
    simp only [O.dct.injEq] at hoo
    obtain ⟨rfl, rfl, rfl⟩ := hoo
    obtain ⟨xs, k, rfl, e, dk⟩ := keyT_t kt
    obtain ⟨b, _, _, rfl, _⟩ := ay.tup_inv'
    cases ry
    obtain ⟨ys, i1, i2, i3, i4, nd', dp⟩ := dn_open I ok.sub h hk q
    have lks : ks.length = kvs.length := by have := congrArg List.length q; simpa using this
    have pf := pair_find i1 k
    have fi := find_idx (fun p : NestedKey × Addr × V => decide (p.1 = k)) (·.2.2) kvs
    have ep := posD_N (f := fun p : NestedKey × Addr × V => p.1) e q
    refine call_setdefault_heap (knd := nestedKind X.prog X.w) (hsz := by rw [← Paired.length i1]; exact i3) (show X.A.units + 1 + 8 < cLine by omega) ⟨At.nested I ok.sub ay e rfl, dk⟩ i4 i2 (fun p hp => ?_) fun hn h' dd' hs => ?_
    · rw [hp] at pf
      rw [fi] at pf
      cases ef : kvs.findIdx? fun p => decide (p.1 = k) with
      | none => rw [ef] at pf; exact pf.elim
      | some j =>
        rw [ef] at pf
        have pf : RelO ((kvs.map (·.2.2))[j]?) (some p.2) := pf
        cases ev : (kvs.map (·.2.2))[j]? with
        | none => rw [ev] at pf; exact pf.elim
        | some v =>
          rw [ev] at pf
          exact h1 v j (ep.trans ef) ev _ _ (I.tok _) pf
    · have he : ∃ q, h'.get? a = some q := let ⟨q, _, _, hq, _⟩ := dd'; ⟨q, hq⟩
      refine h2 ?_ _ (.inr ⟨w0, kvs, k, b, rfl, h, nd, hk, q, rfl, e, rfl, rfl⟩) _ _ (d_write I (by rw [h]; exact True.intro) hs he (dn_new (by omega) i4 nd' dp q e dk i1 rd dd')) rd
      rw [hn] at pf
      rw [fi] at pf
      rw [ep]
      cases ef : kvs.findIdx? fun p => decide (p.1 = k) with
      | none => rfl
      | some j =>
        rw [ef] at pf
        have hj := (List.findIdx?_eq_some_iff_getElem.mp ef).1
        have pf : RelO ((kvs.map (·.2.2))[j]?) none := pf
        rw [List.getElem?_eq_getElem (by simpa using hj)] at pf
        exact pf.elim
/-- d.setdefault(k, v): what the rule asks -/
def tSetdX (K : PySem.W.Frag) (td ty tx : TE) : TE := fun σ H Q => td σ H fun x H1 => ∃ (Z : Zs) (F : Hp) (a : Addr) (t : Bool) (ks : List D) (ps : List O) (us : List V), x = .ref a ∧ CellOf K Z F H1 a (.dct t ks ps) us ∧ ty σ H1 fun y H2 => tx σ H2 fun z H3 =>
  ∃ (g : Gh) (ks : List D) (ps : List O) (us : List V) (kd : D), g.H = H3 ∧ g.Ok ∧ CellOf K g.Z g.F H3 a (.dct t ks ps) us ∧ keyT t kd = true ∧ At K g.Z g.F y kd ∧ ks.length < sizeLine ∧ (∀ v j, posD ks kd = some j → us[j]? = some v → Q v H3) ∧ (posD ks kd = none → ∀ H4, PutsTo K g a t ks us kd y z H4 → Q z H4)
theorem pe_setdX (hu : X.A.units + 9 < cLine) (ho : PE X o td) (he : PE X e ty) (hf : PE X f tx) (m : M2 X o "setdefault" apos e f cpos) : PE X (.Call (.Attribute o "setdefault" apos) [e, f] [] cpos) (tSetdX X.K td ty tx) :=
  ⟨fun pins s σ H Q I h => wpAny_Call_method m.base m.few m.line PySem.F.plainAttrs_dict PySem.F.slot_dict_setdefault PySem.F.type_dict_setdefault (thn (ho.run pins s σ H _ I h) fun w s1 ⟨v1, H1, I1, r1, Z, F, a, t, ks, ps, us, ex, ce, q1⟩ => by
    subst ex
    obtain rfl : w = Value.ref a := r1
    obtain ⟨t1, t2⟩ := cell_isD I1 ce
    refine ⟨t1, t2, ?_⟩
    rw [m.trees]
    refine Calls.callWith_builtin rfl (Calls.evalArgs_plain (Calls.spliced_cons (thn (he.run pins s1 σ H1 _ I1 q1) fun kv s2 ⟨y, H2, I2, ry, q2⟩ => Calls.spliced_cons (thn (hf.run pins s2 σ H2 _ I2 q2) fun fv s3 ⟨z, H3, I3, rz, g, ks, ps, us, kd, eg, ok, c3, kt, ay, hz, k1, k2⟩ => Calls.spliced_nil ?_))))
    subst eg
    exact dx_setd hu I3 ok c3 kt ay hz ry rz (fun v j e1 e2 w' s4 I4 r4 => ⟨v, _, I4, r4, k1 v j e1 e2⟩) fun en H4 dp w' s4 I4 r4 => ⟨z, _, I4, r4, k2 en H4 dp⟩)⟩
def sSetd (i : Nat) (wk wv : WE) : WS := fun env D E => dctD env[i]? fun t ks os => evC wk env (fun k => evC wv env (fun o => keyT t k.d = true ∧ ks.length < sizeLine ∧ D.nx (match posD ks k.d with
  | some _ => env
  | none => env.set i (some (.dct t (ks ++ [k.d]) (os ++ [o]))))) E) E
theorem ds_setd (hu : X.A.units + 9 < cLine) (hk : DE X W ek wk) (he : DE X W e we) (hN : X.N[i]? = some x := by rfl) (hv : Vis X.env.scope x := by first | exact Or.inl rfl | exact Or.inr (Or.inl rfl) | exact Or.inr (Or.inr rfl)) (hd : (x == ("__debug__" : Str)) = false := by decide) (hcd : (x == ("__classdict__" : Str)) = false := by decide)
    (m : M2 X (.Name x p) "setdefault" apos ek e cpos := by exact ⟨rfl, rfl, rfl, rfl⟩) (hsw : swapsWith (.Call (.Attribute (.Name x p) "setdefault" apos) [ek, e] [] cpos) none pos.line X.env = pure false := by rfl) :
    DS X W (.Expr (.Call (.Attribute (.Name x p) "setdefault" apos) [ek, e] [] cpos) pos) (sSetd i wk we) :=
  ps_imp (ps_expr (pe_setdX hu (pe_var hN hv hd hcd) hk he m) hsw) fun Dn σ H ⟨g0, g, env, De, Ee, eH, h, hw, k⟩ => by
  subst eH
  obtain ⟨t, ks, ps, e1, hw⟩ := dctD_inv hw
  obtain ⟨cs, h⟩ := h
  obtain ⟨l, us, c0, hl, hc, co, rs⟩ := h.ownO e1 rfl
  refine ⟨.ref l, hl, g.Z, g.F, l, t, ks, ps, us, rfl, co, SS.goC (X := X) ⟨cs, h⟩ hw (fun y ok g1 h1 q => ?_) k.ex⟩
  refine h1.goC q (fun v o g2 h2 q => ?_) k.ex
  obtain ⟨kt, hz, q⟩ := q
  obtain ⟨cs2, h2⟩ := h2
  obtain ⟨l', us2, c2, hl2, hc2, co2, rs2⟩ := h2.ownO e1 rfl
  rw [hl] at hl2
  obtain rfl : l = l' := by simpa using hl2
  have ht := h2.tmp
  generalize hcn : cs2 none = cn at ht
  cases ht with
  | cons rv t2 =>
    rename_i d1 d2
    obtain ⟨y', ey, ry⟩ := t2.one_inv
    obtain rfl : y = y' := by simpa using ey
    have ay := ry.nolst (keyT_noLst kt)
    refine ⟨g2, ks, ps, us2, ok.d, rfl, h2.st.ok, co2, kt, ay, hz, fun w j ej ew => ?_, fun en H4 dp => ?_⟩
    · rw [ej] at q
      exact k.nx _ _ _ (SS.drop (X := X) ⟨cs2, h2⟩) q
    · rw [en] at q
      have hS := h2.dputTo (o := o) (vs' := []) (os' := []) (ct := []) e1 hl hc2 rs2 dp ay rv .nil (fun c m => by rw [hcn]; simp [m]) (fun c m => by simp at m) (fun c => by rw [hcn]; simp)
      unfold putKs putVs at hS
      rw [en] at hS
      exact k.nx _ _ _ hS q
end
end DL
/-! DStm8 -/
namespace DL
open PySem PySem.Spec PyProof.Rows L2
theorem kidPos_noLst {o : O} {k : D} {j : Nat} (h : kidPos o k = some j) : noLst k = true := by
  cases o with
  | val d => simp [kidPos] at h
  | lst os => cases k <;> first | (simp; done) | (simp [kidPos] at h; done)
  | dct t ks os =>
    simp only [kidPos_dct] at h
    split at h
    · rename_i kt; exact keyT_noLst kt
    · cases h
section
variable {X : Cx} {W : WX} {K : PySem.W.Frag} {g0 g : Gh} {env : SEnv} {σ : L2.St} {vs : List V} {os : List O} {cs : Option Nat → List Addr} {i : Nat} {x : Str}
/-- a kid that is a list: its cell -/
theorem ROs.kidL {Z : Zs} {F H : Hp} {us : List V} {ps : List O} {c0 : List Addr} {j : Nat} {qs : List O} (rs : ROs K Z F H us ps c0) (ek : ps[j]? = some (.lst qs)) (nd : c0.Nodup) :
    ∃ l2 us2 c2, us[j]? = some (.ref l2) ∧ H l2 = some (.lst us2) ∧ ROs K Z F H us2 qs c2 ∧ l2 ∈ c0 ∧ (∀ c ∈ c2, c ∈ c0) ∧ l2 ∉ c2 ∧
      ∀ (u' : HO) (p' : O) (c2' : List Addr), RO K Z F (upd H l2 u') (.ref l2) p' (l2 :: c2') → ∃ c', ROs K Z F (upd H l2 u') us (ps.set j p') c' ∧ ∀ c, c'.count c + c2.count c = c0.count c + c2'.count c := by
  obtain ⟨w, d, h1, h2, h3, h4⟩ := rs.kid ek nd
  cases h2 with
  | @lst l2 us2 _ c2 hH hs =>
    have nd2 : (l2 :: c2).Nodup := List.nodup_iff_count.mpr fun c => Nat.le_trans (h3 c) (List.nodup_iff_count.mp nd c)
    have h3' : ∀ c ∈ l2 :: c2, c ∈ c0 := fun c m => List.count_pos_iff.mp (Nat.lt_of_lt_of_le (List.count_pos_iff.mpr m) (h3 c))
    refine ⟨l2, us2, c2, h1, hH, hs, h3' _ (by simp), fun c m => h3' _ (by simp [m]), (List.nodup_cons.mp nd2).1, fun u' p' c2' r => ?_⟩
    obtain ⟨c', k1, k2⟩ := h4 (upd H l2 u') p' (l2 :: c2') (fun c m n u q => by
      rw [upd_ne fun z => n (by rw [z]; simp)]
      exact q) r
    refine ⟨c', k1, fun c => ?_⟩
    have := k2 c
    rw [List.count_cons, List.count_cons] at this
    omega
/-- the kid at j, a list at l2, is written -/
theorem SS'.putKid (h : SS' K g0 g env σ vs os cs) {o : O} {l : Addr} {us : List V} {c0 : List Addr} {j : Nat} {qs' : List O} {l2 : Addr} {us2' : List V} {c2 c2' ct : List Addr} {vs' : List V} {os' : List O} (e : env[i]? = some (some o)) (hl : σ[i]? = some (some (.ref l))) (hc : cs (some i) = l :: c0) (co : CellOf K g.Z g.F g.H l o us)
    (m2 : l2 ∈ c0) (rep : ∀ (u' : HO) (p' : O) (c2' : List Addr), RO K g.Z g.F (upd g.H l2 u') (.ref l2) p' (l2 :: c2') → ∃ c', ROs K g.Z g.F (upd g.H l2 u') us (o.kids.set j p') c' ∧ ∀ c, c'.count c + c2.count c = c0.count c + c2'.count c)
    (r1 : ROs K g.Z g.F (upd g.H l2 (.lst us2')) us2' qs' c2') (r2 : ROs K g.Z g.F (upd g.H l2 (.lst us2')) vs' os' ct) (cnt : ∀ c, c2'.count c + ct.count c ≤ c2.count c + (cs none).count c) :
    SS K g0 ⟨g.Z, g.F, upd g.H l2 (.lst us2')⟩ (env.set i (some (o.setKid j (.lst qs')))) σ vs' os' := by
  have nd := h.nd (some i)
  rw [hc] at nd
  have ne : l ≠ l2 := fun z => (List.nodup_cons.mp nd).1 (by rw [z]; exact m2)
  obtain ⟨c', k1, k2⟩ := rep (.lst us2') (.lst qs') c2' (.lst upd_same r1)
  rw [O.setKid_eq]
  refine h.putC e hl (by rw [hc]; simp [m2]) rfl (co.mk (upd_ne ne) k1) r2 fun c => ?_
  have := k2 c
  have := cnt c
  rw [hc, List.count_cons, List.count_cons]
  omega
def ownV (o : Option (Option O)) (Q : O → Prop) : Prop := match o with
  | some (some (.lst os)) => Q (.lst os)
  | some (some (.dct t ks os)) => Q (.dct t ks os)
  | _ => False
theorem ownV_inv {o : Option (Option O)} {Q : O → Prop} (h : ownV o Q) : ∃ p, o = some (some p) ∧ p.isVal = false ∧ Q p := by
  unfold ownV at h
  split at h
  · exact ⟨_, rfl, rfl, h⟩
  · exact ⟨_, rfl, rfl, h⟩
  · exact h.elim
/-- x[a].append(e) -/
def sAppK (i : Nat) (wa we : WE) : WS := fun env D E => ownV env[i]? fun o => evC wa env (fun k => ∃ j qs, kidPos o k.d = some j ∧ o.kids[j]? = some (.lst qs) ∧ evC we env (fun v => qs.length < sizeLine ∧ D.nx (env.set i (some (o.setKid j (.lst (qs ++ [v])))))) E) E
variable {e ea eb : Expr} {wa wb we : WE} {pos p tp tq ap cp : Pos}
theorem ds_appK (hu : X.A.units + 9 < cLine) (ha : DE X W ea wa) (he : DE X W e we) (hN : X.N[i]? = some x := by rfl) (hv : Vis X.env.scope x := by first | exact Or.inl rfl | exact Or.inr (Or.inl rfl) | exact Or.inr (Or.inr rfl)) (hd : (x == ("__debug__" : Str)) = false := by decide) (hcd : (x == ("__classdict__" : Str)) = false := by decide)
    (hix : PlainIx ea := by exact fun _ _ => rfl)
    (hb : attributeBase (.Subscript (.Name x p) ea tp) "append" X.env (eval (.Subscript (.Name x p) ea tp) X.env) = eval (.Subscript (.Name x p) ea tp) X.env := by rfl)
    (hfew : ((backTo cp (starEach [e] X.env)).all (fun x => !x.1) && (backToKw cp (keywordEach [] X.env)).all (fun x => x.1.isSome) && decide ([e].length + ([] : List Keyword).length + (if ([] : List Keyword).isEmpty then 0 else 1) < 30)) = true := by rfl)
    (hline : (ap.endLine == cp.line) = true := by rfl) (hst : starEach [e] X.env = (false, eval e X.env) :: starEach [] X.env := by rfl) (hpl : (backTo cp (starEach [] X.env)).any (·.1) = false := by rfl) (hsw : swapsWith (.Call (.Attribute (.Subscript (.Name x p) ea tp) "append" ap) [e] [] cp) none pos.line X.env = pure false := by rfl) :
    DS X W (.Expr (.Call (.Attribute (.Subscript (.Name x p) ea tp) "append" ap) [e] [] cp) pos) (sAppK i wa we) :=
  ps_imp (ps_expr (pe_bm PySem.F.plainAttrs_list PySem.F.slot_list_append PySem.F.type_list_append mt_append (pe_ix (ix_X hu) (pe_var hN hv hd hcd) ha hix) (pa_cons he pa_nil hst) hb hfew hline hst hpl) hsw) fun Dn σ H ⟨g0, g, env, De, Ee, eH, h, hw, k⟩ => by
  subst eH
  obtain ⟨o, e1, nv, hw⟩ := ownV_inv hw
  obtain ⟨cs, h⟩ := h
  obtain ⟨l, us, c0, hl, hc, co, rs⟩ := h.ownO e1 nv
  refine ⟨.ref l, hl, h.goK hw (fun y ok g1 cs1 h1 sm up zs kp q => ?_) k.ex⟩
  obtain ⟨j, qs, ej, ek, q⟩ := q
  obtain ⟨l', us1, c1, hl1, hc1, co1, rs1⟩ := h1.ownO e1 nv
  rw [hl] at hl1
  obtain rfl : l = l' := by simpa using hl1
  have nd1 := h1.nd (some i)
  rw [hc1] at nd1
  have ry : ∃ c, RO X.K g1.Z g1.F g1.H y ok c := by
    have ht := h1.tmp
    generalize cs1 none = cn at ht
    cases ht with
    | cons r t => exact ⟨_, r⟩
  obtain ⟨_, ry⟩ := ry
  obtain ⟨w, ew, gt⟩ := own_get h1.st.ok co1 rs1 ej (ry.nolst (kidPos_noLst ej)) ek
  obtain ⟨l2, us2, c2, ew2, hH2, hs2, m2, sub2, _, rep⟩ := rs1.kidL ek (List.nodup_cons.mp nd1).2
  rw [ew] at ew2
  obtain rfl := Option.some.inj ew2
  refine gt _ ⟨.inl ⟨rfl, us2, SqL.of hH2⟩, h1.goK q (fun v ov g2 cs2 h2 sm2 up2 zs2 kp2 q2 => ?_) k.ex⟩
  have own : ∀ c ∈ cs1 (some i), ∀ u, g1.H c = some u → g2.H c = some u := fun c m u q => kp2 c u q (h1.fr _ c m).2.2.1
  have hc2 : cs2 (some i) = l :: c1 := by rw [sm2, hc1]
  have co2 : CellOf X.K g2.Z g2.F g2.H l o us1 := co1.mono up2 zs2 (own l (by rw [hc1]; simp))
  have rs2 : ROs X.K g2.Z g2.F g2.H us1 o.kids c1 := rs1.mono up2 zs2 fun c m u q => own c (by rw [hc1]; simp [m]) u q
  have nd2 := h2.nd (some i)
  rw [hc2] at nd2
  obtain ⟨l2', us3, c3, ew3, hH3, hs3, m3, sub3, nl3, rep3⟩ := rs2.kidL ek (List.nodup_cons.mp nd2).2
  rw [ew] at ew3
  obtain rfl : l2 = l2' := by simpa using ew3
  have ht := h2.tmp
  generalize hcn : cs2 none = cn at ht
  cases ht with
  | cons rv t2 =>
    rename_i dv dr
    have nin : l2 ∉ dv := fun m => by
      have := h2.dj (some i) none l2 (by rw [hc2]; simp [m3]) (by rw [hcn]; simp [m])
      cases this
    have kpn : ∀ c, c ≠ l2 → ∀ u, g2.H c = some u → upd g2.H l2 (.lst (us3 ++ [v])) c = some u := fun c n u q => by rw [upd_ne n]; exact q
    refine ⟨l2, us3, v, rfl, rfl, hH3, by rw [hs3.length]; exact q2.1, k.nx _ _ _ (h2.putKid (vs' := []) (os' := []) (ct := []) (us2' := us3 ++ [v]) (c2' := c3 ++ (dv ++ [])) e1 hl hc2 co2 m3 rep3 (ROs.append (hs3.mono (Sub.refl _) (fun _ z => z) fun c m u q => kpn c (fun z => nl3 (by rw [← z]; exact m)) u q) (.cons (rv.mono (Sub.refl _) (fun _ z => z) fun c m u q => kpn c (fun z => nin (by rw [← z]; exact m)) u q) .nil)) .nil fun c => ?_) q2.2⟩
    rw [hcn]
    simp only [List.append_nil, List.count_append, List.count_nil, Nat.add_zero]
    omega
/-- x[a][b] = e -/
def sIx2 (i : Nat) (wa wb we : WE) : WS := fun env D E => ownV env[i]? fun o => evC we env (fun v => evC wa env (fun ka => ∃ j qs, kidPos o ka.d = some j ∧ o.kids[j]? = some (.lst qs) ∧
  evC wb env (fun kb => ∃ n jj, kb.d = .int n ∧ ixN qs.length n = some jj ∧ D.nx (env.set i (some (o.setKid j (.lst (qs.set jj v)))))) E) E) E
theorem ROs.head {Z : Zs} {F H : Hp} {v : V} {o : O} {vs : List V} {os : List O} {c : List Addr} (h : ROs K Z F H (v :: vs) (o :: os) c) : ∃ c1 c2, c = c1 ++ c2 ∧ RO K Z F H v o c1 ∧ ROs K Z F H vs os c2 := by
  cases h with
  | cons r t => exact ⟨_, _, rfl, r, t⟩
theorem ds_ix2 (hu : X.A.units + 9 < cLine) (he : DE X W e we) (ha : DE X W ea wa) (hb : DE X W eb wb) (hN : X.N[i]? = some x := by rfl) (hv : Vis X.env.scope x := by first | exact Or.inl rfl | exact Or.inr (Or.inl rfl) | exact Or.inr (Or.inr rfl)) (hd : (x == ("__debug__" : Str)) = false := by decide) (hcd : (x == ("__classdict__" : Str)) = false := by decide)
    (hix : PlainIx ea := by exact fun _ _ => rfl)
    (has : ∀ v, assign (.Subscript (.Subscript (.Name x p) ea tq) eb tp) X.env v = (do
      let ov ← holding [v] (eval (.Subscript (.Name x p) ea tq) X.env)
      let iv ← holding [v, ov] (eval eb X.env)
      standAt tp
      holding [v, ov, iv] (setItem ov iv v)
      release [v, ov, iv] []) := by intro _; rfl)
    (hs : swapsWithSole [.Subscript (.Subscript (.Name x p) ea tq) eb tp] e pos.line X.env = pure false := by rfl) (hw : swappedStores [.Subscript (.Subscript (.Name x p) ea tq) eb tp] e X.env = pure none := by rfl) (h1 : (assignEach [.Subscript (.Subscript (.Name x p) ea tq) eb tp] X.env).map (·.2) = [assign (.Subscript (.Subscript (.Name x p) ea tq) eb tp) X.env] := by rfl) :
    DS X W (.Assign [.Subscript (.Subscript (.Name x p) ea tq) eb tp] e pos) (sIx2 i wa wb we) :=
  ps_imp (ps_asg he (pg_sub (pe_ix (ix_X hu) (pe_var hN hv hd hcd) ha hix) hb set_list has) hs hw h1) fun Dn σ H ⟨g0, g, env, De, Ee, eH, h, hw, k⟩ => by
  subst eH
  obtain ⟨o, e1, nv, hw⟩ := ownV_inv hw
  obtain ⟨cs, h⟩ := h
  refine h.goK hw (fun v ov g1 cs1 h1 sm up zs kp q => ?_) k.ex
  obtain ⟨l, us, c0, hl, hc, co, rs⟩ := h1.ownO e1 nv
  refine ⟨.ref l, hl, h1.goK q (fun y ok g2 cs2 h2 sm2 up2 zs2 kp2 q => ?_) k.ex⟩
  obtain ⟨j, qs, ej, ek, q⟩ := q
  obtain ⟨l', us1, c1, hl1, hc1, co1, rs1⟩ := h2.ownO e1 nv
  rw [hl] at hl1
  obtain rfl : l = l' := by simpa using hl1
  have nd1 := h2.nd (some i)
  rw [hc1] at nd1
  obtain ⟨_, _, _, ry, _⟩ := h2.tmp.head
  obtain ⟨w, ew, gt⟩ := own_get h2.st.ok co1 rs1 ej (ry.nolst (kidPos_noLst ej)) ek
  obtain ⟨l2, us2, c2, ew2, hH2, hs2, m2, sub2, _, rep⟩ := rs1.kidL ek (List.nodup_cons.mp nd1).2
  rw [ew] at ew2
  obtain rfl := Option.some.inj ew2
  refine gt _ (h2.goK q (fun z oz g3 cs3 h3 sm3 up3 zs3 kp3 q3 => ?_) k.ex)
  obtain ⟨n, jj, en, ejj, q3⟩ := q3
  have own : ∀ c ∈ cs2 (some i), ∀ u, g2.H c = some u → g3.H c = some u := fun c m u q => kp3 c u q (h2.fr _ c m).2.2.1
  have hc3 : cs3 (some i) = l :: c1 := by rw [sm3, hc1]
  have co3 : CellOf X.K g3.Z g3.F g3.H l o us1 := co1.mono up3 zs3 (own l (by rw [hc1]; simp))
  have rs3 : ROs X.K g3.Z g3.F g3.H us1 o.kids c1 := rs1.mono up3 zs3 fun c m u q => own c (by rw [hc1]; simp [m]) u q
  have nd3 := h3.nd (some i)
  rw [hc3] at nd3
  obtain ⟨l2', us3, c3, ew3, hH3, hs3, m3, sub3, nl3, rep3⟩ := rs3.kidL ek (List.nodup_cons.mp nd3).2
  rw [ew] at ew3
  obtain rfl : l2 = l2' := by simpa using ew3
  obtain ⟨d1, d2, hcn, rz, t2⟩ := h3.tmp.head
  obtain ⟨d3, d4, hcn2, _, t3⟩ := t2.head
  obtain ⟨d5, d6, hcn3, rv, _⟩ := t3.head
  have nin : l2 ∉ d5 := fun m => by
    have := h3.dj (some i) none l2 (by rw [hc3]; simp [m3]) (by rw [hcn, hcn2, hcn3]; simp [m])
    cases this
  have kpn : ∀ (u' : HO) c, c ≠ l2 → ∀ u, g3.H c = some u → upd g3.H l2 u' c = some u := fun u' c n u q => by rw [upd_ne n]; exact q
  have hj := ixN_lt ejj
  obtain ⟨c', r3, cn3⟩ := ROs.set (rv.mono (Sub.refl _) (fun _ z => z) fun c m u q => kpn (.lst (us3.set jj v)) c (fun z => nin (by rw [← z]; exact m)) u q) jj (hs3.mono (Sub.refl _) (fun _ z => z) fun c m u q => kpn (.lst (us3.set jj v)) c (fun z => nl3 (by rw [← z]; exact m)) u q) hj
  refine ⟨l2, us3, n, jj, rfl, rz.int_of en, hH3, by rw [hs3.length]; exact ejj, k.nx _ _ _ (h3.putKid (vs' := []) (os' := []) (ct := []) (us2' := us3.set jj v) (c2' := c') e1 hl hc3 co3 m3 rep3 r3 .nil fun c => ?_) q3⟩
  have := cn3 c
  rw [hcn, hcn2, hcn3]
  simp only [List.count_append, List.count_nil, Nat.add_zero]
  omega
/-- x[a][b] op= e, ints -/
def sAugIx2 (i : Nat) (f : D → D → PQ) (wa wb we : WE) : WS := fun env D E => ownV env[i]? fun o => evC wa env (fun ka => ∃ j qs, kidPos o ka.d = some j ∧ o.kids[j]? = some (.lst qs) ∧
  evC wb env (fun kb => ∃ n jj m, kb.d = .int n ∧ ixN qs.length n = some jj ∧ qs[jj]? = some (.val (.int m)) ∧ evC we env (fun v => f (.int m) v.d fun z => ∃ e, z = .val e ∧ noLst e = true ∧ D.nx (env.set i (some (o.setKid j (.lst (qs.set jj (.val e))))))) E) E) E
theorem ds_augIx2 {op : Operator} {r : R2} {f : D → D → PQ} (hu : X.A.units + 9 < cLine) (ho : OpR X (inplaceOp op) r) (hf : OpD X.K r f) (ha : DE X W ea wa) (hb : DE X W eb wb) (he : DE X W e we) (hN : X.N[i]? = some x := by rfl) (hv : Vis X.env.scope x := by first | exact Or.inl rfl | exact Or.inr (Or.inl rfl) | exact Or.inr (Or.inr rfl)) (hd : (x == ("__debug__" : Str)) = false := by decide) (hcd : (x == ("__classdict__" : Str)) = false := by decide)
    (hix : PlainIx ea := by exact fun _ _ => rfl)
    (has : ∀ ov iv new, augStore eb ov iv new = (do holding [new, ov, iv] (setItem ov iv new); release [new, ov, iv] []; pure .next) := by intros; rfl) :
    DS X W (.AugAssign (.Subscript (.Subscript (.Name x p) ea tq) eb tp) op e pos) (sAugIx2 i f wa wb we) :=
  ps_imp (ps_augS (pe_ix (ix_X hu) (pe_var hN hv hd hcd) ha hix) hb get_list he (fun pins s σ H x y v u Q I rx ry h => ho pins s σ H x y v u Q I rx ry h) set_list has) fun Dn σ H ⟨g0, g, env, De, Ee, eH, h, hw, k⟩ => by
  subst eH
  obtain ⟨o, e1, nv, hw⟩ := ownV_inv hw
  obtain ⟨cs, h⟩ := h
  obtain ⟨l, us, c0, hl, hc, co, rs⟩ := h.ownO e1 nv
  refine ⟨.ref l, hl, h.goK hw (fun y ok g2 cs2 h2 sm2 up2 zs2 kp2 q => ?_) k.ex⟩
  obtain ⟨j, qs, ej, ek, q⟩ := q
  obtain ⟨l', us1, c1, hl1, hc1, co1, rs1⟩ := h2.ownO e1 nv
  rw [hl] at hl1
  obtain rfl : l = l' := by simpa using hl1
  have nd1 := h2.nd (some i)
  rw [hc1] at nd1
  obtain ⟨_, _, _, ry, _⟩ := h2.tmp.head
  obtain ⟨w, ew, gt⟩ := own_get h2.st.ok co1 rs1 ej (ry.nolst (kidPos_noLst ej)) ek
  obtain ⟨l2, us2, c2, ew2, hH2, hs2, m2, sub2, _, rep⟩ := rs1.kidL ek (List.nodup_cons.mp nd1).2
  rw [ew] at ew2
  obtain rfl := Option.some.inj ew2
  refine gt _ (h2.goK q (fun z oz g3 cs3 h3 sm3 up3 zs3 kp3 q3 => ?_) k.ex)
  obtain ⟨n, jj, m, en, ejj, em, q3⟩ := q3
  have own : ∀ c ∈ cs2 (some i), ∀ u, g2.H c = some u → g3.H c = some u := fun c m u q => kp3 c u q (h2.fr _ c m).2.2.1
  have hc3 : cs3 (some i) = l :: c1 := by rw [sm3, hc1]
  have co3 : CellOf X.K g3.Z g3.F g3.H l o us1 := co1.mono up3 zs3 (own l (by rw [hc1]; simp))
  have rs3 : ROs X.K g3.Z g3.F g3.H us1 o.kids c1 := rs1.mono up3 zs3 fun c m u q => own c (by rw [hc1]; simp [m]) u q
  have nd3 := h3.nd (some i)
  rw [hc3] at nd3
  obtain ⟨l2', us3, c3, ew3, hH3, hs3, m3, sub3, nl3, rep3⟩ := rs3.kidL ek (List.nodup_cons.mp nd3).2
  rw [ew] at ew3
  obtain rfl : l2 = l2' := by simpa using ew3
  obtain ⟨d1, d2, hcn, rz, _⟩ := h3.tmp.head
  have ez := rz.int_of en
  subst ez
  obtain ⟨wm, ewm, awm⟩ := hs3.getV em
  refine ⟨l2, us3, n, .int m, rfl, rfl, SqL.of hH3, ?_, h3.goK q3 (fun v ov g4 cs4 h4 sm4 up4 zs4 kp4 q4 => ?_) k.ex⟩
  · unfold L2.atI
    rw [hs3.length, ejj]
    show us3[jj]? = _
    rw [ewm, awm.int_inv]
  have up := thaw_up (H := g4.H) h4.fz
  obtain ⟨d3, d4, hcn4, rv, _⟩ := h4.tmp.head
  refine hf ⟨g4.Z, thaw g4.F g4.H (cells cs4), g4.H⟩ (.int m) v (.int m) ov.d _ _ (h4.st.ok.thaw h4.nz) (.int m) (rv.at_ up fun c mm => thaw_in ⟨none, by rw [hcn4]; simp [mm]⟩) q4 fun t ot g5 s5 r5 qz => ?_
  obtain ⟨et, rfl, nl, hn⟩ := qz
  -- behind the operator
  have st := h4.back s5
  have h5 := h4.step st
  have at5 : At X.K g5.Z (untw g5.F (cells cs4)) t et := by
    obtain ⟨ds, r, _, _⟩ := r5
    exact (RO.strip (h4.tups s5) r (by simpa using nl)).val_inv
  have own4 : ∀ c ∈ cs3 (some i), ∀ u, g3.H c = some u → g5.H c = some u := fun c mm u q => by
    have q4 := kp4 c u q (h3.fr _ c mm).2.2.1
    exact s5.keep c u q4 (by
      have := (h4.fr (some i) c (by rw [sm4]; exact mm)).2.2.1
      exact this)
  have upA : Sub g3.F (untw g5.F (cells cs4)) := up4.trans st.up
  have zsA : ∀ p ∈ g3.Z, p ∈ g5.Z := fun p hp => st.zs p (zs4 p hp)
  have hc5 : cs4 (some i) = l :: c1 := by rw [sm4, hc3]
  have co5 : CellOf X.K g5.Z (untw g5.F (cells cs4)) g5.H l o us1 := co3.mono upA zsA (own4 l (by rw [hc3]; simp))
  have rs5 : ROs X.K g5.Z (untw g5.F (cells cs4)) g5.H us1 o.kids c1 := rs3.mono upA zsA fun c mm u q => own4 c (by rw [hc3]; simp [mm]) u q
  have nd5 := h5.nd (some i)
  rw [hc5] at nd5
  obtain ⟨l5, us5, c5, ew5, hH5, hs5, m5, sub5, nl5, rep5⟩ := rs5.kidL ek (List.nodup_cons.mp nd5).2
  rw [ew] at ew5
  obtain rfl : l2 = l5 := by simpa using ew5
  have kpn : ∀ (u' : HO) c, c ≠ l2 → ∀ u, g5.H c = some u → upd g5.H l2 u' c = some u := fun u' c n u q => by rw [upd_ne n]; exact q
  have hj := ixN_lt ejj
  obtain ⟨c', r6, cn6⟩ := ROs.set (RO.val (H := upd g5.H l2 (.lst (us5.set jj t))) at5) jj (hs5.mono (Sub.refl _) (fun _ z => z) fun c mm u q => kpn (.lst (us5.set jj t)) c (fun z => nl5 (by rw [← z]; exact mm)) u q) hj
  refine ⟨l2, us5, n, jj, rfl, rfl, hH5, by rw [hs5.length]; exact ejj, k.nx ⟨g5.Z, untw g5.F (cells cs4), upd g5.H l2 (.lst (us5.set jj t))⟩ _ _ (h5.putKid (vs' := []) (os' := []) (ct := []) (us2' := us5.set jj t) (c2' := c') e1 hl hc5 co5 m5 rep5 r6 .nil fun c => ?_) hn⟩
  have := cn6 c
  simp only [List.count_nil, Nat.add_zero] at this ⊢
  omega
end
end DL
/-! DMix -/
namespace DL
open PySem PySem.Spec PyProof.Rows L2
def popL (i : Nat) (wk : WE) (env : DEnv) : Nat → List D → List D → (List D → Prop) → Prop
  | 0, acc, _, Q => Q acc
  | n + 1, acc, ds, Q => wk (env.set i (some (.lst ds))) (fun k => k.clean = true ∧ ∃ m j d, k.d = .int m ∧ in62 m ∧ ixN ds.length m = some j ∧ ds[j]? = some d ∧ acc.length < sizeLine ∧ popL i wk env n (acc ++ [d]) (ds.eraseIdx j) Q) NoX
def sRetPop (i v : Nat) (wi : WI) (wk : WE) : WS := fun env D E => ∃ ds, env[i]? = some (some (.lst (ds.map .val))) ∧ env[v]? = some none ∧ i ≠ v ∧ wi (view env) (fun items => popL i wk (view env) items.length [] ds fun r => D.rt (.lst (r.map .val))) fun _ => False
section
variable {X : Cx} {W : WX} {K : PySem.W.Frag} {g0 g : Gh} {env : SEnv} {σ : L2.St} {vs : List V} {os : List O} {cs : Option Nat → List Addr} {i v : Nat} {x : Str}
theorem SS'.goSt {w : WE} {Qd : O → Prop} {Ee : SEX} {Q : VK} (h : SS' X.K g0 g env σ vs os cs) (hw : evC w env Qd Ee) (k : ∀ v o g1 cs1, SS' X.K g0 g1 env σ (v :: vs) (o :: os) cs1 → (∀ i, cs1 (some i) = cs (some i)) → (∀ c ∈ cs1 none, c ∈ cs none ∨ g.H c = none) → Step g g1 → Qd o → Q v g1.H) (kx : EL X W g0 Ee) : LE X W w σ g.H Q := by
  refine LE.goO (g := ⟨g.Z, thaw g.F g.H (cells cs), g.H⟩) h.es hw (fun v o g1 s r q => ?_) fun x cls dd g1 s r q => ?_
  · obtain ⟨ds, r, nd, hc⟩ := r
    have r' : RO X.K g1.Z (untw g1.F (cells cs)) g1.H v o ds := RO.strip (h.tups s) r q.1
    have st := h.back s
    have fr : ∀ c ∈ ds, untw g1.F (cells cs) c = none := fun c m => by
      by_cases z : cells cs c
      · exact untw_in z
      · rw [untw_out z]; exact (hc c m).1
    exact k v o ⟨g1.Z, untw g1.F (cells cs), g1.H⟩ _ ((h.step st).push r' nd (fun c m => ⟨fr c m, h.st.none_ (hc c m).2.1, (hc c m).2.2⟩) fun j c m m' => by
      obtain ⟨_, _, _, u, hu, _⟩ := h.fr j c m'
      have e2 : g.H c = none := (hc c m).2.1
      rw [e2] at hu; cases hu) (fun _ => rfl) (fun c m => by
        rcases List.mem_append.mp m with m | m
        · exact .inr (hc c m).2.1
        · exact .inl m) st q.2
  · exact kx ⟨g1.Z, untw g1.F (cells cs), g1.H⟩ env σ x cls dd (SS.drop (X := X) ⟨cs, h.step (h.back s)⟩) (r.back h s q.1) q.2
theorem SS'.reslot (h : SS' K g0 g env σ vs os cs) (hv : env[v]? = some none) {σ' : L2.St} (hl : σ'.length = σ.length) (hs : ∀ j, j ≠ v → σ'[j]? = σ[j]?) : SS' K g0 g env σ' vs os cs :=
  ⟨h.st, h.len.trans hl.symm, fun j o e => by
    obtain ⟨w, h1, h2⟩ := h.slot j o e
    refine ⟨w, ?_, h2⟩
    rw [hs j fun q => by rw [q, hv] at e; cases e]
    exact h1, h.tmp, h.fr, h.nd, h.dj⟩
/-- a cell of no slot is written -/
theorem SS'.side (h : SS' K g0 g env σ vs os cs) {D : Addr} {u : HO} (n0 : g0.H D = none) (f : g.F D = none) (z : ¬ inZ g.Z D) (no : ∀ j, D ∉ cs j) : SS' K g0 ⟨g.Z, g.F, upd g.H D u⟩ env σ vs os cs :=
  have kp : ∀ j, ∀ c ∈ cs j, ∀ w, g.H c = some w → upd g.H D u c = some w := fun j c m w q => by
    rw [upd_ne fun e => no j (by rw [← e]; exact m)]
    exact q
  ⟨h.st.own n0 f z, h.len, fun j o e => by
    obtain ⟨w, h1, h2⟩ := h.slot j o e
    exact ⟨w, h1, h2.mono (Sub.refl _) (fun _ q => q) fun c m w q => kp _ c m w q⟩, h.tmp.mono (Sub.refl _) (fun _ q => q) fun c m w q => kp _ c m w q, fun j c m => by
    obtain ⟨a, b, d, w, hw, k⟩ := h.fr j c m
    exact ⟨a, b, d, w, kp j c m w hw, k⟩, h.nd, h.dj⟩
theorem ROs.vals_inv {Z : Zs} {F H : Hp} : ∀ {ds : List D} {us : List V} {c : List Addr}, ROs K Z F H us (ds.map .val) c → Ats K Z F us ds ∧ c = []
  | [], _, _, h => by cases h; exact ⟨.nil, rfl⟩
  | d :: ds, _, _, h => by
    cases h with
    | cons r t =>
      obtain ⟨a, rfl⟩ := ROs.vals_inv t
      cases r with
      | val r => exact ⟨.cons r a, rfl⟩
theorem view_set {env : SEnv} {i : Nat} {o : O} : view (env.set i (some o)) = (view env).set i (some o.d) := by
  unfold view
  rw [List.map_set]
  rfl
theorem Ats.erase {Z : Zs} {F : Hp} : ∀ {us : List V} {ds : List D} (j : Nat), Ats K Z F us ds → Ats K Z F (us.eraseIdx j) (ds.eraseIdx j)
  | _, _, _, .nil => by simpa using Ats.nil
  | _, _, 0, .cons _ t => by simpa using t
  | _, _, j + 1, .cons a t => by simpa using Ats.cons a (Ats.erase j t)
theorem seqIx {n : Nat} {i : Int} {j : Nat} (h : ixN n i = some j) : seqIndex? i n = some j := by
  unfold ixN at h
  split at h
  · rename_i h0
    split at h
    · rename_i h1
      rw [seqIndex_of h0 h1]
      exact h
    · cases h
  · rename_i h0
    split at h
    · rename_i h1
      rw [seqIndex_neg (by omega) (by omega)]
      exact h
    · cases h
theorem upd_swap {H : Hp} {a b : Addr} {u w : HO} (n : a ≠ b) : upd (upd H a u) b w = upd (upd H b w) a u := by
  funext c
  by_cases p : c = a
  · subst p
    rw [upd_ne n, upd_same, upd_same]
  · by_cases q : c = b
    · subst q
      rw [upd_same, upd_ne p, upd_same]
    · rw [upd_ne q, upd_ne p, upd_ne p, upd_ne q]
variable {wi : WI} {wk : WE} {tg iter ek : Expr} {y : Str} {scope : Scope} {own : List (Str × Nat)} {pos p ap cp rp py : Pos}
theorem ds_retPop (hc : X.calm = true) (hN : X.N.Nodup) (hi : DIr X W (.Name y py) iter wi) (ok : BlkOk X.N X.env.scope scope own) (ho : own = [(y, v)]) (hy : ∀ (s : Shared) (H : Hp) (C : Addr) (cl : List (Str × Addr)) (fp : List Addr), PG (X.blk s H scope (compEnvC scope cl C X.env) fp) (.Name y py) (gName v))
    (hk : ∀ (s : Shared) (H : Hp) (C : Addr) (cl : List (Str × Addr)) (fp : List Addr), DE (X.blk s H scope (compEnvC scope cl C X.env) fp) WF ek wk)
    (hv : ∀ (s : Shared) (H : Hp) (C : Addr) (cl : List (Str × Addr)) (fp : List Addr), PE (X.blk s H scope (compEnvC scope cl C X.env) fp) (.Name x p) (tVar i))
    (hM : ∀ (s : Shared) (H : Hp) (C : Addr) (cl : List (Str × Addr)) (fp : List Addr), M1 (X.blk s H scope (compEnvC scope cl C X.env) fp) (.Name x p) "pop" ap ek cp)
    (hst : ∀ (s : Shared) (H : Hp) (C : Addr) (cl : List (Str × Addr)) (fp : List Addr), starEach [ek] (X.blk s H scope (compEnvC scope cl C X.env) fp).env = (false, eval ek (X.blk s H scope (compEnvC scope cl C X.env) fp).env) :: starEach [] (X.blk s H scope (compEnvC scope cl C X.env) fp).env)
    (hpl : ∀ (s : Shared) (H : Hp) (C : Addr) (cl : List (Str × Addr)) (fp : List Addr), (backTo cp (starEach [] (X.blk s H scope (compEnvC scope cl C X.env) fp).env)).any (·.1) = false)
    (hs : ∀ x, foldedSetIterable iter X.env x = pure x := by intro _; rfl) :
    DS X W (.Return (some (.ListComp (.Call (.Attribute (.Name x p) "pop" ap) [ek] [] cp) [⟨.Name y py, iter, [], 0⟩] scope rp)) pos) (sRetPop i v wi wk) := by
  subst ho
  refine ps_imp (ps_ret (pe_lc (te := tBM X.K "list" rPopAt (tVar i) (tCons (LE X WF wk) tNil)) hc hN hi ok hy (fun _ _ _ _ _ => pts_nil) (fun s H C cl fp => pe_bm PySem.F.plainAttrs_list PySem.F.slot_list_pop PySem.F.type_list_pop mt_popAt (hv s H C cl fp) (pa_cons (hk s H C cl fp) pa_nil (hst s H C cl fp)) (hM s H C cl fp).base (hM s H C cl fp).few (hM s H C cl fp).line (hst s H C cl fp) (hpl s H C cl fp)) hs)) fun Dn σ H ⟨g0, g, env, De, Ee, eH, h, hw, k⟩ => ?_
  subst eH
  obtain ⟨cs, h⟩ := h
  obtain ⟨ds, ei, ev, niv, hw⟩ := hw
  refine ⟨⟨g.Z, thaw g.F g.H (cells cs), g.H⟩, view env, _, _, rfl, h.es, hw, fun items J g1 s it q => ?_, fun x cls dd g1 s r q => q.elim⟩
  have h1 := h.step (h.back s)
  generalize hg1 : (⟨g1.Z, untw g1.F (cells cs), g1.H⟩ : Gh) = g1' at h1
  have eH1 : g1.H = g1'.H := by rw [← hg1]
  rw [eH1]
  intro D nD
  have n0 : g0.H D = none := h1.st.none_ nD
  have Dcs : ∀ j, D ∉ cs j := fun j m => by
    obtain ⟨_, _, _, u, hu, _⟩ := h1.fr j D m
    rw [nD] at hu; cases hu
  have seti : env.set i (some (.lst (ds.map .val))) = env := by
    apply List.ext_getElem?
    intro j
    by_cases e : j = i
    · subst e
      rw [List.getElem?_set_self (List.getElem?_eq_some_iff.mp ei).1, ei]
    · rw [List.getElem?_set_ne (Ne.symm e)]
  refine ⟨fun t m H => m = items.length - t ∧ t ≤ items.length ∧ ∃ (g' : Gh) (cs' : Option Nat → List Addr) (ds' acc : List DL.D) (us : List V), g'.H = H ∧ SS' X.K g0 g' (env.set i (some (.lst (ds'.map .val)))) σ [] [] cs' ∧ H D = some (.lst us) ∧ g'.F D = none ∧ ¬ inZ g'.Z D ∧ (∀ j, D ∉ cs' j) ∧ Ats X.K g'.Z g'.F us acc ∧ popL i wk (view env) (items.length - t) acc ds' fun r => De.rt (.lst (r.map .val)),
    ⟨items.length, by simp, Nat.zero_le _, ⟨g1'.Z, g1'.F, upd g1'.H D (.lst [])⟩, cs, ds, [], [], rfl, ?_, upd_same, h1.st.ok.noF nD, h1.st.ok.noZ nD, Dcs, .nil, by simpa using q⟩, ?_⟩
  · rw [seti]
    exact h1.step (Step.laid h1.st.ok nD)
  rintro t m H ⟨rfl, ht, g', cs', ds', acc, us, rfl, h', hD, fD, zD, nD', as, hp⟩
  by_cases hlt : t < items.length
  case neg =>
    have e : t = items.length := by omega
    subst e
    rw [Nat.sub_self] at hp
    refine .inl ⟨(it g').st g' ⟨h'.st.ok, Sub.refl _, fun _ q => q⟩ _ (Nat.le_refl _), k.rt g' _ _ h'.st ⟨[D], .lst hD (.vals as), by simp, fun c mc => ?_⟩ hp⟩
    obtain rfl : c = D := by simpa using mc
    exact ⟨fD, n0, zD⟩
  have en : items.length - t = (items.length - (t + 1)) + 1 := by omega
  rw [en] at hp
  have ed : items[t]? = some items[t] := by simp [hlt]
  have gr : Grow g' g' := ⟨h'.st.ok, Sub.refl _, fun _ q => q⟩
  refine .inr ⟨(it g').go g' gr t _ ed, fun H' => ∃ (g' : Gh) (cs' : Option Nat → List Addr) (ds' acc : List DL.D) (us : List V), g'.H = H' ∧ SS' X.K g0 g' (env.set i (some (.lst (ds'.map .val)))) σ [] [] cs' ∧ H' D = some (.lst us) ∧ g'.F D = none ∧ ¬ inZ g'.Z D ∧ (∀ j, D ∉ cs' j) ∧ Ats X.K g'.Z g'.F us acc ∧ popL i wk (view env) (items.length - (t + 1)) acc ds' fun r => De.rt (.lst (r.map .val)), fun H' hN => ⟨items.length - (t + 1), by omega, rfl, hlt, hN⟩, fun xv H' hy => ?_⟩
  obtain ⟨F2, s2, _⟩ := (it g').yl g' gr t _ xv H' ed hy
  have h2 := h'.step s2
  have lenσ : v < σ.length := by
    have := h'.len
    rw [List.length_set] at this
    rw [← this]
    exact (List.getElem?_eq_some_iff.mp ev).1
  have hev : (env.set i (some (.lst (ds'.map .val))))[v]? = some none := by rw [List.getElem?_set_ne niv]; exact ev
  have h3 := h2.reslot (σ' := (L2.wipe σ [v]).set v (some xv)) hev (by simp [wipe_length]) (fun j n => by rw [List.getElem?_set_ne (Ne.symm n)]; exact wipe_get (by simpa using n))
  refine ⟨?_, ?_⟩
  · apply List.ext_getElem?
    intro j
    by_cases e : j = v
    · subst e
      rw [wipe_in (by simp) (by simpa [wipe_length] using lenσ), wipe_in (by simp) lenσ]
    · rw [wipe_get (by simpa using e), List.getElem?_set_ne (Ne.symm e)]
  show tBM X.K "list" rPopAt (tVar i) (tCons (LE X WF wk) tNil) _ _ _
  have li : i < env.length := (List.getElem?_eq_some_iff.mp ei).1
  have ei' : (env.set i (some (.lst (ds'.map .val))))[i]? = some (some (.lst (ds'.map .val))) := List.getElem?_set_self li
  obtain ⟨l, us1, c0, hl, hcl, co, rs⟩ := h3.ownO ei' rfl
  cases co with
  | lst hH =>
  refine ⟨.ref l, hl, .inl ⟨rfl, us1, SqL.of hH⟩, ?_⟩
  have hpw : evC wk (env.set i (some (.lst (ds'.map .val)))) (fun k => ∃ m j d, k.d = .int m ∧ in62 m ∧ ixN ds'.length m = some j ∧ ds'[j]? = some d ∧ acc.length < sizeLine ∧ popL i wk (view env) (items.length - (t + 1)) (acc ++ [d]) (ds'.eraseIdx j) fun r => De.rt (.lst (r.map .val))) (fun _ _ => False) := by
    unfold evC
    rw [view_set, O.d_lst, O.ds_vals]
    have hn : (NoX : EX) = fun x => x.clean = true ∧ False := by funext x; simp
    rw [← hn]
    exact hp
  refine h3.goSt hpw (fun kv o g3 cs3 h4 sm cn st q => ?_) (fun _ _ _ _ _ _ _ _ z => z.elim)
  obtain ⟨m, j, d, em, b62, ej, edj, hacc, hp2⟩ := q
  obtain ⟨l', us3, c3, hl3, hc3, co3, rs3⟩ := h4.ownO ei' rfl
  rw [hl] at hl3
  obtain rfl : l = l' := by simpa using hl3
  cases co3 with
  | lst hH3 =>
  obtain ⟨as3, rfl⟩ := rs3.vals_inv
  obtain ⟨_, _, _, rk, _⟩ := h4.tmp.head
  have ek' := rk.int_of em
  subst ek'
  obtain ⟨w, ew, aw⟩ := as3.get edj
  have keepD : g3.H D = some (.lst us) := st.keep D _ (s2.keep D _ hD zD) (fun z => by
    rcases s2.zn D z with q | q
    · exact zD q
    · rw [hD] at q; cases q)
  have FD2 : F2 D = none := s2.apart fD hD
  have FD3 : g3.F D = none := st.apart FD2 (s2.keep D _ hD zD)
  have zD3 : ¬ inZ g3.Z D := fun z => by
    rcases st.zn D z with q | q
    · rcases s2.zn D q with q | q
      · exact zD q
      · rw [hD] at q; cases q
    · have := s2.keep D _ hD zD
      rw [this] at q; cases q
  have Dcs3 : ∀ j, D ∉ cs3 j := fun j m => by
    cases j with
    | some j' => rw [sm] at m; exact nD' _ m
    | none =>
      rcases cn D m with q | q
      · exact nD' _ q
      · have := s2.keep D _ hD zD
        rw [this] at q; cases q
  have neD : l ≠ D := fun e => Dcs3 (some i) (by rw [hc3, e]; simp)
  refine ⟨l, us3, m, j, w, rfl, rfl, hH3, by have := b62.1; omega, by have := b62.2; omega, by rw [as3.length]; exact seqIx ej, ew, ?_⟩
  refine ⟨us, by rw [upd_ne neD.symm]; exact keepD, by rw [as.length]; exact hacc, ?_⟩
  have as4 : Ats X.K g3.Z g3.F us acc := (as.mono s2.up s2.zs).mono st.up st.zs
  have h5 := h4.side (u := .lst (us ++ [w])) n0 FD3 zD3 Dcs3
  obtain ⟨cs6, h6, sub6⟩ := h5.putC' (vs' := []) (os' := []) (ct := []) (u' := .lst (us3.eraseIdx j)) (o' := .lst ((ds'.eraseIdx j).map .val)) (c1 := [l]) ei' hl (by rw [hc3]; simp) rfl (.lst upd_same (.vals (as3.erase j))) .nil fun c => by rw [hc3]; simp
  refine ⟨⟨g3.Z, g3.F, upd (upd g3.H D (.lst (us ++ [w]))) l (.lst (us3.eraseIdx j))⟩, cs6, ds'.eraseIdx j, acc ++ [d], us ++ [w], upd_swap neD.symm, ?_, ?_, FD3, zD3, fun j m => ?_, as4.append (.one aw), hp2⟩
  · have h7 := h6.reslot (v := v) (σ' := σ) (by rw [List.set_set, List.getElem?_set_ne niv]; exact ev) (by simp [wipe_length]) (fun j n => by rw [List.getElem?_set_ne (Ne.symm n)]; exact (wipe_get (by simpa using n)).symm)
    rw [List.set_set] at h7
    exact h7
  · rw [upd_same]
  · obtain ⟨j', m'⟩ := sub6 j D m
    exact Dcs3 j' m'
end
end DL
/-! DStm9 -/
namespace DL
open PySem PySem.Spec PyProof.Rows L2
section
variable {X : Cx} {W : WX} {K : PySem.W.Frag} {g0 g : Gh} {env : SEnv} {σ : L2.St} {vs : List V} {os : List O} {cs : Option Nat → List Addr} {i j : Nat} {x y : Str} {e ek : Expr} {we wk : WE} {ws : WA} {pos p p2 tp ap cp : Pos}
theorem ROs.eraseK {Z : Zs} {F H : Hp} : ∀ {ps : List O} {us : List V} {c0 : List Addr} {j : Nat} {p : O}, ROs K Z F H us ps c0 → ps[j]? = some p →
    ∃ w d c', us[j]? = some w ∧ RO K Z F H w p d ∧ ROs K Z F H (us.eraseIdx j) (ps.eraseIdx j) c' ∧ ∀ c, c'.count c + d.count c = c0.count c
  | [], _, _, _, _, _, e => by simp at e
  | q :: ps, _, _, 0, p, .cons (cs := c1) (ds := c2) r t, e => by
    simp only [List.getElem?_cons_zero, Option.some.injEq] at e
    subst e
    exact ⟨_, c1, c2, rfl, r, by simpa using t, fun c => by rw [List.count_append]; omega⟩
  | q :: ps, _, _, j + 1, p, .cons (cs := c1) (ds := c2) r t, e => by
    obtain ⟨w, d, c', h1, h2, h3, h4⟩ := ROs.eraseK (j := j) t (by simpa using e)
    exact ⟨w, d, c1 ++ c', by simpa using h1, h2, by simpa using ROs.cons r h3, fun c => by rw [List.count_append, List.count_append]; have := h4 c; omega⟩
/-- y.pop(e), taken to hand -/
theorem popAt_own (h : SS' K g0 g env σ vs os cs) {ps : List O} {q : O} {kv : V} {ko : O} {n : Int} {jj : Nat} (hh : vs = kv :: [] ∧ os = ko :: []) (e1 : env[i]? = some (some (.lst ps))) (en : ko.d = .int n) (b62 : in62 n) (ej : ixN ps.length n = some jj) (eq : ps[jj]? = some q) {l : Addr} (hl : σ[i]? = some (some (.ref l))) {Q : VK}
    (k : ∀ v g1, SS K g0 g1 (env.set i (some (.lst (ps.eraseIdx jj)))) σ [v] [q] → Q v g1.H) : rPopAt (.ref l) [kv] g.H Q := by
  obtain ⟨rfl, rfl⟩ := hh
  obtain ⟨l', us, c0, q1, q2, q3, q4⟩ := h.own e1
  rw [hl] at q1
  obtain rfl : l = l' := by simpa using q1
  obtain ⟨_, _, _, rk, _⟩ := h.tmp.head
  have ek := rk.int_of en
  subst ek
  obtain ⟨w, d, c', ew, rw_, rs, cnt⟩ := q4.eraseK eq
  have nd := h.nd (some i)
  rw [q3] at nd
  have ln := (List.nodup_cons.mp nd).1
  have sub : ∀ {c}, c ∈ c' ∨ c ∈ d → c ≠ l := fun {c} m z => by
    subst z
    have := cnt c
    have z0 := List.count_eq_zero.mpr ln
    rcases m with m | m
    · have := List.count_pos_iff.mpr m; omega
    · have := List.count_pos_iff.mpr m; omega
  have kp : ∀ c, c ≠ l → ∀ u, g.H c = some u → upd g.H l (.lst (us.eraseIdx jj)) c = some u := fun c n u q => by rw [upd_ne n]; exact q
  refine ⟨l, us, n, jj, w, rfl, rfl, q2, by have := b62.1; omega, by have := b62.2; omega, by rw [q4.length]; exact seqIx ej, ew, k w ⟨g.Z, g.F, upd g.H l (.lst (us.eraseIdx jj))⟩ ?_⟩
  refine h.putC (l := l) (c1 := l :: c') (ct := d ++ []) e1 hl (by rw [q3]; simp) rfl (.lst upd_same (rs.mono (Sub.refl _) (fun _ z => z) fun c m u q => kp c (sub (.inl m)) u q)) (.cons (rw_.mono (Sub.refl _) (fun _ z => z) fun c m u q => kp c (sub (.inr m)) u q) .nil) fun c => ?_
  have := cnt c
  rw [q3, List.count_cons, List.count_cons, List.append_nil]
  omega
/-- x = y.pop(e) -/
def sSetPopAt (j i : Nat) (wk : WE) : WS := fun env D E => ownD env[i]? fun os => evC wk env (fun k => ∃ n jj q, k.d = .int n ∧ in62 n ∧ ixN os.length n = some jj ∧ os[jj]? = some q ∧ j < env.length ∧ D.nx ((env.set i (some (.lst (os.eraseIdx jj)))).set j (some q))) E
theorem ds_setPopAt (hN0 : X.N.Nodup) (hk : DE X W ek wk) (hi : X.N[i]? = some y := by rfl) (hv : Vis X.env.scope y := by first | exact Or.inl rfl | exact Or.inr (Or.inl rfl) | exact Or.inr (Or.inr rfl)) (hd : (y == ("__debug__" : Str)) = false := by decide) (hcd : (y == ("__classdict__" : Str)) = false := by decide)
    (hb : attributeBase (.Name y p) "pop" X.env (eval (.Name y p) X.env) = eval (.Name y p) X.env := by rfl)
    (hfew : ((backTo cp (starEach [ek] X.env)).all (fun x => !x.1) && (backToKw cp (keywordEach [] X.env)).all (fun x => x.1.isSome) && decide ([ek].length + ([] : List Keyword).length + (if ([] : List Keyword).isEmpty then 0 else 1) < 30)) = true := by rfl)
    (hline : (ap.endLine == cp.line) = true := by rfl) (hst : starEach [ek] X.env = (false, eval ek X.env) :: starEach [] X.env := by rfl) (hpl : (backTo cp (starEach [] X.env)).any (·.1) = false := by rfl)
    (hj : X.N[j]? = some x := by rfl) (hx : Loc X.env.scope x := by first | exact Or.inl rfl | exact Or.inr rfl) (hf : X.fn x = true ∨ X.env.scope.names.lookup x = some .local := by first | exact .inl rfl | exact .inr rfl | assumption)
    (hsw : swapsWith (.Call (.Attribute (.Name y p) "pop" ap) [ek] [] cp) (some (.Name x p2)) pos.line X.env = pure false := by rfl) :
    DS X W (.Assign [.Name x p2] (.Call (.Attribute (.Name y p) "pop" ap) [ek] [] cp) pos) (sSetPopAt j i wk) :=
  ps_imp (ps_set (i := j) hN0 hj hx (pe_bm PySem.F.plainAttrs_list PySem.F.slot_list_pop PySem.F.type_list_pop mt_popAt (pe_var hi hv hd hcd) (pa_cons hk pa_nil hst) hb hfew hline hst hpl) hsw hf) fun Dn σ H ⟨g0, g, env, De, Ee, eH, h, hw, k⟩ => by
  subst eH
  obtain ⟨ps, e1, hw⟩ := ownD_inv hw
  obtain ⟨cs, h⟩ := h
  obtain ⟨l, us, c0, q1, q2, q3, q4⟩ := h.own e1
  refine ⟨.ref l, q1, .inl ⟨rfl, us, SqL.of q2⟩, h.goSt hw (fun kv ko g1 cs1 h1 _ _ _ q => ?_) k.ex⟩
  obtain ⟨n, jj, q, en, b62, ej, eq, hjl, hn⟩ := q
  exact popAt_own h1 ⟨rfl, rfl⟩ e1 en b62 ej eq q1 fun v g2 h2 => k.nx g2 _ _ (h2.set (by rw [List.length_set]; exact hjl)) hn
/-- x.append(y.pop(e)) -/
def sAppPopAt (i j : Nat) (wk : WE) : WS := fun env D E => ownD env[i]? fun ps => ownD env[j]? fun os => i ≠ j ∧ evC wk env (fun k => ∃ n jj q, k.d = .int n ∧ in62 n ∧ ixN os.length n = some jj ∧ os[jj]? = some q ∧ ps.length < sizeLine ∧ D.nx ((env.set j (some (.lst (os.eraseIdx jj)))).set i (some (.lst (ps ++ [q]))))) E
theorem ds_appPopAt {p3 ap2 cp2 : Pos} (hk : DE X W ek wk) (hi : X.N[j]? = some y := by rfl) (hv : Vis X.env.scope y := by first | exact Or.inl rfl | exact Or.inr (Or.inl rfl) | exact Or.inr (Or.inr rfl)) (hd : (y == ("__debug__" : Str)) = false := by decide) (hcd : (y == ("__classdict__" : Str)) = false := by decide)
    (hb : attributeBase (.Name y p) "pop" X.env (eval (.Name y p) X.env) = eval (.Name y p) X.env := by rfl)
    (hfew : ((backTo cp (starEach [ek] X.env)).all (fun x => !x.1) && (backToKw cp (keywordEach [] X.env)).all (fun x => x.1.isSome) && decide ([ek].length + ([] : List Keyword).length + (if ([] : List Keyword).isEmpty then 0 else 1) < 30)) = true := by rfl)
    (hline : (ap.endLine == cp.line) = true := by rfl) (hst : starEach [ek] X.env = (false, eval ek X.env) :: starEach [] X.env := by rfl) (hpl : (backTo cp (starEach [] X.env)).any (·.1) = false := by rfl)
    (hN : X.N[i]? = some x := by rfl) (hvx : Vis X.env.scope x := by first | exact Or.inl rfl | exact Or.inr (Or.inl rfl) | exact Or.inr (Or.inr rfl)) (hdx : (x == ("__debug__" : Str)) = false := by decide) (hcdx : (x == ("__classdict__" : Str)) = false := by decide)
    (hb2 : attributeBase (.Name x p3) "append" X.env (eval (.Name x p3) X.env) = eval (.Name x p3) X.env := by rfl)
    (hfew2 : ((backTo cp2 (starEach [.Call (.Attribute (.Name y p) "pop" ap) [ek] [] cp] X.env)).all (fun x => !x.1) && (backToKw cp2 (keywordEach [] X.env)).all (fun x => x.1.isSome) && decide (([.Call (.Attribute (.Name y p) "pop" ap) [ek] [] cp] : List Expr).length + ([] : List Keyword).length + (if ([] : List Keyword).isEmpty then 0 else 1) < 30)) = true := by rfl)
    (hline2 : (ap2.endLine == cp2.line) = true := by rfl) (hst2 : starEach [.Call (.Attribute (.Name y p) "pop" ap) [ek] [] cp] X.env = (false, eval (.Call (.Attribute (.Name y p) "pop" ap) [ek] [] cp) X.env) :: starEach [] X.env := by rfl) (hpl2 : (backTo cp2 (starEach [] X.env)).any (·.1) = false := by rfl)
    (hsw : swapsWith (.Call (.Attribute (.Name x p3) "append" ap2) [.Call (.Attribute (.Name y p) "pop" ap) [ek] [] cp] [] cp2) none pos.line X.env = pure false := by rfl) :
    DS X W (.Expr (.Call (.Attribute (.Name x p3) "append" ap2) [.Call (.Attribute (.Name y p) "pop" ap) [ek] [] cp] [] cp2) pos) (sAppPopAt i j wk) :=
  ps_imp (ps_expr (pe_bm PySem.F.plainAttrs_list PySem.F.slot_list_append PySem.F.type_list_append mt_append (pe_var hN hvx hdx hcdx)
    (pa_cons (pe_bm PySem.F.plainAttrs_list PySem.F.slot_list_pop PySem.F.type_list_pop mt_popAt (pe_var hi hv hd hcd) (pa_cons hk pa_nil hst) hb hfew hline hst hpl) pa_nil hst2) hb2 hfew2 hline2 hst2 hpl2) hsw) fun Dn σ H ⟨g0, g, env, De, Ee, eH, h, hw, k⟩ => by
  subst eH
  obtain ⟨ps, e2, hw⟩ := ownD_inv hw
  obtain ⟨qs, e1, ne, hw⟩ := ownD_inv hw
  obtain ⟨cs, h⟩ := h
  obtain ⟨l2, us2, _, r1, r2, _, _⟩ := h.own e2
  obtain ⟨l, us, c0, q1, q2, q3, q4⟩ := h.own e1
  refine ⟨.ref l2, r1, .inl ⟨rfl, us2, SqL.of r2⟩, .ref l, q1, .inl ⟨rfl, us, SqL.of q2⟩, h.goSt hw (fun kv ko g1 cs1 h1 _ _ _ q => ?_) k.ex⟩
  obtain ⟨n, jj, q, en, b62, ej, eq, hz, hn⟩ := q
  refine popAt_own h1 ⟨rfl, rfl⟩ e1 en b62 ej eq q1 fun v g2 h2 => ?_
  exact app_fin (X := X) (W := W) (De := De) (ps := ps) (by rw [List.getElem?_set_ne (Ne.symm ne)]; exact e2) r1 k v q g2 h2 ⟨hz, hn⟩
inductive Tg where
  | nm (i : Nat)
  | ix (i : Nat) (wi : WE)
def tgX : List Tg → List O → SEnv → (SEnv → Prop) → SEX → Prop
  | [], [], env, Q, _ => Q env
  | .nm i :: ts, o :: os, env, Q, E => i < env.length ∧ tgX ts os (env.set i (some o)) Q E
  | .ix i wi :: ts, o :: os, env, Q, E => ownD env[i]? fun ps => evC wi env (fun k => ∃ n j, k.d = .int n ∧ ixN ps.length n = some j ∧ tgX ts os (env.set i (some (.lst (ps.set j o)))) Q E) E
  | _, _, _, _, _ => False
def tgT (X : Cx) (W : WX) : Tg → TG
  | .nm i => gName i
  | .ix i wi => gSub (tVar i) (LE X W wi) rSetL
def tgTs (X : Cx) (W : WX) : List Tg → TGs
  | [] => gNil
  | t :: ts => gCons (tgT X W t) (tgTs X W ts)
theorem tgx_nil : PGs X [] (tgTs X W []) := pgs_nil
theorem tgx_cons {t : Tg} {ts : List Tg} {es : List Expr} (h : PG X e (tgT X W t)) (r : PGs X es (tgTs X W ts)) (hs : (assignEach (e :: es) X.env).map (·.2) = assign e X.env :: (assignEach es X.env).map (·.2) := by rfl) : PGs X (e :: es) (tgTs X W (t :: ts)) := pgs_cons h r hs
theorem tgx_nm (i : Nat) (hN : X.N.Nodup) (hi : X.N[i]? = some x := by rfl) (hx : Loc X.env.scope x := by first | exact Or.inl rfl | exact Or.inr rfl) (hf : X.fn x = true ∨ X.env.scope.names.lookup x = some .local := by first | exact .inl rfl | exact .inr rfl | assumption) : PG X (.Name x pos) (tgT X W (.nm i)) := pg_name hN hi hx hf
theorem tgx_ix (i : Nat) (hk : DE X W ek wk) (hN : X.N[i]? = some x := by rfl) (hv : Vis X.env.scope x := by first | exact Or.inl rfl | exact Or.inr (Or.inl rfl) | exact Or.inr (Or.inr rfl)) (hd : (x == ("__debug__" : Str)) = false := by decide) (hcd : (x == ("__classdict__" : Str)) = false := by decide)
    (ha : ∀ v, assign (.Subscript (.Name x p) ek tp) X.env v = (do
      let ov ← holding [v] (eval (.Name x p) X.env)
      let iv ← holding [v, ov] (eval ek X.env)
      standAt tp
      holding [v, ov, iv] (setItem ov iv v)
      release [v, ov, iv] []) := by intro _; rfl) : PG X (.Subscript (.Name x p) ek tp) (tgT X W (.ix i wk)) := pg_sub (pe_var hN hv hd hcd) hk set_list ha
/-- the last in hand is stored first: what is in hand stands in order -/
theorem tgx_run {De : DEnds} {Ee : SEX} {Dn : Ends} (k : Lk X.mg X.K W g0 De Ee Dn) : ∀ (ts : List Tg) {vs : List V} {os : List O} {g : Gh} {env : SEnv} {σ : L2.St}, SS X.K g0 g env σ vs os → os.length = ts.length → tgX ts os env De.nx Ee → tgTs X W ts vs σ g.H Dn.nx
  | [], vs, os, g, env, σ, h, hl, q => by
    have hv : vs.length = os.length := by obtain ⟨cs, h⟩ := h; exact h.tmp.length
    cases os with
    | cons o os => simp at hl
    | nil =>
      cases vs with
      | cons v vs => simp at hv
      | nil => exact ⟨rfl, k.nx _ _ _ h q⟩
  | t :: ts, vs, os, g, env, σ, h, hl, q => by
    have hv : vs.length = os.length := by obtain ⟨cs, h⟩ := h; exact h.tmp.length
    cases os with
    | nil => simp at hl
    | cons o os =>
      cases vs with
      | nil => simp at hv
      | cons v vs =>
        simp only [List.length_cons, Nat.add_right_cancel_iff] at hl
        cases t with
        | nm i =>
          obtain ⟨hi, q⟩ := q
          exact ⟨v, vs, rfl, tgx_run k ts (h.set hi) hl q⟩
        | ix i wi =>
          obtain ⟨ps, e1, hw⟩ := ownD_inv q
          have hi : ∃ l, σ[i]? = some (some (.ref l)) := by
            obtain ⟨cs, h⟩ := h
            obtain ⟨l, us, c0, q1, _⟩ := h.own e1
            exact ⟨l, q1⟩
          obtain ⟨l, hi⟩ := hi
          refine ⟨v, vs, rfl, .ref l, hi, h.goC hw (fun kv ko g1 h1 q => ?_) k.ex⟩
          obtain ⟨n, j, en, ej, q⟩ := q
          obtain ⟨cs, h1⟩ := h1
          obtain ⟨l', us, c0, q1, q2, q3, q4⟩ := h1.own e1
          rw [hi] at q1
          obtain rfl : l = l' := by simpa using q1
          obtain ⟨d1, d2, hc1, rk, t1⟩ := h1.tmp.head
          obtain ⟨d3, d4, hc2, rv, t2⟩ := t1.head
          obtain ⟨c', r3, cn3⟩ := ROs.set rv j q4 (ixN_lt ej)
          refine ⟨l, us, n, j, rfl, rk.int_of en, q2, by rw [q4.length]; exact ej, tgx_run k ts (h1.put (vs' := vs) (os' := os) (ct := d4) e1 hi q2 q3 r3 t2 fun c => ?_) hl q⟩
          have := cn3 c
          rw [hc1, hc2]
          simp only [List.count_append]
          omega
def sParX (ts : List Tg) (ws : WA) : WS := fun env D E => evA ws env (fun os => os.length = ts.length ∧ tgX ts os env D.nx E) E
theorem ds_parX {tgs es : List Expr} {k1 k2 : Nat} {p1 p2 : Pos} {ts : List Tg} (hc : X.calm = true) (ha : DA X W es ws) (hg : PGs X tgs (tgTs X W ts)) (hn : (assignEach tgs X.env).length = ts.length := by rfl) (hst : (assignEach tgs X.env).findIdx? (·.1) = none := by rfl) (hz : ts.length ≤ 100 := by decide)
    (hs : swapsWithSole [.Tuple tgs k1 p1] (.Tuple es k2 p2) pos.line X.env = pure false := by rfl) (hw : swappedStores [.Tuple tgs k1 p1] (.Tuple es k2 p2) X.env = pure none := by rfl) (h1 : (assignEach [.Tuple tgs k1 p1] X.env).map (·.2) = [assign (.Tuple tgs k1 p1) X.env] := by rfl) :
    DS X W (.Assign [.Tuple tgs k1 p1] (.Tuple es k2 p2) pos) (sParX ts ws) := ps_imp (ps_asg (pe_tup ha) (pg_tup hc hg hn hst) hs hw h1) fun Dn σ H ⟨g0, g, env, De, Ee, eH, h, hw, k⟩ => by
  subst eH
  show LA X W ws σ g.H fun vs H1 => vs.length ≤ sizeLine ∧ ∀ p, H1 p = none → gTup X.K ts.length (tgTs X W ts) (.ref p) σ (upd H1 p (.tup vs)) Dn.nx
  refine h.goA hw (fun vs os g1 h1 q => ?_) k.ex
  obtain ⟨q1, q2⟩ := q
  have hv : vs.length = os.length := by
    obtain ⟨cs, h1⟩ := h1
    exact h1.tmp.length
  refine ⟨by rw [hv, q1]; exact Nat.le_trans hz (by rw [sizeLine_eq]; decide), fun p n => ?_⟩
  have h2 : SS X.K g0 ⟨g1.Z, g1.F, upd g1.H p (.tup vs)⟩ env σ vs os := by
    obtain ⟨cs, h1⟩ := h1
    exact ⟨cs, h1.step (Step.laid h1.st.ok n)⟩
  exact ⟨p, vs, rfl, SqT.of upd_same, by rw [hv, q1], tgx_run k ts h2 q1 q2⟩
end
end DL
/-! DPrim6 -/
namespace DL
open PySem PySem.Spec PyProof.Rows L2
section
variable {X : Cx} {W : WX} {pos : Pos}
def eDct0 (t : Bool) : WE := fun _ Q _ => Q (.dct t [] [])
@[simp] theorem eDct0_v {t : Bool} {env : DEnv} {Q : O → Prop} {E : EX} : eDct0 t env Q E = Q (.dct t [] []) := rfl
def tDNewN (w : World) : TE := fun _ H Q => ∀ p, H p = none → Q (.ref p) (upd H p (dNo w p []))
theorem dn_empty {P : Program} {w w0 : World} {H : Hp} (h : Heap) (hb : sysModules < h.objs.size) : ObjOk P w H (h.push { cls := .type "dict", data := .dict #[] }) h.objs.size (dNo w0 h.objs.size []) := by
  have e := Heap.get?_push_size h (o := { cls := .type "dict", data := .dict #[] }) rfl
  exact ⟨⟨Nat.zero_le _, beq_eq_false_iff_ne.mpr (Nat.ne_of_gt hb), .nil, fun _ z => by simp at z, _, #[], 0, e, ⟨rfl, rfl, rfl⟩, rfl, .nil⟩, ⟨_, e⟩, fun h1 h2 ⟨x1, x2, x3, x4, o', es', ep', y1, y2⟩ ko => ⟨x1, x2, x3, x4, o', es', ep', ko o' y1, y2⟩⟩
theorem pe_dnewN : PE X (.Dict [] [] pos) (tDNewN X.w) := ⟨fun pins s σ H Q I h =>
  wpAny_Dict_empty ⟨.ref s.heap.objs.size, _, I.laid (a := s.heap.objs.size) (o := dNo X.w s.heap.objs.size []) (t' := s.toks) (fun _ _ q => Heap.get?_push_of_some _ q) (Nat.le_refl _) (dn_empty s.heap I.big), rfl, h _ (I.hok.fresh (Nat.le_refl _))⟩⟩
theorem de_dctF : DE X W (.Dict [] [] pos) (eDct0 false) := pe_imp pe_dnewK fun σ H Q ⟨g, env, Qd, Ed, eH, es, hw, k, kx⟩ => by
  subst eH
  exact fun p n => k _ _ _ (Step.laid es.ok n) ⟨[p], .dctK (kvs := []) upd_same .nil .nil, by simp, fun c m => by
    obtain rfl : c = p := by simpa using m
    exact ⟨es.ok.noF n, n, es.ok.noZ n⟩⟩ hw
theorem de_dctT : DE X W (.Dict [] [] pos) (eDct0 true) := pe_imp pe_dnewN fun σ H Q ⟨g, env, Qd, Ed, eH, es, hw, k, kx⟩ => by
  subst eH
  exact fun p n => k _ _ _ (Step.laid es.ok n) ⟨[p], .dctT (kvs := []) upd_same .nil .nil rfl .nil, by simp, fun c m => by
    obtain rfl : c = p := by simpa using m
    exact ⟨es.ok.noF n, n, es.ok.noZ n⟩⟩ hw
end
def lenXD : List D → PQ
  | [.dct _ ks _] => fun Q => Q (.val (.int ks.length))
  | ds => lenD ds
@[simp] theorem lenXD_dct {t : Bool} {ks vs : List D} {Q : O → Prop} : lenXD [.dct t ks vs] Q = Q (.val (.int ks.length)) := rfl
@[simp] theorem lenXD_tup {ds : List D} {Q : O → Prop} : lenXD [.tup ds] Q = Q (.val (.int ds.length)) := rfl
@[simp] theorem lenXD_lst {ds : List D} {Q : O → Prop} : lenXD [.lst ds] Q = Q (.val (.int ds.length)) := rfl
@[simp] theorem lenXD_T {α : Type} [Enc α] {l : List α} {Q : O → Prop} : lenXD [T l] Q = Q (.val (.int l.length)) := lenD_T
@[simp] theorem lenXD_L {α : Type} [Enc α] {l : List α} {Q : O → Prop} : lenXD [L l] Q = Q (.val (.int l.length)) := lenD_L
def rLenX (K : PySem.W.Frag) : List V → Hp → VK → Prop := fun xs H Q => rLenD K xs H Q ∨ ∃ (g : Gh) (v : V) (t : Bool) (ks vs : List D), g.H = H ∧ g.Ok ∧ xs = [v] ∧ At K g.Z g.F v (.dct t ks vs) ∧ Q (.int ks.length) H
theorem call_lenX {X : Cx} : CallR X (.builtin "len") (rLenX X.K) := by
  intro pins s σ H xs us Q I r h
  rcases h with h | ⟨g, v, t, ks, vs, eH, ok, rfl, a, q⟩
  · exact call_lenD' pins s σ H xs us Q I r h
  · subst eH
    obtain ⟨u, rfl, ru⟩ := vals1 r
    cases a with
    | dctK h hs =>
      cases ru
      refine d_len I (ok.sub.rd h) fun t s' I' => ⟨.int _, g.H, I', ⟨t, rfl⟩, ?_⟩
      simpa using q
    | @dctT a w0 kvs _ _ h hk e hs =>
      cases ru
      obtain ⟨xs, i1, i2, i3, i4, _⟩ := dn_open I ok.sub (ok.sub _ _ h) hk e
      have l1 := Paired.length i1
      have l2 : ks.length = kvs.length := by have := congrArg List.length e; simpa using this
      refine call_len_dictH (knd := nestedKind X.prog X.w) i4 i2 (by rw [← l1]; have := sizeLine_eq; omega) ⟨.int xs.length, g.H, I.tok _, ⟨_, rfl⟩, ?_⟩
      rw [← l1, ← l2]
      exact q
theorem cd_lenX {K : PySem.W.Frag} : CallD K (rLenX K) lenXD := by
  intro g vs ds Qd Q ok ha hw k
  unfold lenXD at hw
  split at hw
  · obtain ⟨v, rfl, a⟩ := ha.one_inv
    exact .inr ⟨g, v, _, _, _, rfl, ok, rfl, a, k _ _ g ok.refl (.val (.int _)) hw⟩
  · exact .inl (cd_len g vs ds Qd Q ok ha hw k)
def dctOf (ps : List (D × D)) : List D × List D := ps.foldl (fun a p => (putKs a.1 p.1, putVs a.1 a.2 p.1 p.2)) ([], [])
def dictD : List D → PQ
  | [.lst ds] => fun Q => ∃ ps : List (D × D), ds = ps.map (fun p => .tup [p.1, p.2]) ∧ (∀ p ∈ ps, keyT false p.1 = true) ∧ Q (.dct false (dctOf ps).1 ((dctOf ps).2.map .val))
  | _ => fun _ => False
theorem merge_sides : ∀ (more : List (Key × V)) (kvs : List (Key × V)), (kvs.map (·.1)).Nodup → ((mergeK kvs more).map (·.1)).Nodup
  | [], _, h => h
  | p :: more, kvs, h => merge_sides more (putK kvs p.1 p.2) (putK_sides h).2.2
theorem cd_dict {K : PySem.W.Frag} : CallD K (fun xs H Q => ∃ (a : Addr) (ps : List Addr) (kvs : List (Key × V)), xs = [.ref a] ∧ SqL K H a (ps.map V.ref) ∧ Paired (fun p kv => SqT K H p [kV kv.1, kv.2]) ps kvs ∧ ∀ p, H p = none → Q (.ref p) (upd H p (.dK (mergeK [] kvs)))) dictD := by
  intro g vs ds Qd Q ok ha hw k
  unfold dictD at hw
  split at hw
  · obtain ⟨v, rfl, a⟩ := ha.one_inv
    obtain ⟨q, us, rfl, hq, as⟩ := a.lst_inv
    obtain ⟨ps, rfl, kt, hQ⟩ := hw
    have go : ∀ (ps : List (D × D)) (us : List V), (∀ p ∈ ps, keyT false p.1 = true) → Ats K g.Z g.F us (ps.map fun p => .tup [p.1, p.2]) → ∃ (qs : List Addr) (kvs : List (Key × V)), us = qs.map V.ref ∧ Paired (fun p kv => SqT K g.H p [kV kv.1, kv.2]) qs kvs ∧ ps.map (·.1) = (kvs.map fun p => kD p.1) ∧ Ats K g.Z g.F (kvs.map (·.2)) (ps.map (·.2)) := by
      intro ps
      induction ps with
      | nil => intro us _ h; cases h; exact ⟨[], [], rfl, .nil, rfl, .nil⟩
      | cons p ps ih =>
        intro us kt h
        cases h with
        | cons a as =>
          obtain ⟨qs, kvs, h1, h2, h3, h4⟩ := ih _ (fun z hz => kt z (List.mem_cons_of_mem _ hz)) as
          obtain ⟨q, xs, rfl, hq, bs⟩ := a.tup_inv
          obtain ⟨v1, v2, rfl, b1, b2⟩ := bs.two_inv
          obtain ⟨key, ek⟩ := keyT_f (kt p (List.mem_cons_self ..))
          rw [ek] at b1
          refine ⟨q :: qs, (key, v2) :: kvs, by rw [h1]; rfl, .cons ?_ h2, by simp [h3, ek], .cons b2 h4⟩
          rw [← b1.key]
          exact ok.sub.sqT hq
    obtain ⟨qs, kvs, rfl, h2, h3, h4⟩ := go ps us kt as
    refine ⟨q, qs, kvs, rfl, SqL.of (ok.sub _ _ hq), h2, fun p n => ?_⟩
    have fold : ∀ (kvs acc : List (Key × V)) (ps : List (D × D)) (A : List D × List D), (acc.map (·.1)).Nodup → A.1 = (acc.map fun p => kD p.1) → Ats K g.Z g.F (acc.map (·.2)) A.2 → ps.map (·.1) = (kvs.map fun p => kD p.1) → Ats K g.Z g.F (kvs.map (·.2)) (ps.map (·.2)) →
        (ps.foldl (fun a p => (putKs a.1 p.1, putVs a.1 a.2 p.1 p.2)) A).1 = ((mergeK acc kvs).map fun p => kD p.1) ∧ Ats K g.Z g.F ((mergeK acc kvs).map (·.2)) (ps.foldl (fun a p => (putKs a.1 p.1, putVs a.1 a.2 p.1 p.2)) A).2 := by
      intro kvs
      induction kvs with
      | nil =>
        intro acc ps A nd e1 e2 e3 e4
        have : ps = [] := by simpa using e3
        subst this
        exact ⟨e1, e2⟩
      | cons kv kvs ih =>
        intro acc ps A nd e1 e2 e3 e4
        cases ps with
        | nil => simp at e3
        | cons p ps =>
          simp only [List.map_cons, List.cons.injEq] at e3
          cases e4 with
          | cons b bs =>
            obtain ⟨s1, s2, s3⟩ := putK_sides (k := kv.1) (v := kv.2) nd
            have hl : (A.1).length = (acc.map (·.2)).length := by rw [e1]; simp
            refine ih (putK acc kv.1 kv.2) ps (putKs A.1 p.1, putVs A.1 A.2 p.1 p.2) s3 ?_ ?_ e3.2 bs
            · show putKs A.1 p.1 = _
              rw [s1, e1, e3.1]
            · show Ats K g.Z g.F _ (putVs A.1 A.2 p.1 p.2)
              rw [s2, ← e1, ← e3.1]
              unfold putVs
              cases posD A.1 p.1 with
              | none => exact e2.append (.one b)
              | some j =>
                have setA : ∀ {vs : List V} {ds : List DL.D} (j : Nat), Ats K g.Z g.F vs ds → Ats K g.Z g.F (vs.set j kv.2) (ds.set j p.2) := by
                  intro vs ds j h
                  induction j generalizing vs ds with
                  | zero => cases h with | nil => simpa using Ats.nil | cons a t => simpa using Ats.cons b t
                  | succ j ih => cases h with | nil => simpa using Ats.nil | cons a t => simpa using Ats.cons a (ih t)
                exact setA j e2
    obtain ⟨f1, f2⟩ := fold kvs [] ps ([], []) .nil rfl .nil h3 h4
    refine k _ _ _ (Step.laid ok n) ⟨[p], ?_, by simp, fun c m => by
      obtain rfl : c = p := by simpa using m
      exact ⟨ok.noF n, n, ok.noZ n⟩⟩ hQ
    show RO K g.Z g.F _ _ (.dct false (dctOf ps).1 _) _
    unfold dctOf
    rw [f1]
    exact .dctK upd_same (merge_sides kvs [] .nil) (.vals f2)
  · exact hw.elim
theorem u9 {X : Cx} {k : Nat} (G : Good X k) : X.A.units + 9 < cLine := by have := G.room.un; omega
theorem u65 {X : Cx} {k : Nat} (G : Good X k) : X.A.units + 65 < cLine := by have := G.room.un; omega
theorem bt_dict : bootBuiltins "dict" = some (.type "dict") := by decide +kernel
end DL
/-! DSim2 -/
namespace DL
open PySem PySem.Spec PyProof.Rows L2
theorem loop_inv {α : Type} {e : α → D} {p : Pat} {s : WS} {De : DEnds} {Ee : SEX} (I : List α → SEnv → Prop)
    (step : ∀ a rest env, I (a :: rest) env → ∃ env', p.bind O.val (e a) env = some env' ∧ ∀ N : SEnv → Prop, (∀ e, I rest e → N e) → s env' { nx := N, rt := De.rt, bk := De.nx, ct := N } Ee)
    (fin : ∀ env, I [] env → De.nx env) : ∀ (l : List α) (env : SEnv), I l env → loopD p s De Ee (l.map e) env
  | [], env, h => by simpa using fin env h
  | a :: rest, env, h => by
    rw [List.map_cons, loopD_cons]
    obtain ⟨env', h1, h2⟩ := step a rest env h
    exact ⟨env', h1, h2 _ fun e q => loop_inv I step fin rest e q⟩
/-- a loop whose body tells nothing of what is left -/
theorem loop_any {p : Pat} {s : WS} {De : DEnds} {Ee : SEX} (I : SEnv → Prop) (A : D → Prop)
    (step : ∀ d env, A d → I env → ∃ env', p.bind O.val d env = some env' ∧ ∀ N : SEnv → Prop, (∀ e, I e → N e) → s env' { nx := N, rt := De.rt, bk := De.nx, ct := N } Ee)
    (fin : ∀ env, I env → De.nx env) : ∀ (l : List D) (env : SEnv), (∀ d ∈ l, A d) → I env → loopD p s De Ee l env
  | [], env, _, h => fin env h
  | a :: rest, env, ha, h => by
    rw [loopD_cons]
    obtain ⟨env', h1, h2⟩ := step a env (ha a (List.mem_cons_self ..)) h
    exact ⟨env', h1, h2 _ fun e q => loop_any I A step fin rest e (fun d hd => ha d (List.mem_cons_of_mem _ hd)) q⟩
@[simp] theorem vv_val {d : D} : vv (some (.val d)) = some d := rfl
@[simp] theorem vv_none : vv none = none := rfl
@[simp] theorem vv_lst {os : List O} : vv (some (.lst os)) = none := rfl
@[simp] theorem vv_dct {t : Bool} {ks : List D} {os : List O} : vv (some (.dct t ks os)) = none := rfl
@[simp] theorem vv_Ow {α : Type} [Enc α] {l : List α} : vv (some (Ow l)) = none := rfl
theorem while_inv {α : Type} {t : WT} {s : WS} {env : SEnv} {De : DEnds} {Ee : SEX} (μ : α → Nat) (I : α → SEnv → Prop) (a0 : α) (h0 : I a0 env)
    (step : ∀ a env, I a env → ∀ N : SEnv → Prop, (∀ a' e, μ a' < μ a → I a' e → N e) → t (view env) (fun b => if b = true then s env { nx := N, rt := De.rt, bk := De.nx, ct := N } Ee else De.nx env) (fun x => x.clean = true ∧ Ee x env)) : sWhile t s env De Ee := by
  refine ⟨fun m e => ∃ a, μ a = m ∧ I a e, ⟨_, a0, rfl, h0⟩, ?_⟩
  rintro m e ⟨a, rfl, h⟩
  exact step a e h _ fun a' e' l i => ⟨_, l, a', rfl, i⟩
section
variable {env : DEnv} {Q : O → Prop} {E : EX} {w wa wb : WE}
@[simp] theorem eIsi_v {k : Kd} : eIsi k w env Q E = w env (fun o => Q (.val (.bl (isK k o.d)))) E := rfl
@[simp] theorem mth_T {α : Type} [Enc α] {fl ft : List D → D → PQ} {l : List α} {a : D} : mth fl ft (T l) a Q = ft (l.map Enc.enc) a Q := rfl
@[simp] theorem mth_L {α : Type} [Enc α] {fl ft : List D → D → PQ} {l : List α} {a : D} : mth fl ft (L l) a Q = fl (l.map Enc.enc) a Q := rfl
@[simp] theorem seqD_tup {ds : List D} : seqD (.tup ds) := trivial
@[simp] theorem seqD_lst {ds : List D} : seqD (.lst ds) := trivial
@[simp] theorem seqD_T {α : Type} [Enc α] {l : List α} : seqD (T l) := trivial
@[simp] theorem seqD_L {α : Type} [Enc α] {l : List α} : seqD (L l) := trivial
@[simp] theorem countF_v {ds : List D} {a : D} : countF ds a Q = (okE a ∧ okE (.lst ds) ∧ Q (.val (.int (ds.countP fun z => eqB z a : Nat)))) := rfl
@[simp] theorem indexF_v {ds : List D} {a : D} : indexF ds a Q = (okE a ∧ okE (.lst ds) ∧ ∃ j, ds.findIdx? (fun z => eqB z a) = some j ∧ Q (.val (.int (j : Nat)))) := rfl
@[simp] theorem eq0D_ll {ds : List D} : eq0D (.lst ds) (.lst []) Q = Q (.val (.bl ds.isEmpty)) := rfl
@[simp] theorem eq0D_tt {ds : List D} : eq0D (.tup ds) (.tup []) Q = Q (.val (.bl ds.isEmpty)) := rfl
@[simp] theorem ne0D_ll {ds : List D} : ne0D (.lst ds) (.lst []) Q = Q (.val (.bl (!ds.isEmpty))) := rfl
@[simp] theorem ne0D_tt {ds : List D} : ne0D (.tup ds) (.tup []) Q = Q (.val (.bl (!ds.isEmpty))) := rfl
@[simp] theorem eq0D_L {α : Type} [Enc α] {l : List α} : eq0D (L l) (.lst []) Q = Q (.val (.bl l.isEmpty)) := by rw [L_def, eq0D_ll]; cases l <;> rfl
@[simp] theorem eq0D_T {α : Type} [Enc α] {l : List α} : eq0D (T l) (.tup []) Q = Q (.val (.bl l.isEmpty)) := by rw [T_def, eq0D_tt]; cases l <;> rfl
@[simp] theorem ne0D_L {α : Type} [Enc α] {l : List α} : ne0D (L l) (.lst []) Q = Q (.val (.bl (!l.isEmpty))) := by rw [L_def, ne0D_ll]; cases l <;> rfl
@[simp] theorem ne0D_T {α : Type} [Enc α] {l : List α} : ne0D (T l) (.tup []) Q = Q (.val (.bl (!l.isEmpty))) := by rw [T_def, ne0D_tt]; cases l <;> rfl
theorem any_eqB {α : Type} [Enc α] [DecidableEq α] (l : List α) (a : α) : ((l.map Enc.enc).any fun z => eqB z (Enc.enc a)) = decide (a ∈ l) := by
  induction l with
  | nil => simp
  | cons x l ih =>
    simp only [List.map_cons, List.any_cons, ih, eqB_dec, List.mem_cons]
    by_cases h : x = a
    · simp [h]
    · have h' : ¬ a = x := fun q => h q.symm
      simp [h, h']
theorem any_eqI (l : List Int) (a : Int) : ((l.map Enc.enc).any fun z => eqB z (.int a)) = decide (a ∈ l) := any_eqB l a
theorem okDs_enc {α : Type} [Enc α] (l : List α) {n : Nat} (h : Enc.dep α ≤ n) : okDs n (l.map Enc.enc) = true := okDs_map (fun a => okD_mono _ _ _ (Enc.ok a) h) l
theorem inXD_TI {n : Bool} {a : Int} {l : List Int} : inXD n (.int a) (T l) Q ↔ Q (.val (.bl (n ^^ decide (a ∈ l)))) := by
  rw [T_def, inXD_tup, any_eqI]
  simp [okDs_enc (α := Int) l (n := 7) (by decide)]
theorem inXD_LI {n : Bool} {a : Int} {l : List Int} : inXD n (.int a) (L l) Q ↔ Q (.val (.bl (n ^^ decide (a ∈ l)))) := by
  rw [L_def, inXD_lst, any_eqI]
  simp [okDs_enc (α := Int) l (n := 7) (by decide)]
end
theorem szl {n : Nat} (h : n ≤ 10000000) : n ≤ sizeLine := by rw [sizeLine_eq]; omega
theorem szt {n : Nat} (h : n ≤ 10000000) : n < sizeLine := by rw [sizeLine_eq]; omega
end DL
/-! DGood -/
namespace DL
open PySem PySem.Spec PyProof.Rows L2
def Gd (k c : Nat) (d : D) : Prop := okR k d = true ∧ shw d = true ∧ cost d ≤ c
def Gds (k c : Nat) (ds : List D) : Prop := ∀ x ∈ ds, Gd k c x
theorem okR_le {k l : Nat} (h : k ≤ l) : ∀ {d : D}, okR k d = true → okR l d = true := by
  have key : ∀ (k : Nat), ∀ d : D, okR k d = true → okR (k + 1) d = true := by
    intro k
    induction k with
    | zero =>
      intro d hd
      cases d with
      | non => simp
      | bl b => simp
      | int i => simp
      | str s => simpa using hd
      | tup xs => simp [okR] at hd
      | lst xs => simp [okR] at hd
      | dct t ks vs => obtain ⟨_, _, h⟩ := okR_dct_inv hd; omega
      | src => simp [okR] at hd
      | scr ns => simp [okR] at hd
    | succ k ih =>
      intro d hd
      cases d with
      | non => simp
      | bl b => simp
      | int i => simp
      | str s => simpa using hd
      | tup xs =>
        rw [okR_tup, okRs_iff] at hd ⊢
        exact fun x hx => ih x (hd x hx)
      | lst xs =>
        rw [okR_lst, okRs_iff] at hd ⊢
        exact fun x hx => ih x (hd x hx)
      | dct t ks vs => obtain ⟨rfl, rfl, _⟩ := okR_dct_inv hd; simp
      | src => simp [okR] at hd
      | scr ns => simp [okR] at hd
  intro d hd
  induction h with
  | refl => exact hd
  | step _ ih => exact key _ _ ih
theorem Gd.mono {k l c e : Nat} {d : D} (h : Gd k c d) (hk : k ≤ l) (hc : c ≤ e) : Gd l e d := ⟨okR_le hk h.1, h.2.1, Nat.le_trans h.2.2 hc⟩
theorem Gds.mono {k l c e : Nat} {ds : List D} (h : Gds k c ds) (hk : k ≤ l) (hc : c ≤ e) : Gds l e ds := fun x hx => (h x hx).mono hk hc
theorem Gd.tup {k c : Nat} {ds : List D} (h : Gds k c ds) : Gd (k + 1) (ds.length * (c + 2) + 3) (.tup ds) := by
  refine ⟨?_, ?_, ?_⟩
  · rw [okR_tup, okRs_iff]
    exact fun x hx => (h x hx).1
  · rw [shw_tup, shws_iff]
    exact fun x hx => (h x hx).2.1
  · rw [cost_tup]
    have := costs_le (m := c) fun x hx => (h x hx).2.2
    omega
theorem Gd.lst {k c : Nat} {ds : List D} (h : Gds k c ds) : Gd (k + 1) (ds.length * (c + 2) + 3) (.lst ds) := by
  refine ⟨?_, ?_, ?_⟩
  · rw [okR_lst, okRs_iff]
    exact fun x hx => (h x hx).1
  · rw [shw_lst, shws_iff]
    exact fun x hx => (h x hx).2.1
  · rw [cost_lst]
    have := costs_le (m := c) fun x hx => (h x hx).2.2
    omega
theorem Gd.int {k c : Nat} {i : Int} (hi : i.natAbs < 1000000000) (hc : 10 ≤ c) : Gd k c (.int i) := by
  refine ⟨by simp, ?_, by rw [cost_int_sm hi]; exact hc⟩
  rw [shw_int, decide_eq_true_eq]
  by_cases z : i.natAbs = 0
  · rw [z]; decide
  · have := (Nat.log2_lt (k := 64) z).mpr (by omega)
    omega
theorem Gd.non {k c : Nat} (hc : 5 ≤ c) : Gd k c .non := ⟨by simp, by simp, by simpa using hc⟩
theorem Gd.bl {k c : Nat} {b : Bool} (hc : 5 ≤ c) : Gd k c (.bl b) := ⟨by simp, by simp, by simpa using hc⟩
theorem Gd.ints {k c : Nat} {l : List Int} (h : ∀ x ∈ l, x.natAbs < 1000000000) (hc : 10 ≤ c) : Gds k c (l.map Enc.enc) := fun x hx => by
  obtain ⟨a, ha, rfl⟩ := List.mem_map.mp hx
  exact .int (h a ha) hc
theorem Gd.T {k : Nat} {l : List Int} (h : ∀ x ∈ l, x.natAbs < 1000000000) : Gd (k + 1) (l.length * 12 + 3) (T l) := by
  have := Gd.tup (k := k) (Gd.ints h (Nat.le_refl 10))
  rwa [List.length_map] at this
theorem Gd.L {k : Nat} {l : List Int} (h : ∀ x ∈ l, x.natAbs < 1000000000) : Gd (k + 1) (l.length * 12 + 3) (L l) := by
  have := Gd.lst (k := k) (Gd.ints h (Nat.le_refl 10))
  rwa [List.length_map] at this
theorem Gds.nil {k c : Nat} : Gds k c [] := fun x h => by simp at h
theorem Gds.cons {k c : Nat} {d : D} {ds : List D} (h : Gd k c d) (r : Gds k c ds) : Gds k c (d :: ds) := fun x hx => by
  rcases List.mem_cons.mp hx with rfl | hx
  · exact h
  · exact r x hx
theorem Gds.app {k c : Nat} {ds es : List D} (h : Gds k c ds) (r : Gds k c es) : Gds k c (ds ++ es) := fun x hx => (List.mem_append.mp hx).elim (h x) (r x)
theorem Gds.sub {k c : Nat} {ds es : List D} (h : Gds k c es) (s : ∀ x ∈ ds, x ∈ es) : Gds k c ds := fun x hx => h x (s x hx)
theorem Gd.okP {k c : Nat} {d : D} (h : Gd k c d) (hk : k ≤ 8) : okP d := okR_le hk h.1
/-- repr of small data -/
theorem reprG {k c : Nat} {d : D} (h : Gd k c d) (hk : k ≤ 8) (hc : c ≤ 10000000) {Q : O → Prop} : reprD [d] Q ↔ Q (.val (.str (shown d))) := by
  rw [reprD_v]
  exact ⟨fun h => h.2.2.2, fun q => ⟨h.okP hk, h.2.1, Nat.le_trans h.2.2 (szl hc), q⟩⟩
theorem cut_len {α : Type} (l : List α) (lo hi : Option Int) : (cut l lo hi).length ≤ l.length := by
  unfold cut
  rw [List.length_take, List.length_drop]
  omega
theorem cut_sub {α : Type} (l : List α) (lo hi : Option Int) : ∀ x ∈ cut l lo hi, x ∈ l := fun x hx => List.mem_of_mem_drop (List.mem_of_mem_take hx)
/-- what `_law_bent` may give -/
structure BentOk (odd : List D) (v : D) (P : D → Prop) : Prop where
  o : ∀ x ∈ odd, P x
  t : ∀ ds, v = .tup ds → ∀ es : List D, es.length ≤ 2 * ds.length + 1 → (∀ x ∈ es, x ∈ odd ∨ x ∈ ds) → P (.tup es) ∧ P (.lst es)
theorem ds_bls (g : D → Bool) (ds : List D) : O.ds (ds.map fun d => O.val (.bl (g d))) = (ds.map g).map Enc.enc := by
  induction ds with
  | nil => rfl
  | cons d ds ih => simp only [List.map_cons, O.ds_cons, ih]; rfl
theorem allD_told {Q : O → Prop} (g : D → Bool) (ds : List D) : allD [.lst (O.ds (ds.map fun d => O.val (.bl (g d))))] Q ↔ Q (.val (.bl (ds.all g))) := by
  rw [ds_bls]
  have := allD_L (Q := Q) (l := ds.map g)
  rw [List.all_map] at this
  exact this
theorem ds_vals (ds : List D) : O.ds (ds.map O.val) = ds := by
  induction ds with
  | nil => rfl
  | cons d ds ih => simp only [List.map_cons, O.ds_cons, ih]; rfl
theorem filter_isE (g : D → Bool) (ds : List D) : (ds.filter fun d => !g d).isEmpty = ds.all g := by
  induction ds with
  | nil => rfl
  | cons d ds ih =>
    cases h : g d
    · rw [List.filter_cons_of_pos (by simp [h])]
      simp [h]
    · rw [List.filter_cons_of_neg (by simp [h]), ih]
      simp [h]
theorem filter_nil (g : D → Bool) (ds : List D) : (O.ds ((ds.filter fun d => !g d).map fun d => O.val d) = []) = (ds.all g = true) := by
  rw [show (fun d => O.val d) = O.val from rfl, ds_vals, ← filter_isE, List.isEmpty_iff]
/-- a comprehension of data of a kind -/
theorem lcD_kind {p : Pat} {we : WE} {env : DEnv} {Q : List O → Prop} (P : D → Prop) : ∀ (ds acc : List D), (∀ b ∈ acc, P b) → (∀ a ∈ ds, ∀ R : O → Prop, (∀ d, P d → R (.val d)) → ∃ env', p.bind id a env = some env' ∧ we env' R NoX) → acc.length + ds.length ≤ sizeLine →
    (∀ r : List D, r.length = acc.length + ds.length → (∀ b ∈ r, P b) → Q (r.map .val)) → lcD p wYes we env ds (acc.map .val) Q
  | [], acc, ha, _, _, hq => hq acc (by simp) ha
  | d :: ds, acc, ha, h, hl, hq => by
    rw [lcD_cons]
    simp only [List.length_cons] at hl hq
    obtain ⟨env', h1, h2⟩ := h d (List.mem_cons_self ..) (fun o => acc.length < sizeLine ∧ lcD p wYes we env ds (acc.map O.val ++ [o]) Q) fun b hb => by
      refine ⟨by omega, ?_⟩
      have := lcD_kind (p := p) (we := we) (env := env) (Q := Q) P ds (acc ++ [b]) (fun c hc => by
        rcases List.mem_append.mp hc with hc | hc
        · exact ha c hc
        · obtain rfl := List.mem_singleton.mp hc
          exact hb) (fun d hd => h d (List.mem_cons_of_mem _ hd)) (by simp; omega) fun r hr => hq r (by simp at hr; omega)
      rw [List.map_append] at this
      exact this
    refine ⟨env', h1, ?_⟩
    simp only [wYes_v, if_pos, List.length_map]
    exact h2
theorem isK_tuple {v : D} : isK .tuple v = true ↔ ∃ ds, v = .tup ds := by
  cases v <;> simp [isK]
theorem isK_tuple_no {v : D} (h : ¬ ∃ ds, v = .tup ds) : isK .tuple v = false := by
  rw [Bool.eq_false_iff]
  exact fun e => h (isK_tuple.mp e)
@[simp] theorem isK_tup_tup {ds : List D} : isK .tuple (.tup ds) = true := rfl
@[simp] theorem isK_tup_T {α : Type} [Enc α] {l : List α} : isK .tuple (T l) = true := rfl
@[simp] theorem isK_int_int {i : Int} : isK .int (.int i) = true := rfl
@[simp] theorem isK_bool_int {i : Int} : isK .bool (.int i) = false := rfl
@[simp] theorem isK_int_bl {i : Bool} : isK .int (.bl i) = true := rfl
@[simp] theorem isK_bool_bl {i : Bool} : isK .bool (.bl i) = true := rfl
theorem isK_int_cases (v : D) : (∃ i, v = .int i) ∨ (∃ b, v = .bl b) ∨ isK .int v = false := by
  cases v <;> simp [isK]
end DL
/-! DPrim7 -/
namespace DL
open PySem PySem.Spec PyProof.Rows L2
def mergeN (kvs more : List (NestedKey × Addr × V)) : List (NestedKey × Addr × V) := more.foldl (fun acc p => putN acc p.1 p.2.1 p.2.2) kvs
theorem mergeN_pair : ∀ {more : List (NestedKey × Addr × V)} {ys : List (NestedKey × Addr × Value)} {kvs : List (NestedKey × Addr × V)} {xs : List (NestedKey × Addr × Value)}, Paired PrN more ys → Paired PrN kvs xs → Paired PrN (mergeN kvs more) (storedAllH xs ys)
  | _, _, _, _, .nil, h => h
  | _, _, kvs, xs, .cons (a := p) (b := y) r t, h => by
    have := pair_put h p.1 p.2.1 r.2.2
    rw [← r.1, ← r.2.1] at this
    have e := mergeN_pair t this
    show Paired PrN (mergeN (putN kvs p.1 p.2.1 p.2.2) _) (storedAllH (storedH xs y.1 y.2.1 y.2.2) _)
    rw [← r.1, ← r.2.1]
    exact e
theorem mergeN_nodup : ∀ (more kvs : List (NestedKey × Addr × V)), (kvs.map (·.1)).Nodup → ((mergeN kvs more).map (·.1)).Nodup
  | [], _, h => h
  | p :: more, kvs, h => mergeN_nodup more (putN kvs p.1 p.2.1 p.2.2) (putN_nodup h)
theorem mergeN_len : ∀ (more kvs : List (NestedKey × Addr × V)), (mergeN kvs more).length ≤ kvs.length + more.length
  | [], kvs => Nat.le_refl _
  | p :: more, kvs => by
    have h1 := mergeN_len more (putN kvs p.1 p.2.1 p.2.2)
    have h2 := putN_len kvs p.1 p.2.1 p.2.2
    simp only [List.length_cons]
    show (mergeN (putN kvs p.1 p.2.1 p.2.2) more).length ≤ _
    omega
theorem mergeN_keys {P : NestedKey → Prop} : ∀ (more kvs : List (NestedKey × Addr × V)), (∀ p ∈ kvs, P p.1) → (∀ p ∈ more, P p.1) → ∀ p ∈ mergeN kvs more, P p.1
  | [], _, h, _ => h
  | p :: more, kvs, h, hm => mergeN_keys more (putN kvs p.1 p.2.1 p.2.2) (fun q hq => by
      rcases mem_putN hq with z | ⟨c, hc, z⟩
      · rw [z]; exact hm p (List.mem_cons_self ..)
      · rw [← z]; exact h c hc) fun q hq => hm q (List.mem_cons_of_mem _ hq)
/-- keys and values, as data -/
theorem mergeN_sides {K : PySem.W.Frag} {Z : Zs} {F : Hp} : ∀ (more kvs : List (NestedKey × Addr × V)) (ps : List (D × D)) (A : List D × List D), (kvs.map (·.1)).Nodup → Ats K Z F (kvs.map fun p => .ref p.2.1) A.1 → (A.1.map nkD = kvs.map fun p => some p.1) → Ats K Z F (kvs.map (·.2.2)) A.2 →
    Ats K Z F (more.map fun p => .ref p.2.1) (ps.map (·.1)) → ((ps.map (·.1)).map nkD = more.map fun p => some p.1) → Ats K Z F (more.map (·.2.2)) (ps.map (·.2)) →
    Ats K Z F ((mergeN kvs more).map fun p => .ref p.2.1) (ps.foldl (fun a p => (putKs a.1 p.1, putVs a.1 a.2 p.1 p.2)) A).1 ∧ ((ps.foldl (fun a p => (putKs a.1 p.1, putVs a.1 a.2 p.1 p.2)) A).1.map nkD = (mergeN kvs more).map fun p => some p.1) ∧
      Ats K Z F ((mergeN kvs more).map (·.2.2)) (ps.foldl (fun a p => (putKs a.1 p.1, putVs a.1 a.2 p.1 p.2)) A).2
  | [], kvs, ps, A, nd, h1, h2, h3, _, g2, _ => by
    have : ps = [] := by simpa using g2
    subst this
    exact ⟨h1, h2, h3⟩
  | m :: more, kvs, [], A, nd, h1, h2, h3, _, g2, _ => by simp at g2
  | m :: more, kvs, p :: ps, A, nd, h1, h2, h3, g1, g2, g3 => by
    simp only [List.map_cons, List.cons.injEq] at g2
    cases g1 with
    | cons a as =>
      cases g3 with
      | cons b bs =>
        obtain ⟨s1, s2, s3⟩ := putN_sides (v := m.2.2) nd h2 g2.1 h1 a
        refine mergeN_sides more (putN kvs m.1 m.2.1 m.2.2) ps (putKs A.1 p.1, putVs A.1 A.2 p.1 p.2) (putN_nodup nd) s1 s2 ?_ as g2.2 bs
        show Ats K Z F _ (putVs A.1 A.2 p.1 p.2)
        rw [s3]
        unfold putVs
        cases posD A.1 p.1 with
        | none => exact h3.append (.one b)
        | some j =>
          have setA : ∀ {vs : List V} {ds : List DL.D} (j : Nat), Ats K Z F vs ds → Ats K Z F (vs.set j m.2.2) (ds.set j p.2) := by
            intro vs ds j h
            induction j generalizing vs ds with
            | zero => cases h with | nil => simpa using Ats.nil | cons a t => simpa using Ats.cons b t
            | succ j ih => cases h with | nil => simpa using Ats.nil | cons a t => simpa using Ats.cons a (ih t)
          exact setA j h3
def rDictN (K : PySem.W.Frag) (w : World) : List V → Hp → VK → Prop := fun xs H Q => ∃ (g : Gh) (a : Addr) (ps : List (D × D)), g.H = H ∧ g.Ok ∧ xs = [.ref a] ∧ At K g.Z g.F (.ref a) (.lst (ps.map fun p => .tup [p.1, p.2])) ∧ (∀ p ∈ ps, keyT true p.1 = true) ∧
  ∀ (p : Addr) (kvs : List (NestedKey × Addr × V)), H p = none → (kvs.map (·.1)).Nodup → Ats K g.Z g.F (kvs.map fun p => .ref p.2.1) (dctOf ps).1 → ((dctOf ps).1.map nkD = kvs.map fun p => some p.1) → Ats K g.Z g.F (kvs.map (·.2.2)) (dctOf ps).2 → Q (.ref p) (upd H p (dNo w p kvs))
theorem call_dictN {X : Cx} (hc : X.calm = true) (hu : X.A.units + 65 < cLine) : CallR X (.type "dict") (rDictN X.K X.w) := by
  intro pins s σ H xs us Q I r h
  obtain ⟨g, a, ps, eH, ok, rfl, ha, kt, q⟩ := h
  subst eH
  obtain ⟨u, rfl, rx⟩ := vals1 r
  cases rx
  obtain ⟨a', vs, e, hq, as⟩ := ha.lst_inv
  cases e
  obtain ⟨its, rv, pl, hz⟩ := I.list (SqL.of (K := X.K) (ok.sub _ _ hq))
  have go : ∀ (ps : List (D × D)) (vs : List V) (its : List Value), (∀ p ∈ ps, keyT true p.1 = true) → Ats X.K g.Z g.F vs (ps.map fun p => .tup [p.1, p.2]) → Vals vs its →
      ∃ (Ts : List Addr) (rows : List (NestedKey × Addr × V)) (xs : List (NestedKey × Addr × Value)), its = Ts.map Value.ref ∧ Ts.length = xs.length ∧ Paired PrN rows xs ∧ (∀ j x, xs[j]? = some x → PairAt s.heap (Ts.getD j 0) (.ref x.2.1) x.2.2) ∧ (∀ x ∈ xs, (nestedKind X.prog X.w).is s.heap x.1 x.2.1) ∧
        Ats X.K g.Z g.F (rows.map fun p => .ref p.2.1) (ps.map (·.1)) ∧ ((ps.map (·.1)).map nkD = rows.map fun p => some p.1) ∧ Ats X.K g.Z g.F (rows.map (·.2.2)) (ps.map (·.2)) := by
    intro ps
    induction ps with
    | nil =>
      intro vs its _ h1 h2
      cases h1
      cases h2
      exact ⟨[], [], [], rfl, rfl, .nil, fun j x e => by simp at e, (by simp), .nil, rfl, .nil⟩
    | cons p ps ih =>
      intro vs its kt h1 h2
      cases h1 with
      | cons b bs =>
        cases h2 with
        | cons rb rbs =>
          obtain ⟨Ts, rows, xs, i1, i2, i3, i4, i5, i6, i7, i8⟩ := ih _ _ (fun z hz => kt z (List.mem_cons_of_mem _ hz)) bs rbs
          obtain ⟨T, ob, ws, rfl, hT, hd, cs⟩ := b.tup_inv'
          cases rb
          obtain ⟨v1, v2, rfl, c1, c2⟩ := cs.two_inv
          obtain ⟨at_, _, its2, rv2, o2, e2, k2, n2, d2⟩ := (show ObjOk X.prog X.w g.H s.heap T (.frz ob (.tup [v1, v2])) from I.hok T _ (ok.sub _ _ hT))
          obtain ⟨u1, u2, rfl, r1, r2⟩ := vals2 rv2
          obtain ⟨zs, k, ez, nk, dk⟩ := keyT_t (kt p (List.mem_cons_self ..))
          obtain ⟨b1, ob1, ws1, rfl, _⟩ := (ez ▸ c1 : At X.K g.Z g.F v1 (.tup zs)).tup_inv'
          cases r1
          refine ⟨T :: Ts, (k, b1, v2) :: rows, (k, b1, u2) :: xs, by rw [i1]; rfl, by simp [i2], .cons ⟨rfl, rfl, r2⟩ i3, fun j x e => ?_, fun x hx => ?_, .cons c1 i6, by simp [nk, i7], .cons c2 i8⟩
          · cases j with
            | zero =>
              simp only [List.getElem?_cons_zero, Option.some.injEq] at e
              subst e
              exact .inl ⟨o2, e2, k2, n2, d2⟩
            | succ j => exact i4 j x (by simpa using e)
          · rcases List.mem_cons.mp hx with rfl | hx
            · exact ⟨At.nested I ok.sub c1 nk rfl, dk⟩
            · exact i5 x hx
  obtain ⟨Ts, rows, xs, e1, e2, i3, i4, i5, i6, i7, i8⟩ := go ps vs its kt as rv
  subst e1
  have lxs : xs.length ≤ sizeLine := by
    have := rv.length
    rw [List.length_map] at this
    omega
  obtain ⟨o, n, ho, hcl, hd, hdat⟩ := pl
  let prs : List (Value × Value) := xs.map fun x => (Value.ref x.2.1, x.2.2)
  have hp : PairItems s.heap (Ts.map Value.ref).toArray (fun j => Ts.getD j 0) prs := by
    refine ⟨by simp [prs, e2], fun j k v hj => ?_⟩
    simp only [prs, List.getElem?_map, Option.map_eq_some_iff] at hj
    obtain ⟨x, hx, e⟩ := hj
    cases e
    have hjl : j < Ts.length := by rw [e2]; exact (List.getElem?_eq_some_iff.mp hx).1
    refine ⟨?_, i4 j x hx⟩
    simp [List.getElem?_eq_getElem hjl, List.getD]
  refine call_dict_pairsH (knd := nestedKind X.prog X.w) (ps := xs) (PairArg.list a (Ts.map Value.ref).toArray (fun j => Ts.getD j 0) prs) (I.ok.hd hc) (show X.A.in1.in1.units + 8 < cLine by show X.A.units + 1 + 1 + 8 < cLine; omega) ⟨⟨o, n, ho, hcl, hd, hdat⟩, hp⟩ ⟨by simp [prs], fun i key v e => ?_⟩ (fun h' hk x hx => ?_) (by simpa [prs] using lxs) fun h' tk hd' k => ?_
  · simp only [PairRel, prs, List.getElem?_map, Option.map_eq_some_iff] at e
    obtain ⟨x, hx, e⟩ := e
    cases e
    exact ⟨x.1, x.2.1, hx, rfl⟩
  · have := i5 x hx
    exact ⟨NestedIs.at (fun b ob vs n hb hc => hk b ob (Nat.ne_of_lt (Heap.lt_size hb)) (by simp) hb) _ _ this.1, this.2⟩
  · have hm : (s.heap.objs.size == sysModules) = false := beq_eq_false_iff_ne.mpr (Nat.ne_of_gt I.big)
    have hpr := mergeN_pair i3 (.nil : Paired PrN [] [])
    have hlen : (mergeN [] rows).length ≤ sizeLine := by
      refine Nat.le_trans (mergeN_len rows []) ?_
      rw [List.length_nil, Nat.zero_add, Paired.length i3]
      exact lxs
    have dps : ∀ p ∈ rows, p.1.depth ≤ 8 ∧ ∃ d, nkD d = some p.1 := by
      intro p hp
      have hs : some p.1 ∈ (ps.map (·.1)).map nkD := by rw [i7]; exact List.mem_map.mpr ⟨p, hp, rfl⟩
      obtain ⟨d, hd, e⟩ := List.mem_map.mp hs
      obtain ⟨pp, hpp, rfl⟩ := List.mem_map.mp hd
      obtain ⟨zs, k, ez, nk, dk⟩ := keyT_t (kt pp hpp)
      rw [nk] at e
      cases e
      exact ⟨dk, _, nk⟩
    have sides := mergeN_sides rows [] ps ([], []) .nil .nil rfl .nil i6 i7 i8
    have hobj : ObjOk X.prog X.w (upd g.H s.heap.objs.size (dNo X.w s.heap.objs.size (mergeN [] rows))) h' s.heap.objs.size (dNo X.w s.heap.objs.size (mergeN [] rows)) := by
      obtain ⟨o, es, ep, q1, q2, q3, q4, _, q5⟩ := hd'
      refine ⟨⟨hlen, hm, mergeN_nodup rows [] .nil, fun p hp => (mergeN_keys (P := fun k => k.depth ≤ 8 ∧ ∃ d, nkD d = some k) rows [] (by simp) dps p hp).1, o, es, ep, q1, q2, q3, ?_⟩, ⟨o, q1⟩, fun h1 h2 ⟨x1, x2, x3, x4, o', es', ep', y1, y2⟩ ko => ⟨x1, x2, x3, x4, o', es', ep', ko o' y1, y2⟩⟩
      rw [q4]
      exact pair_es hpr fun p hp => (mergeN_keys (P := fun k => k.depth ≤ 8 ∧ ∃ d, nkD d = some k) rows [] (by simp) dps p hp).2
    exact ⟨.ref s.heap.objs.size, upd g.H s.heap.objs.size (dNo X.w s.heap.objs.size (mergeN [] rows)), I.laid (t' := tk) (fun b o e => k b o (by simp) e) (Nat.le_refl _) hobj, rfl, q _ _ (I.hok.fresh (Nat.le_refl _)) (mergeN_nodup rows [] .nil) sides.1 sides.2.1 sides.2.2⟩
def dictTD : List D → PQ
  | [.lst ds] => fun Q => ∃ ps : List (D × D), ds = ps.map (fun p => .tup [p.1, p.2]) ∧ (∀ p ∈ ps, keyT true p.1 = true) ∧ Q (.dct true (dctOf ps).1 ((dctOf ps).2.map .val))
  | _ => fun _ => False
theorem cd_dictT {K : PySem.W.Frag} {w : World} : CallD K (rDictN K w) dictTD := by
  intro g vs ds Qd Q ok ha hw k
  unfold dictTD at hw
  split at hw
  · obtain ⟨v, rfl, a⟩ := ha.one_inv
    obtain ⟨ps, rfl, kt, hQ⟩ := hw
    obtain ⟨q, us, rfl, hq, as⟩ := a.lst_inv
    refine ⟨g, q, ps, rfl, ok, rfl, a, kt, fun p kvs n nd h1 h2 h3 => ?_⟩
    refine k _ _ _ (Step.laid ok n) ⟨[p], .dctT upd_same nd h1 h2 (.vals h3), by simp, fun c m => by
      obtain rfl : c = p := by simpa using m
      exact ⟨ok.noF n, n, ok.noZ n⟩⟩ hQ
  · exact hw.elim
theorem dctOf_typed {α β : Type} (e : α → D) (f : β → D) (ps : List (α × β)) : ps.map (fun p => D.tup [e p.1, f p.2]) = (ps.map fun p => (e p.1, f p.2)).map (fun p => D.tup [p.1, p.2]) := by
  rw [List.map_map]; rfl
end DL
/-! DPrim8 -/
namespace DL
open PySem PySem.Spec PyProof.Rows L2
section
variable {X : Cx} {W : WX} {pos : Pos} {k v : Expr} {wk wv : WE}
def eDct1 (wk wv : WE) : WE := fun env Q E => wk env (fun k => wv env (fun o => keyT false k.d = true ∧ Q (.dct false [k.d] [o])) E) E
@[simp] theorem eDct1_v {env : DEnv} {Q : O → Prop} {E : EX} : eDct1 wk wv env Q E = wk env (fun k => wv env (fun o => keyT false k.d = true ∧ Q (.dct false [k.d] [o])) E) E := rfl
theorem de_dct1 (hk : DE X W k wk) (hv : DE X W v wv) : DE X W (.Dict [some k] [v] pos) (eDct1 wk wv) := pe_imp (pe_disp (pps_cons hk hv pps_nil) rfl rfl (by simp) (by simp)) fun σ H Q ⟨g, env, Qd, Ed, e, es, hw, kk, kx⟩ => by
  subst e
  intro p n
  have s0 : Step g ⟨g.Z, g.F, upd g.H p (.dK [])⟩ := Step.laid es.ok n
  show LE X W wk σ (upd g.H p (.dK [])) fun x H1 => LE X W wv σ H1 fun y H2 => _
  refine LE.go (g := ⟨g.Z, g.F, upd g.H p (.dK [])⟩) (R := fun d => wv env (fun o => keyT false d = true ∧ Qd (.dct false [d] [o])) Ed) (es.step s0) hw (fun x d g1 s1 a1 h1 => ?_) (XL.on kx s0)
  refine LE.goO ((es.step s0).step s1) h1 (fun y o g2 s2 r2 h2 => ?_) (XL.on kx (s0.trans s1))
  obtain ⟨kt, h2⟩ := h2
  obtain ⟨key, rfl⟩ := keyT_f kt
  have np0 : ¬ inZ (⟨g.Z, g.F, upd g.H p (.dK [])⟩ : Gh).Z p := es.ok.noZ n
  have hp1 : g1.H p = some (.dK []) := s1.keep p _ upd_same np0
  have np1 : ¬ inZ g1.Z p := fun z => (s1.zn p z).elim np0 fun q => by
    rw [show (⟨g.Z, g.F, upd g.H p (.dK [])⟩ : Gh).H p = some (.dK []) from upd_same] at q
    cases q
  have hp2 : g2.H p = some (.dK []) := s2.keep p _ hp1 np1
  have np2 : ¬ inZ g2.Z p := fun z => (s2.zn p z).elim np1 fun q => by
    rw [hp1] at q
    cases q
  have f1 : g1.F p = none := s1.apart (es.ok.noF n) upd_same
  have f2 : g2.F p = none := s2.apart f1 hp1
  refine ⟨hp2, [(key, y)], by rw [a1.key]; rfl, by simp, ?_⟩
  have st := (s0.trans s1).trans s2
  obtain ⟨cs, r, nd, hc⟩ := r2
  have hpc : p ∉ cs := fun m => by
    have := (hc p m).2.1
    rw [hp1] at this
    cases this
  refine kk _ _ _ (Step.own st n f2 np2 (u := .dK (mergeK [] [(key, y)]))) ⟨p :: cs, ?_, List.nodup_cons.mpr ⟨hpc, nd⟩, fun c m => ?_⟩ h2
  · have r' : RO X.K g2.Z g2.F (upd g2.H p (.dK (mergeK [] [(key, y)]))) y o cs := RO.mono (Sub.refl _) (fun _ q => q) r fun c m u e => by
      show upd g2.H p _ c = some u
      rw [upd_ne (show c ≠ p from fun q => hpc (by rw [← q]; exact m))]
      exact e
    have := RO.dctK (a := p) (kvs := [(key, y)]) (os := [o]) (K := X.K) (Z := g2.Z) (F := g2.F) (H := upd g2.H p (.dK (mergeK [] [(key, y)]))) upd_same (by simp) (ROs.cons r' ROs.nil)
    rw [List.append_nil] at this
    exact this
  · rcases List.mem_cons.mp m with rfl | m
    · exact ⟨f2, n, np2⟩
    · obtain ⟨c1, c2, c3⟩ := hc c m
      exact ⟨c1, (s0.trans s1).none_ c2, c3⟩
def tDisp1N (K : PySem.W.Frag) (w : World) (tk tv : TE) : TE := fun σ H Q => ∀ p, H p = none → tk σ (upd H p (dNo w p [])) fun x H1 => tv σ H1 fun y H2 => ∃ (g : Gh) (kd : D) (k : NestedKey) (b : Addr), g.H = H2 ∧ g.Ok ∧ H2 p = some (dNo w p []) ∧ At K g.Z g.F x kd ∧ nkD kd = some k ∧ k.depth ≤ 8 ∧ x = .ref b ∧
  Q (.ref p) (upd H2 p (dNo w p [(k, b, y)]))
theorem pe_disp1N {tk tv : TE} (hu : X.A.units + 65 < cLine) (hk : PE X k tk) (hv : PE X v tv) : PE X (.Dict [some k] [v] pos) (tDisp1N X.K X.w tk tv) := by
  refine ⟨fun pins s σ H Q I q => ?_⟩
  have hn := I.hok.fresh (Nat.le_refl s.heap.objs.size)
  have I1 := I.laid (a := s.heap.objs.size) (o := dNo X.w s.heap.objs.size []) (t' := s.toks) (fun _ _ q => Heap.get?_push_of_some _ q) (Nat.le_refl _) (dn_empty s.heap I.big)
  have hl : (pairTrees [some k] [v] X.env pos).length ≤ 15 := by rw [pairTrees_length [some k] [v] X.env pos rfl rfl]; simp
  have h0 : pairTrees [some k] [v] X.env pos ≠ [] := by
    intro e
    have := pairTrees_length [some k] [v] X.env pos rfl rfl
    rw [e] at this
    simp at this
  rw [arm_eval_Dict, zip_pairTrees [some k] [v] X.env pos rfl rfl, dictDisplay_pairs _ h0 (by omega)]
  refine wpAny_bind (wpAny_standAt (wpAny_bind (wpAny_subDictH (knd := nestedKind X.prog X.w) (show X.A.units + 8 < cLine by omega) hl ?_)))
  refine pairTrees_cons_walk (thn (hk.run pins _ σ _ _ I1 (q _ hn)) fun u s1 ⟨x, H1, I2, rx, q1⟩ => thn (hv.run pins s1 σ H1 _ I2 q1) fun w2 s2 ⟨y, H2, I3, ry, q2⟩ => pairTrees_nil_walk ?_)
  obtain ⟨g, kd, key, b, rfl, ok, ea, ay, e, dk, rfl, q3⟩ := q2
  cases rx
  obtain ⟨xs, i1, i2, _, i4, _⟩ := dn_open (Z := g.Z) (ks := []) I3 ok.sub ea .nil rfl
  cases i1
  have hi : (nestedKind X.prog X.w).is s2.heap key b := ⟨At.nested I3 ok.sub ay e rfl, dk⟩
  refine ⟨[(key, b, w2)], ⟨rfl, rfl, hi, trivial⟩, i2, fun h' tk dd' hs => wpAny_pure ?_⟩
  have he : ∃ q, h'.get? s.heap.objs.size = some q := let ⟨q, _, _, hq, _⟩ := dd'; ⟨q, hq⟩
  refine ⟨.ref s.heap.objs.size, _, ?_, rfl, q3⟩
  exact d_write (t' := tk) I3 (by rw [ea]; exact True.intro) hs he (dn_new (X := X) (H2 := upd g.H s.heap.objs.size (dNo X.w s.heap.objs.size [(key, b, y)])) (kvs := []) (ks := []) (xs := []) (by rw [sizeLine_eq]; simp) i4 .nil (by simp) rfl e dk .nil ry dd')
def eDct1T (wk wv : WE) : WE := fun env Q E => wk env (fun k => wv env (fun o => keyT true k.d = true ∧ Q (.dct true [k.d] [o])) E) E
@[simp] theorem eDct1T_v {env : DEnv} {Q : O → Prop} {E : EX} : eDct1T wk wv env Q E = wk env (fun k => wv env (fun o => keyT true k.d = true ∧ Q (.dct true [k.d] [o])) E) E := rfl
theorem de_dct1T (hu : X.A.units + 65 < cLine) (hk : DE X W k wk) (hv : DE X W v wv) : DE X W (.Dict [some k] [v] pos) (eDct1T wk wv) := pe_imp (pe_disp1N hu hk hv) fun σ H Q ⟨g, env, Qd, Ed, e, es, hw, kk, kx⟩ => by
  subst e
  intro p n
  have s0 : Step g ⟨g.Z, g.F, upd g.H p (dNo X.w p [])⟩ := Step.laid es.ok n
  refine LE.go (g := ⟨g.Z, g.F, upd g.H p (dNo X.w p [])⟩) (R := fun d => wv env (fun o => keyT true d = true ∧ Qd (.dct true [d] [o])) Ed) (es.step s0) hw (fun x d g1 s1 a1 h1 => ?_) (XL.on kx s0)
  refine LE.goO ((es.step s0).step s1) h1 (fun y o g2 s2 r2 h2 => ?_) (XL.on kx (s0.trans s1))
  obtain ⟨kt, h2⟩ := h2
  obtain ⟨zs, key, rfl, nk, dk⟩ := keyT_t kt
  have np0 : ¬ inZ (⟨g.Z, g.F, upd g.H p (dNo X.w p [])⟩ : Gh).Z p := es.ok.noZ n
  have hp1 : g1.H p = some (dNo X.w p []) := s1.keep p _ upd_same np0
  have np1 : ¬ inZ g1.Z p := fun z => (s1.zn p z).elim np0 fun q => by
    rw [show (⟨g.Z, g.F, upd g.H p (dNo X.w p [])⟩ : Gh).H p = some (dNo X.w p []) from upd_same] at q
    cases q
  have hp2 : g2.H p = some (dNo X.w p []) := s2.keep p _ hp1 np1
  have np2 : ¬ inZ g2.Z p := fun z => (s2.zn p z).elim np1 fun q => by
    rw [hp1] at q
    cases q
  have f1 : g1.F p = none := s1.apart (es.ok.noF n) upd_same
  have f2 : g2.F p = none := s2.apart f1 hp1
  have a2 := a1.mono s2.up s2.zs
  obtain ⟨b, ob, ws, rfl, _⟩ := a2.tup_inv'
  refine ⟨g2, .tup zs, key, b, rfl, s2.ok, hp2, a2, nk, dk, rfl, ?_⟩
  have st := (s0.trans s1).trans s2
  obtain ⟨cs, r, nd, hc⟩ := r2
  have hpc : p ∉ cs := fun m => by
    have := (hc p m).2.1
    rw [hp1] at this
    cases this
  refine kk _ _ _ (Step.own st n f2 np2 (u := dNo X.w p [(key, b, y)])) ⟨p :: cs, ?_, List.nodup_cons.mpr ⟨hpc, nd⟩, fun c m => ?_⟩ h2
  · have r' : RO X.K g2.Z g2.F (upd g2.H p (dNo X.w p [(key, b, y)])) y o cs := RO.mono (Sub.refl _) (fun _ q => q) r fun c m u e => by
      show upd g2.H p _ c = some u
      rw [upd_ne (show c ≠ p from fun q => hpc (by rw [← q]; exact m))]
      exact e
    have := RO.dctT (a := p) (kvs := [(key, b, y)]) (ks := [.tup zs]) (os := [o]) (K := X.K) (Z := g2.Z) (F := g2.F) (H := upd g2.H p (dNo X.w p [(key, b, y)])) upd_same (by simp) (.one a2) (by simp [nk]) (ROs.cons r' ROs.nil)
    rw [List.append_nil] at this
    exact this
  · rcases List.mem_cons.mp m with rfl | m
    · exact ⟨f2, n, np2⟩
    · obtain ⟨c1, c2, c3⟩ := hc c m
      exact ⟨c1, (s0.trans s1).none_ c2, c3⟩
end
end DL
/-! DMixR -/
namespace DL
open PySem PySem.Spec PyProof.Rows L2
theorem perm_erase {ds : List D} {j : Nat} {d : D} (h : ds[j]? = some d) : (d :: ds.eraseIdx j).Perm ds := by
  induction ds generalizing j with
  | nil => simp at h
  | cons x ds ih =>
    cases j with
    | zero =>
      simp at h
      subst h
      exact .refl _
    | succ j =>
      simp only [List.getElem?_cons_succ] at h
      rw [List.eraseIdx_cons_succ]
      exact (List.Perm.swap x d _).trans ((ih h).cons x)
theorem popL_mix {wk : WE} {env : DEnv} {i : Nat} {Q : List D → Prop} (hk : ∀ (ds : List D) (R : O → Prop), ds.length ≤ 1000000 → (∀ r : Int, 0 ≤ r → r < max 1 (ds.length : Int) → R (.val (.int r))) → wk (env.set i (some (.lst ds))) R NoX) :
    ∀ (n : Nat) (acc ds : List D), ds.length = n → acc.length + ds.length ≤ 1000000 → (∀ r, r.Perm (acc ++ ds) → Q r) → popL i wk env n acc ds Q
  | 0, acc, ds, hn, _, h => by
    obtain rfl := List.length_eq_zero_iff.mp hn
    exact h acc (by simp)
  | n + 1, acc, ds, hn, hl, h => by
    refine hk ds _ (by omega) fun r r0 r1 => ?_
    have hr : r.toNat < ds.length := by omega
    refine ⟨by simp, r, r.toNat, ds[r.toNat], rfl, in62_of (by omega) (by omega), ixN_pos r0 (by omega), List.getElem?_eq_getElem hr, by rw [sizeLine_eq]; omega, ?_⟩
    refine popL_mix hk n _ _ (by rw [List.length_eraseIdx_of_lt hr]; omega) (by rw [List.length_eraseIdx_of_lt hr]; simp; omega) fun q hq => h q ?_
    rw [List.append_assoc] at hq
    exact hq.trans (List.Perm.append_left acc (perm_erase (List.getElem?_eq_getElem hr)))
theorem cleans_vals : ∀ ds : List D, O.cleans (ds.map .val) = noLsts ds
  | [] => rfl
  | d :: ds => by
    simp only [List.map_cons, O.cleans_cons, O.clean_val, cleans_vals ds]
    rfl
theorem perm_map {α : Type} {e : α → D} : ∀ {r : List D} {l : List α}, r.Perm (l.map e) → ∃ r' : List α, r = r'.map e ∧ r'.Perm l := by
  intro r l h
  generalize hm : l.map e = m at h
  induction h generalizing l with
  | nil =>
    have : l = [] := by simpa using hm
    subst this
    exact ⟨[], rfl, .nil⟩
  | @cons x l1 l2 p ih =>
    cases l with
    | nil => simp at hm
    | cons a l =>
      simp only [List.map_cons, List.cons.injEq] at hm
      obtain ⟨r', e1, e2⟩ := ih hm.2
      exact ⟨a :: r', by rw [List.map_cons, e1, hm.1], e2.cons a⟩
  | swap x y l1 =>
    cases l with
    | nil => simp at hm
    | cons a l =>
      cases l with
      | nil => simp at hm
      | cons b l =>
        simp only [List.map_cons, List.cons.injEq] at hm
        exact ⟨b :: a :: l, by rw [List.map_cons, List.map_cons, hm.1, hm.2.1, hm.2.2], .swap a b l⟩
  | trans p q ih1 ih2 =>
    obtain ⟨r1, e1, e2⟩ := ih2 hm
    obtain ⟨r2, f1, f2⟩ := ih1 e1.symm
    exact ⟨r2, f1, f2.trans e2⟩
end DL
/-! DZipN -/
namespace DL
open PySem PySem.Spec PyProof.Rows L2
open Builtin Builtin.SmallTypes
def Itzn (K : PySem.W.Frag) (t u : Bool) (a b : Addr) : It :=
  ⟨fun i H => ∃ (xs ys : List V) (x y : V), SqB t K H a xs ∧ SqB u K H b ys ∧ xs[i]? = some x ∧ ys[i]? = some y,
    fun i H v H' => ∃ q ob x y, v = .ref q ∧ H q = none ∧ ob.dict = none ∧ H' = upd H q (.frz ob (.tup [x, y])) ∧ (∀ xs, SqB t K H a xs → xs[i]? = some x) ∧ ∀ ys, SqB u K H b ys → ys[i]? = some y,
    fun i H => ∃ xs ys : List V, SqB t K H a xs ∧ SqB u K H b ys ∧ (xs.length ≤ i ∨ ys.length ≤ i)⟩
theorem turn_zn {P : Program} {w : World} {K : PySem.W.Frag} {elts : List Expr} {kk : Nat} {tpos : Pos} {t u : Bool} {a b z ti to j1 j2 : Addr} (S : ZipSep2 z ti to j1 j2 [j1, a] [j2, b]) :
    Turn P w K (.Tuple elts kk tpos) (Itzn K t u a b) [z, ti, to, j1, j2] z (fun i h => IsZip h z ti to .none ∧ IsTupOf2 h ti (.ref j1) (.ref j2) ∧ (∃ x y, IsTupOf2 h to x y) ∧ ItB t h j1 a i ∧ ItB u h j2 b i) where
  mem := by simp
  obj := fun i h st c hc => by
    obtain ⟨hz, hti, ⟨x, y, hto⟩, h1, h2⟩ := st
    obtain ⟨o1, e1, v1, d1⟩ := h1.there
    obtain ⟨o2, e2, v2, d2⟩ := h2.there
    simp only [List.mem_cons, List.mem_nil_iff, or_false] at hc
    rcases hc with rfl | rfl | rfl | rfl | rfl
    · exact ⟨_, hz, fun v q => nomatch q⟩
    · exact ⟨_, hti, fun v q => nomatch q⟩
    · exact ⟨_, hto, fun v q => nomatch q⟩
    · exact ⟨o1, e1, fun v q => by rw [d1] at q; cases q⟩
    · exact ⟨o2, e2, fun v q => by rw [d2] at q; cases q⟩
  keep := fun i h h' st k => by
    obtain ⟨hz, hti, ⟨x, y, hto⟩, h1, h2⟩ := st
    exact ⟨k z (by simp) _ hz, k ti (by simp) _ hti, ⟨x, y, k to (by simp) _ hto⟩, h1.at_ fun o q => k j1 (by simp) o q, h2.at_ fun o q => k j2 (by simp) o q⟩
  item := by
    intro X hP hw hK hc i pins s σ H E I hf st hg
    subst hP hw hK
    obtain ⟨hz, hti, ⟨x0, y0, hto⟩, h1, h2⟩ := st
    obtain ⟨xs, ys, x, y, hqx, hqy, hx, hy⟩ := hg
    obtain ⟨its, rv, p1⟩ := Inv.seqB I hqx
    obtain ⟨its2, rv2, p2⟩ := Inv.seqB I hqy
    obtain ⟨u1, hu, ru⟩ := rv.get hx
    obtain ⟨u2, hu2, ru2⟩ := rv2.get hy
    have l1 := rv.length
    have l2 := rv2.length
    have hzl : z < s.heap.objs.size := Heap.lt_size hz
    have hi : i < its.toArray.size := by
      have := (List.getElem?_eq_some_iff.mp hu).1
      simpa using this
    have Da := drawsB (prog := X.prog) (w := X.w) (A := X.A.in1) t (I.ok.hd hc) j1 a (seq_ne_it p1 h1) its.toArray
    have Db := drawsB (prog := X.prog) (w := X.w) (A := X.A.in1) u (I.ok.hd hc) j2 b (seq_ne_it p2 h2) its2.toArray
    have hi2 : i < its2.toArray.size := by
      have := (List.getElem?_eq_some_iff.mp hu2).1
      simpa using this
    refine wpAny_pyNext_zipD2_item S Da Db hz hti hto ⟨h1, p1⟩ ⟨h2, p2⟩ hi hi2 fun v1 v2 h' tk q1 q2 z' to' sa sb pr hsz hk => ?_
    obtain rfl : v1 = u1 := by
      have q1 : its.toArray[i]? = some v1 := q1
      rw [List.getElem?_toArray, hu] at q1
      exact (Option.some.inj q1).symm
    obtain rfl : v2 = u2 := by
      have q2 : its2.toArray[i]? = some v2 := q2
      rw [List.getElem?_toArray, hu2] at q2
      exact (Option.some.inj q2).symm
    refine ⟨_, rfl, wpAny_letOwnedTupleGo_zip (s := { s with heap := h', toks := tk }) z' fun h'' z'' sbz => ?_⟩
    have hp2 : h''.get? s.heap.objs.size = some { cls := .type "tuple", data := .seq #[v1, v2] } := (sbz.2 _ (Nat.ne_of_gt hzl)).trans pr
    have new : ObjOk X.prog X.w (upd H s.heap.objs.size (.frz { cls := .type "tuple", data := .seq #[v1, v2] } (.tup [x, y]))) h'' s.heap.objs.size (.frz { cls := .type "tuple", data := .seq #[v1, v2] } (.tup [x, y])) :=
      ⟨hp2, by show 2 ≤ sizeLine; decide, [v1, v2], .cons ru (.cons ru2 .nil), ⟨_, hp2, rfl, _, rfl⟩⟩
    have hk2 : ∀ c o, c ∉ [z, ti, to, j1, j2] → s.heap.get? c = some o → h''.get? c = some o := fun c o m q => by
      simp only [List.mem_cons, List.mem_nil_iff, or_false, not_or] at m
      exact (sbz.2 c m.1).trans (hk c o m.1 m.2.2.1 m.2.2.2.1 m.2.2.2.2 q)
    have I1 : L2.Inv X pins σ (upd H s.heap.objs.size (.frz { cls := .type "tuple", data := .seq #[v1, v2] } (.tup [x, y]))) { s with heap := h'', toks := tk } := I.turnedNew (t' := tk) (ch := [z, ti, to, j1, j2]) hk2 hf (Nat.le_refl _) new
    refine ⟨.ref s.heap.objs.size, _, I1, rfl, ⟨_, _, x, y, rfl, I.hok.fresh (Nat.le_refl _), rfl, rfl, fun l hl => by rw [Inv.seqB_inj I hl hqx]; exact hx, fun l hl => by rw [Inv.seqB_inj I hl hqy]; exact hy⟩, ⟨z'', ?_, ⟨v1, v2, ?_⟩, ?_, ?_⟩, fun c hcm => ?_⟩
    · exact (sbz.2 _ S.TIz).trans (hk _ _ S.TIz S.TITO S.TIi1 S.TIi2 hti)
    · exact (sbz.2 _ S.TOz).trans to'
    · exact sa.1.at_ fun o q => (sbz.2 _ S.zi1.symm).trans q
    · exact sb.1.at_ fun o q => (sbz.2 _ S.zi2.symm).trans q
    · obtain ⟨o1, e1, _⟩ := h1.there
      obtain ⟨o2, e2, _⟩ := h2.there
      have hlt : c < s.heap.objs.size := by
        simp only [List.mem_cons, List.mem_nil_iff, or_false] at hcm
        rcases hcm with rfl | rfl | rfl | rfl | rfl
        · exact hzl
        · exact Heap.lt_size hti
        · exact Heap.lt_size hto
        · exact Heap.lt_size e1
        · exact Heap.lt_size e2
      rw [upd_ne (Nat.ne_of_lt hlt)]
      exact (hf c hcm).1
  done := by
    intro X hP hw hK hc i pins s σ H E I hf st hg
    subst hP hw hK
    obtain ⟨hz, hti, ⟨x0, y0, hto⟩, h1, h2⟩ := st
    obtain ⟨xs, ys, hqx, hqy, hend⟩ := hg
    obtain ⟨its, rv, p1⟩ := Inv.seqB I hqx
    obtain ⟨its2, rv2, p2⟩ := Inv.seqB I hqy
    have l1 := rv.length
    have l2 := rv2.length
    have fin : ∀ h' tk, (∀ c o, c ≠ z → c ≠ to → c ≠ j1 → c ≠ j2 → s.heap.get? c = some o → h'.get? c = some o) → L2.Inv X pins σ H { s with heap := h', toks := tk } := fun h' tk hk => I.turnedL (t' := tk) (ch := [z, ti, to, j1, j2]) (fun c o m q => by
      simp only [List.mem_cons, List.mem_nil_iff, or_false, not_or] at m
      exact hk c o m.1 m.2.2.1 m.2.2.2.1 m.2.2.2.2 q) hf
    by_cases e1 : xs.length ≤ i
    · have Da := drawsE (prog := X.prog) (w := X.w) (A := X.A.in1) t (I.ok.hd hc) j1 a its.toArray i (by simp; omega)
      by_cases e2 : ys.length ≤ i
      · have Db := drawsE (prog := X.prog) (w := X.w) (A := X.A.in1) u (I.ok.hd hc) j2 b its2.toArray i (by simp; omega)
        exact wpAny_pyNext_zipD2_end S Da Db hz hti hto ⟨h1, p1, rfl⟩ ⟨h2, p2, rfl⟩ (Nat.le_refl _) (Nat.le_refl _) (.inl rfl) fun h' tk hk => ⟨rfl, fin h' tk hk⟩
      · have Db := drawsB (prog := X.prog) (w := X.w) (A := X.A.in1) u (I.ok.hd hc) j2 b (seq_ne_it p2 h2) its2.toArray
        exact wpAny_pyNext_zipD2_end S Da Db hz hti hto ⟨h1, p1, rfl⟩ ⟨h2, p2⟩ (Nat.le_refl _) (by simp; omega) (.inl rfl) fun h' tk hk => ⟨rfl, fin h' tk hk⟩
    · have e2 : ys.length ≤ i := by omega
      have Da := drawsB (prog := X.prog) (w := X.w) (A := X.A.in1) t (I.ok.hd hc) j1 a (seq_ne_it p1 h1) its.toArray
      have Db := drawsE (prog := X.prog) (w := X.w) (A := X.A.in1) u (I.ok.hd hc) j2 b its2.toArray i (by simp; omega)
      exact wpAny_pyNext_zipD2_end S Da Db hz hti hto ⟨h1, p1⟩ ⟨h2, p2, rfl⟩ (by simp; omega) (Nat.le_refl _) (.inr rfl) fun h' tk hk => ⟨rfl, fin h' tk hk⟩
  self := fun A i s Q E st h => wpAny_pyIter_zip st.1 h

def tZn (K : PySem.W.Frag) (ta : TA) : TI := fun σ H R => ta σ H fun vs H1 => ∃ (t u : Bool) (a b : Addr) (xs ys : List V), vs = [.ref a, .ref b] ∧ SqB t K H1 a xs ∧ SqB u K H1 b ys ∧ R (Itzn K t u a b) H1
theorem pi_zn {X : Cx} {e e2 : Expr} {ta : TA} {p pos tpos : Pos} {elts : List Expr} {kk : Nat} (hg : Gl X "zip") (hm : X.mg "zip" = none) (ha : PA X [e, e2] ta)
    (hs : starEach [e, e2] X.env = (false, eval e X.env) :: starEach [e2] X.env := by rfl) (hpl : (backTo pos (starEach [e2] X.env)).any (·.1) = false := by rfl) :
    PI X (.Tuple elts kk tpos) (.Call (.Name "zip" p) [e, e2] [] pos) (tZn X.K ta) := by
  refine ⟨fun pins s σ H R I h => ?_⟩
  refine Call_ (ld_blt I hg hm PyProof.Rows.boot_zip (PyProof.Rows.callWith_type1 (thn (ha.run pos pins s σ H _ I h) fun us s1 ⟨vs, H1, I1, r1, q1⟩ => ?_) hs hpl))
  obtain ⟨t, u, a, b, xs, ys, ex, hx, hy, q⟩ := q1
  subst ex
  obtain ⟨u1, u2, rfl, ra, rb⟩ := vals2 r1
  obtain rfl : u1 = Value.ref a := ra
  obtain rfl : u2 = Value.ref b := rb
  obtain ⟨its, rv, p1⟩ := Inv.seqB I1 hx
  obtain ⟨its2, rv2, p2⟩ := Inv.seqB I1 hy
  refine zip_begins2 (beginsB t a its.toArray) (beginsB u b its2.toArray) p1 p2 fun h' hz hti hto hi1 hi2 _ hk => wpAny_pyIter_zip hz ?_
  obtain ⟨oa, na, ea, _⟩ := p1.there
  obtain ⟨ob, nb, eb, _⟩ := p2.there
  have la : a < s1.heap.objs.size := Heap.lt_size ea
  have lb : b < s1.heap.objs.size := Heap.lt_size eb
  refine ⟨s1.heap.objs.size + 4, [s1.heap.objs.size + 4, s1.heap.objs.size + 2, s1.heap.objs.size + 3, s1.heap.objs.size, s1.heap.objs.size + 1], _, _, H1, rfl, I1.kept (t' := s1.toks) hk,
    turn_zn (t := t) (u := u) (zip_sep2 (fp1 := [a]) (fp2 := [b]) (fun c m => by obtain rfl := List.mem_singleton.mp m; exact la) (fun c m => by obtain rfl := List.mem_singleton.mp m; exact lb)), ⟨hz, hti, ⟨_, _, hto⟩, .new hi1, .new hi2⟩, fun c m => ?_, q⟩
  have hle : s1.heap.objs.size ≤ c := by
    simp only [List.mem_cons, List.mem_nil_iff, or_false] at m
    rcases m with rfl | rfl | rfl | rfl | rfl <;> omega
  exact I1.fpOk hle (I1.hok.fresh hle)
theorem zipF_min : ∀ (as bs : List D), (zipF as bs).length = min as.length bs.length
  | [], _ => by simp [zipF]
  | _ :: _, [] => by simp [zipF]
  | a :: as, b :: bs => by
    simp only [zipF, List.length_cons, zipF_min as bs]
    omega
theorem itok_zn {K : PySem.W.Frag} {g : Gh} {t u : Bool} {a b : Addr} {vs ws : List V} {ds es : List D} (h1 : FzB t K g.F a vs) (h2 : FzB u K g.F b ws) (a1 : Ats K g.Z g.F vs ds) (a2 : Ats K g.Z g.F ws es) : ItOk K g (Itzn K t u a b) (zipF ds es) := by
  refine ⟨fun g' s i d e => ?_, fun g' s i d x H' e y => ?_, fun g' s i le => ?_⟩
  · obtain ⟨p, q, e1, e2, rfl⟩ := zipF_get ds es i d e
    obtain ⟨v, q1, _⟩ := a1.get e1
    obtain ⟨w, q2, _⟩ := a2.get e2
    exact ⟨vs, ws, v, w, h1.sq s, h2.sq s, q1, q2⟩
  · obtain ⟨p, q, e1, e2, rfl⟩ := zipF_get ds es i d e
    obtain ⟨v, q1, b1⟩ := a1.get e1
    obtain ⟨w, q2, b2⟩ := a2.get e2
    obtain ⟨c, ob, v', w', rfl, n, hob, rfl, f1, f2⟩ := y
    obtain rfl : v = v' := Option.some.inj (q1.symm.trans (f1 vs (h1.sq s)))
    obtain rfl : w = w' := Option.some.inj (q2.symm.trans (f2 ws (h2.sq s)))
    exact pair_step s.ok n hob (b1.mono s.up s.zs) (b2.mono s.up s.zs)
  · rw [zipF_min ds es] at le
    exact ⟨vs, ws, h1.sq s, h2.sq s, by rw [a1.length, a2.length]; omega⟩
/-- zip(x, y) -/
def iZn (wa wb : WE) : WI := fun env Q E => wa env (fun o => wb env (fun u => seqQ (fun ds => seqQ (fun es => Q (zipF ds es)) u.d) o.d) E) E
@[simp] theorem iZn_v {wa wb : WE} {env : DEnv} {E : EX} {Q : List D → Prop} : iZn wa wb env Q E = wa env (fun o => wb env (fun u => seqQ (fun ds => seqQ (fun es => Q (zipF ds es)) u.d) o.d) E) E := rfl
theorem di_zn {X : Cx} {W : WX} {wa wb : WE} {e e2 : Expr} {p pos tpos : Pos} {elts : List Expr} {kk : Nat} (hm : X.mg "zip" = none) (he : DE X W e wa) (he2 : DE X W e2 wb) (hg : Gl X "zip" := by rfl)
    (hs : starEach [e, e2] X.env = (false, eval e X.env) :: starEach [e2] X.env := by rfl) (hs2 : starEach [e2] X.env = (false, eval e2 X.env) :: starEach [] X.env := by rfl) (hpl : (backTo pos (starEach [e2] X.env)).any (·.1) = false := by rfl) :
    DI X W (.Tuple elts kk tpos) (.Call (.Name "zip" p) [e, e2] [] pos) (iZn wa wb) := pi_imp (pi_zn hg hm (pa_cons he (pa_cons he2 pa_nil hs2) hs) hs hpl) fun σ H R ⟨g, env, Qd, Ed, eH, es, hw, k, kx⟩ => by
  subst eH
  show LE X W wa σ g.H fun x H1 => LE X W wb σ H1 fun y H2 => ∃ (t u : Bool) (a b : Addr) (xs ys : List V), [x, y] = [V.ref a, V.ref b] ∧ SqB t X.K H2 a xs ∧ SqB u X.K H2 b ys ∧ R (Itzn X.K t u a b) H2
  refine LE.go (R := fun d => wb env (fun u => seqQ (fun ds => seqQ (fun es => Qd (zipF ds es)) u.d) d) Ed) es hw (fun v d g1 s1 a1 h1 => ?_) kx
  refine LE.go (R := fun d' => seqQ (fun ds => seqQ (fun es => Qd (zipF ds es)) d') d) (es.step s1) h1 (fun v' d' g2 s2 a2 h2 => ?_) (XL.on kx s1)
  obtain ⟨t, p1, vs, ds, rfl, f1, as1, h2⟩ := seqQ_inv a1 h2
  obtain ⟨u, p2, ws, es', rfl, f2, as2, q⟩ := seqQ_inv a2 h2
  have f1' := f1.up s2.up
  have as1' := as1.mono s2.up s2.zs
  exact ⟨t, u, p1, p2, vs, ws, rfl, f1'.sq0 s2.ok, f2.sq0 s2.ok, k _ _ g2 (s1.trans s2) (itok_zn f1' f2 as1' as2) q⟩
end DL
/-! DRows -/
namespace DL
open PySem PySem.Spec PyProof.Rows L2
def OO (ls : List (List Int)) : O := .lst (ls.map Ow)
def LL (ls : List (List Int)) : D := .lst (ls.map L)
@[simp] theorem OO_d (ls : List (List Int)) : (OO ls).d = LL ls := by
  unfold OO LL
  rw [O.d_lst]
  congr 1
  induction ls with
  | nil => rfl
  | cons l ls ih => simp only [List.map_cons, O.ds_cons, Ow_d, ih]
@[simp] theorem OO_clean (ls : List (List Int)) : (OO ls).clean = true := by
  unfold OO
  rw [O.clean_lst, O.cleans_iff]
  intro o ho
  obtain ⟨l, _, rfl⟩ := List.mem_map.mp ho
  simp
@[simp] theorem ixD_LL {ls : List (List Int)} {i : Int} {Q : O → Prop} : ixD (LL ls) (.int i) Q ↔ ∃ r, atI ls i = some r ∧ Q (.val (L r)) := by
  unfold LL
  rw [ixD_lst, atI_map]
  cases atI ls i <;> simp
theorem LL_eq (ls : List (List Int)) : LL ls = L (ls.map PL.mk) := by
  unfold LL
  rw [L_def, List.map_map]
  rfl
theorem mem_modify {α : Type} {f : α → α} : ∀ {ls : List α} {c : Nat} {x : α}, x ∈ ls.modify c f → x ∈ ls ∨ ∃ y ∈ ls, x = f y
  | [], c, x, h => by simp at h
  | a :: ls, 0, x, h => by
    simp only [List.modify_zero_cons, List.mem_cons] at h
    rcases h with rfl | h
    · exact .inr ⟨a, by simp, rfl⟩
    · exact .inl (by simp [h])
  | a :: ls, c + 1, x, h => by
    simp only [List.modify_succ_cons, List.mem_cons] at h
    rcases h with rfl | h
    · exact .inl (by simp)
    · rcases mem_modify h with q | ⟨y, q, e⟩
      · exact .inl (by simp [q])
      · exact .inr ⟨y, by simp [q], e⟩
theorem kids_OO (ls : List (List Int)) : (OO ls).kids = ls.map Ow := rfl
theorem appK_OO {env : SEnv} {De : DEnds} {Ee : SEX} {wa we : WE} {i : Nat} {ls : List (List Int)} {c x : Int} (h : env[i]? = some (some (OO ls))) (c0 : 0 ≤ c) (c1 : c < ls.length) (hl : ∀ r ∈ ls, r.length < sizeLine)
    (hwa : ∀ (Q : O → Prop) (E : EX), Q (.val (.int c)) → wa (view env) Q E) (hwe : ∀ (Q : O → Prop) (E : EX), Q (.val (.int x)) → we (view env) Q E) (hD : De.nx (env.set i (some (OO (ls.modify c.toNat (· ++ [x])))))) : sAppK i wa we env De Ee := by
  show ownV env[i]? _
  rw [h]
  refine hwa _ _ ⟨by simp, c.toNat, ((ls[c.toNat]'(by omega)).map fun a => O.val (Enc.enc a)), ?_, ?_, hwe _ _ ⟨by simp, ?_, ?_⟩⟩
  · show ixN (ls.map Ow).length c = _
    rw [List.length_map]
    exact ixN_pos c0 c1
  · show (ls.map Ow)[c.toNat]? = _
    rw [List.getElem?_map, List.getElem?_eq_getElem (by omega : c.toNat < ls.length)]
    rfl
  · rw [List.length_map]
    exact hl _ (List.getElem_mem _)
  · have e : (OO ls).setKid c.toNat (.lst (((ls[c.toNat]'(by omega)).map fun a => O.val (Enc.enc a)) ++ [.val (.int x)])) = OO (ls.modify c.toNat (· ++ [x])) := by
      show O.lst ((ls.map Ow).set c.toNat _) = O.lst _
      congr 1
      apply List.ext_getElem?
      intro k
      rw [List.getElem?_map, List.getElem?_modify, List.getElem?_set, List.length_map]
      by_cases q : c.toNat = k
      · subst q
        rw [if_pos rfl, if_pos (by omega), List.getElem?_eq_getElem (by omega : c.toNat < ls.length)]
        simp only [if_pos]
        show some (O.lst _) = some (Ow (ls[c.toNat] ++ [x]))
        rw [Ow_def, List.map_append]
        rfl
      · rw [if_neg q, List.getElem?_map]
        simp [q]
    have e' : (O.lst (ls.map Ow)).setKid c.toNat (.lst (((ls[c.toNat]'(by omega)).map fun a => O.val (Enc.enc a)) ++ [.val (.int x)])) = OO (ls.modify c.toNat (· ++ [x])) := e
    rw [e']
    exact hD
section
variable {env : SEnv} {De : DEnds} {Ee : SEX} {wk wv : WE} {i : Nat} {t : Bool} {ks : List D} {os : List O}
theorem sSetd_v (h : env[i]? = some (some (.dct t ks os))) : sSetd i wk wv env De Ee = wk (view env) (fun k => k.clean = true ∧ wv (view env) (fun o => o.clean = true ∧ keyT t k.d = true ∧ ks.length < sizeLine ∧ De.nx (match posD ks k.d with
    | some _ => env
    | none => env.set i (some (.dct t (ks ++ [k.d]) (os ++ [o]))))) (fun x => x.clean = true ∧ Ee x env)) (fun x => x.clean = true ∧ Ee x env) := by
  show dctD env[i]? _ = _
  rw [h]
  rfl
theorem sDput_v (h : env[i]? = some (some (.dct t ks os))) : sDput i wk wv env De Ee = wv (view env) (fun o => o.clean = true ∧ wk (view env) (fun k => k.clean = true ∧ keyT t k.d = true ∧ ks.length < sizeLine ∧ De.nx (env.set i (some (.dct t (putKs ks k.d) (putVs ks os k.d o))))) (fun x => x.clean = true ∧ Ee x env)) (fun x => x.clean = true ∧ Ee x env) := by
  show dctD env[i]? _ = _
  rw [h]
  rfl
end
@[simp] theorem dctQ_v {t : Bool} {ks vs : List D} {Q : Bool → List D → List D → Prop} : dctQ (.dct t ks vs) Q = Q t ks vs := rfl
@[simp] theorem keyT_int {i : Int} : keyT false (.int i) = true := rfl
@[simp] theorem keyT_str {s : Str} : keyT false (.str s) = true := rfl
end DL
/-! DTupI -/
namespace DL
open PySem PySem.Spec PyProof.Rows L2
section
variable {prog : Program} {w : World} {A : Around} {E : Value → Shared → Prop} {s : Shared} {l : Addr} {xs : Array (Int × Tok)} {its : List Value} {ns : List Int} {Q : Value → Shared → Prop}
theorem it_tup (hl : s.heap.IsTuple l (intItems xs))
    (h : ∀ s₂ : Shared, s₂ = { s with heap := s.heap.push { cls := .type "tuple_iterator", data := .fields #[.ref l, .int 0 0] } } →
      (s₂.heap.IsTupleIter s.heap.objs.size l 0 ∧ s₂.heap.IsTuple l (intItems xs)) → (∀ b ∈ [s.heap.objs.size, l], b < s₂.heap.objs.size) → l ≠ s.heap.objs.size → Q (.ref s.heap.objs.size) s₂) :
    wpAny (model prog w) A (pyIter (.ref l)) Q E s := by
  have hlt : l < s.heap.objs.size := by obtain ⟨_, e, _⟩ := hl; exact Heap.lt_size e
  refine wpAny_pyIter_tuple hl (h _ rfl ⟨⟨_, Heap.get?_push_size _ rfl, rfl, rfl⟩, ?_⟩ (fun b hb => ?_) (Nat.ne_of_lt hlt))
  · obtain ⟨o, e, r⟩ := hl
    exact ⟨o, Heap.get?_push_of_some _ e, r⟩
  · show b < (s.heap.push _).objs.size
    rw [Heap.size_push]
    rcases List.mem_cons.mp hb with rfl | hb
    · exact Nat.lt_succ_self _
    · rcases List.mem_cons.mp hb with rfl | hb
      · exact Nat.lt_succ_of_lt hlt
      · cases hb
theorem kept_it {h' : Heap} (hk : ∀ b o, b ∉ [s.heap.objs.size] → (s.heap.push { cls := .type "tuple_iterator", data := .fields #[.ref l, .int 0 0] }).get? b = some o → h'.get? b = some o) :
    ∀ b o, s.heap.get? b = some o → h'.get? b = some o := fun b o e => by
  refine hk b o (fun hm => ?_) (Heap.get?_push_of_some _ e)
  rcases List.mem_cons.mp hm with e1 | hm
  · exact absurd (e1 ▸ Heap.lt_size e) (Nat.lt_irrefl _)
  · cases hm
theorem max_tup (hh : A.handled = none) (hl : s.heap.IsTuple l its.toArray) (hi : IntsAre its ns) (hne : 0 < ns.length)
    (h : ∀ h' tk M t', (∀ b o, s.heap.get? b = some o → h'.get? b = some o) → M ∈ ns → (∀ a, a ∈ ns → a ≤ M) → Q (.int M t') { s with heap := h', toks := tk }) : wpAny (model prog w) A (call (.builtin "max") [.ref l]) Q E s := by
  obtain ⟨xs, e⟩ := hi.allInts.items
  have hn : numsOf (intItems xs).toList = ns := by rw [← e]; exact hi.numsOf
  rw [nums_intItems] at hn
  subst hn
  rw [e] at hl
  have hsz : 0 < xs.size := by simpa using hne
  refine call_max_walk (it_tup hl fun s₂ e st hfp hlI => ?_)
  subst e
  refine ⟨_, _, _, _, _, _, _, rfl, Walks.tuple (A := A.in1) hh _ l hlI (intItems xs), st, hfp, by simpa [intItems] using hsz, CmpOf.ints_gt (numAt xs) (fun _ _ => intItems_at), fun v h' tk hP hk => ?_⟩
  obtain ⟨t, rfl⟩ := intItems_at hP
  obtain ⟨h1, h2⟩ := argBest_gt (numAt xs) (xs.size - 1)
  have hs2 : (intItems xs).size - 1 = xs.size - 1 := by simp [intItems]
  rw [hs2]
  refine h h' tk _ t (kept_it hk) ?_ fun a ha => ?_
  · rw [numAt_eq]; exact PySem.getD_mem (by rw [List.length_map, Array.length_toList]; omega)
  · obtain ⟨j, hj, rfl⟩ := mem_getD ha
    rw [List.length_map, Array.length_toList] at hj
    rw [← numAt_eq]; exact h2 j (by omega)
theorem min_tup (hh : A.handled = none) (hl : s.heap.IsTuple l its.toArray) (hi : IntsAre its ns) (hne : 0 < ns.length)
    (h : ∀ h' tk M t', (∀ b o, s.heap.get? b = some o → h'.get? b = some o) → M ∈ ns → (∀ a, a ∈ ns → M ≤ a) → Q (.int M t') { s with heap := h', toks := tk }) : wpAny (model prog w) A (call (.builtin "min") [.ref l]) Q E s := by
  obtain ⟨xs, e⟩ := hi.allInts.items
  have hn : numsOf (intItems xs).toList = ns := by rw [← e]; exact hi.numsOf
  rw [nums_intItems] at hn
  subst hn
  rw [e] at hl
  have hsz : 0 < xs.size := by simpa using hne
  refine call_min_walk (it_tup hl fun s₂ e st hfp hlI => ?_)
  subst e
  refine ⟨_, _, _, _, _, _, _, rfl, Walks.tuple (A := A.in1) hh _ l hlI (intItems xs), st, hfp, by simpa [intItems] using hsz, CmpOf.ints_lt (numAt xs) (fun _ _ => intItems_at), fun v h' tk hP hk => ?_⟩
  obtain ⟨t, rfl⟩ := intItems_at hP
  obtain ⟨h1, h2⟩ := argBest_lt (numAt xs) (xs.size - 1)
  have hs2 : (intItems xs).size - 1 = xs.size - 1 := by simp [intItems]
  rw [hs2]
  refine h h' tk _ t (kept_it hk) ?_ fun a ha => ?_
  · rw [numAt_eq]; exact PySem.getD_mem (by rw [List.length_map, Array.length_toList]; omega)
  · obtain ⟨j, hj, rfl⟩ := mem_getD ha
    rw [List.length_map, Array.length_toList] at hj
    rw [← numAt_eq]; exact h2 j (by omega)
theorem sum_tup (hh : A.handled = none) (hl : s.heap.IsTuple l its.toArray) (hi : IntsAre its ns)
    (h : ∀ h' tk t', (∀ b o, s.heap.get? b = some o → h'.get? b = some o) → Q (.int ns.sum t') { s with heap := h', toks := tk }) : wpAny (model prog w) A (call (.builtin "sum") [.ref l]) Q E s := by
  obtain ⟨xs, e⟩ := hi.allInts.items
  have hn : numsOf (intItems xs).toList = ns := by rw [← e]; exact hi.numsOf
  rw [nums_intItems] at hn
  rw [e] at hl
  refine call_sum_walkG (it_tup hl fun s₂ e st hfp hlI => ?_)
  subst e
  refine ⟨_, _, _, _, _, _, numAt xs, rfl, Walks.tuple (A := A.in1) hh _ l hlI (intItems xs), st, hfp, (fun _ _ => intItems_at), fun h' tk t' hk => ?_⟩
  have := h h' tk t' (kept_it hk)
  rw [preSum_eq, List.take_of_length_le (by simp [intItems]), hn]
  exact this
end

def rSumT (K : PySem.W.Frag) : List V → Hp → VK → Prop := fun vs H Q => rSum K vs H Q ∨ ∃ (a : Addr) (ns : List Int), vs = [V.ref a] ∧ SqT K H a (ns.map V.int) ∧ Q (.int ns.sum) H
theorem call_sumT {X : Cx} (hc : X.calm = true) : CallR X (.builtin "sum") (rSumT X.K) := by
  intro pins s σ H vs us Q I r h
  rcases h with h | h
  · exact cr_sum hc pins s σ H vs us Q I r h
  obtain ⟨a, ns, rfl, hs, q⟩ := h
  obtain ⟨its, rv, hl, _⟩ := I.tuple hs
  rw [Vals.ref1 r]
  exact sum_tup (I.ok.hd hc) hl rv.ints fun h' tk t' hk => ⟨.int _, H, I.kept hk, ⟨_, rfl⟩, q⟩
def sumX : List D → PQ
  | [.tup ds] => fun Q => ∃ ns : List Int, ds = ns.map D.int ∧ Q (.val (.int ns.sum))
  | ds => sumD ds

def rMaxT (K : PySem.W.Frag) : List V → Hp → VK → Prop := fun vs H Q => rMax K vs H Q ∨ ∃ (a : Addr) (ns : List Int), vs = [V.ref a] ∧ SqT K H a (ns.map V.int) ∧ 0 < ns.length ∧ ∀ m, m ∈ ns → (∀ y, y ∈ ns → y ≤ m) → Q (.int m) H
theorem call_maxT {X : Cx} (hc : X.calm = true) : CallR X (.builtin "max") (rMaxT X.K) := by
  intro pins s σ H vs us Q I r h
  rcases h with h | h
  · exact cr_max hc pins s σ H vs us Q I r h
  obtain ⟨a, ns, rfl, hs, hne, q⟩ := h
  obtain ⟨its, rv, hl, _⟩ := I.tuple hs
  rw [Vals.ref1 r]
  exact max_tup (I.ok.hd hc) hl rv.ints hne fun h' tk m t' hk h1 h2 => ⟨.int _, H, I.kept hk, ⟨_, rfl⟩, q m h1 h2⟩
def maxX : List D → PQ
  | [.tup ds] => fun Q => ∃ ns : List Int, ds = ns.map D.int ∧ 0 < ns.length ∧ ∀ m, m ∈ ns → (∀ y, y ∈ ns → y ≤ m) → Q (.val (.int m))
  | ds => maxLD ds

def rMinT (K : PySem.W.Frag) : List V → Hp → VK → Prop := fun vs H Q => rMin K vs H Q ∨ ∃ (a : Addr) (ns : List Int), vs = [V.ref a] ∧ SqT K H a (ns.map V.int) ∧ 0 < ns.length ∧ ∀ m, m ∈ ns → (∀ y, y ∈ ns → m ≤ y) → Q (.int m) H
theorem call_minT {X : Cx} (hc : X.calm = true) : CallR X (.builtin "min") (rMinT X.K) := by
  intro pins s σ H vs us Q I r h
  rcases h with h | h
  · exact cr_min hc pins s σ H vs us Q I r h
  obtain ⟨a, ns, rfl, hs, hne, q⟩ := h
  obtain ⟨its, rv, hl, _⟩ := I.tuple hs
  rw [Vals.ref1 r]
  exact min_tup (I.ok.hd hc) hl rv.ints hne fun h' tk m t' hk h1 h2 => ⟨.int _, H, I.kept hk, ⟨_, rfl⟩, q m h1 h2⟩
def minX : List D → PQ
  | [.tup ds] => fun Q => ∃ ns : List Int, ds = ns.map D.int ∧ 0 < ns.length ∧ ∀ m, m ∈ ns → (∀ y, y ∈ ns → m ≤ y) → Q (.val (.int m))
  | ds => minLD ds
theorem cd_sumX {K : PySem.W.Frag} : CallD K (rSumT K) sumX := by
  intro g vs ds Qd Q ok ha hw k
  unfold sumX at hw
  split at hw
  · obtain ⟨v, rfl, a⟩ := ha.one_inv
    obtain ⟨p, vs, rfl, hp, as⟩ := a.tup_inv
    obtain ⟨ns, rfl, q⟩ := hw
    rw [as.ints_inv] at hp
    exact .inr ⟨p, ns, rfl, ok.sub.sqT hp, k _ _ g ok.refl (.val (.int _)) q⟩
  · exact .inl (cd_sum g vs ds Qd Q ok ha hw k)
theorem cd_maxX {K : PySem.W.Frag} : CallD K (rMaxT K) maxX := by
  intro g vs ds Qd Q ok ha hw k
  unfold maxX at hw
  split at hw
  · obtain ⟨v, rfl, a⟩ := ha.one_inv
    obtain ⟨p, vs, rfl, hp, as⟩ := a.tup_inv
    obtain ⟨ns, rfl, l, q⟩ := hw
    rw [as.ints_inv] at hp
    exact .inr ⟨p, ns, rfl, ok.sub.sqT hp, l, fun m h1 h2 => k _ _ g ok.refl (.val (.int _)) (q m h1 h2)⟩
  · exact .inl (cd_maxL g vs ds Qd Q ok ha hw k)
theorem cd_minX {K : PySem.W.Frag} : CallD K (rMinT K) minX := by
  intro g vs ds Qd Q ok ha hw k
  unfold minX at hw
  split at hw
  · obtain ⟨v, rfl, a⟩ := ha.one_inv
    obtain ⟨p, vs, rfl, hp, as⟩ := a.tup_inv
    obtain ⟨ns, rfl, l, q⟩ := hw
    rw [as.ints_inv] at hp
    exact .inr ⟨p, ns, rfl, ok.sub.sqT hp, l, fun m h1 h2 => k _ _ g ok.refl (.val (.int _)) (q m h1 h2)⟩
  · exact .inl (cd_minL g vs ds Qd Q ok ha hw k)
section
variable {l : List Int} {Q : O → Prop}
@[simp] theorem sumX_L : sumX [L l] Q ↔ Q (.val (.int l.sum)) := sumD_L
@[simp] theorem maxX_L : maxX [L l] Q ↔ 0 < l.length ∧ ∀ m, m ∈ l → (∀ y, y ∈ l → y ≤ m) → Q (.val (.int m)) := maxLD_L
@[simp] theorem minX_L : minX [L l] Q ↔ 0 < l.length ∧ ∀ m, m ∈ l → (∀ y, y ∈ l → m ≤ y) → Q (.val (.int m)) := minLD_L
@[simp] theorem sumX_T : sumX [T l] Q ↔ Q (.val (.int l.sum)) :=
  ⟨fun ⟨ns, e, q⟩ => by rw [map_int_inj e]; exact q, fun q => ⟨l, rfl, q⟩⟩
@[simp] theorem maxX_T : maxX [T l] Q ↔ 0 < l.length ∧ ∀ m, m ∈ l → (∀ y, y ∈ l → y ≤ m) → Q (.val (.int m)) :=
  ⟨fun ⟨ns, e, q⟩ => by rw [map_int_inj e]; exact q, fun q => ⟨l, rfl, q⟩⟩
@[simp] theorem minX_T : minX [T l] Q ↔ 0 < l.length ∧ ∀ m, m ∈ l → (∀ y, y ∈ l → m ≤ y) → Q (.val (.int m)) :=
  ⟨fun ⟨ns, e, q⟩ => by rw [map_int_inj e]; exact q, fun q => ⟨l, rfl, q⟩⟩
end
end DL
/-! DAlt -/
namespace DL
open PySem PySem.Spec PyProof.Rows L2
def sAlt (s1 s2 : WS) : WS := fun env D E => s1 env D E ∨ s2 env D E
theorem dss_alt {X : Cx} {W : WX} {st : List Stmt} {s1 s2 : WS} (h1 : DSs X W st s1) (h2 : DSs X W st s2) : DSs X W st (sAlt s1 s2) := ⟨fun pins s σ H D I q => by
  obtain ⟨g0, g, env, De, Ee, e, h, hw, k⟩ := q
  rcases hw with hw | hw
  · exact h1.run pins s σ H D I ⟨g0, g, env, De, Ee, e, h, hw, k⟩
  · exact h2.run pins s σ H D I ⟨g0, g, env, De, Ee, e, h, hw, k⟩⟩
end DL
/-! DZipNm -/
namespace DL
open PySem PySem.Spec PyProof.Rows L2
open Builtin Builtin.SmallTypes
/-- a zip, whatever it knows of its last pair -/
def Zg (h : Heap) (z ti to : Addr) (v : Value) (f : Bool) : Prop := h.get? z = some ⟨.type "zip", none, .fields #[v, .bool f, .bool false, .ref ti, .ref to], #[]⟩
def Zx (h : Heap) (z ti to : Addr) : Prop := ∃ v f, Zg h z ti to v f ∧ (v = .none ∨ ∃ T : Addr, v = rawInt T)
section
variable {prog : Program} {w : World} {A : Around} {E : Value → Shared → Prop} {s : Shared} {z ti to j1 j2 : Addr}
theorem zg_set {v u : Value} {f : Bool} {k : Nat} {vs : Array Value} {Q : Unit → Shared → Prop} (hk : k < 5) (e : Zg s.heap z ti to v f) (ev : (#[v, .bool f, .bool false, .ref ti, .ref to] : Array Value).setIfInBounds k u = vs)
    (q : ∀ h', h'.get? z = some ⟨.type "zip", none, .fields vs, #[]⟩ → Heap.SameBut z s.heap h' → Q () { s with heap := h' }) : wpAny (model prog w) A (setField (.ref z) k u) Q E s :=
  wpAny_setField_rec e (by simpa using hk) fun h' e' b => q h' (by rw [← ev]; exact e') b
theorem zfree {v : Value} {f : Bool} {Q : Bool → Shared → Prop} (e : Zg s.heap z ti to v f) (hv : v = .none ∨ ∃ T : Addr, v = rawInt T)
    (q : ∀ b f' h', Zg h' z ti to v f' → Heap.SameBut z s.heap h' → Q b { s with heap := h' }) : wpAny (model prog w) A (ownedTupleIsFree (.ref z)) Q E s := by
  unfold ownedTupleIsFree
  rcases hv with rfl | ⟨T, rfl⟩
  · exact wpAny_bind (wpAny_field e rfl (x := .none) rfl (wpAny_pure (q _ f _ e (.refl _ _))))
  · refine wpAny_bind (wpAny_field e rfl (x := rawInt T) rfl ?_)
    have al : ∀ {B : Type} {k : Option Obj → Sem B} {Q : B → Shared → Prop}, wpAny (model prog w) A (k (s.heap.get? T)) Q E s → wpAny (model prog w) A (loadIfAlive ((T : Int).toNat) >>= k) Q E s := fun h => by
      rw [Int.toNat_natCast]
      exact wpAny_bind fun _ _ _ => h
    show wpAny _ _ (loadIfAlive ((T : Int).toNat) >>= fun x => _) _ _ _
    refine al ?_
    cases ht : s.heap.get? T with
    | none => exact wpAny_pure (q _ f _ e (.refl _ _))
    | some o =>
      simp only [Option.isNone_some, Bool.false_eq_true, if_false]
      refine wpAny_bind (wpAny_field e rfl (x := .bool f) rfl ?_)
      cases f with
      | true =>
        rw [if_neg (by decide)]
        exact wpAny_pure (q _ true _ e (.refl _ _))
      | false =>
        rw [if_pos (by decide)]
        exact wpAny_bind (zg_set (by decide) e rfl fun h1 e1 b1 => wpAny_pure (q _ true _ e1 b1))
end
section
variable {prog : Program} {w : World} {A : Around} {E : Value → Shared → Prop} {s : Shared} {z ti to j1 j2 : Addr} {fp1 fp2 : List Addr} {n1 n2 i : Nat} {P1 P2 : Nat → Value → Prop} {S1 S2 : Nat → Heap → Prop} {a1 a2 : Value}
/-- one more pair -/
theorem zn_item {Q : Value → Shared → Prop} (S : ZipSep2 z ti to j1 j2 fp1 fp2) (D1 : Draws prog w A j1 fp1 n1 P1 S1) (D2 : Draws prog w A j2 fp2 n2 P2 S2) (ez : Zx s.heap z ti to) (eti : IsTupOf2 s.heap ti (.ref j1) (.ref j2)) (eto : IsTupOf2 s.heap to a1 a2) (c1 : S1 i s.heap) (c2 : S2 i s.heap) (l1 : i < n1) (l2 : i < n2)
    (q : ∀ x1 x2 h' tk, P1 i x1 → P2 i x2 → Zx h' z ti to → (∃ b1 b2, IsTupOf2 h' to b1 b2) → S1 (i + 1) h' → S2 (i + 1) h' → IsTupOf2 h' s.heap.objs.size x1 x2 →
      (∀ c o, c ≠ z → c ≠ to → c ≠ j1 → c ≠ j2 → s.heap.get? c = some o → h'.get? c = some o) → Q (.ref s.heap.objs.size) { s with heap := h', toks := tk }) :
    wpAny (model prog w) A (Builtin.«zip.__next__» ⟨[.ref z], []⟩) (fun fin s' => ∃ v, fin = .done (.ret v) ∧ Q v s') E s := by
  obtain ⟨v, f, e, hv⟩ := ez
  obtain ⟨hp, gg, dd, tk0, os⟩ := s
  show wpAny _ _ (field (.ref z) 2 >>= fun x => _) _ _ _
  refine wpAny_bind (wpAny_field e rfl (show _ = some (Value.bool false) from rfl) ?_)
  show wpAny _ _ (field (.ref z) 3 >>= fun x => _) _ _ _
  refine wpAny_bind (wpAny_field e rfl (show _ = some (Value.ref ti) from rfl) ?_)
  refine wpAny_bind (wpAny_seqItems eti rfl ?_)
  show wpAny _ _ (ownedTupleIsFree (.ref z) >>= fun x => _) _ _ _
  refine wpAny_bind (zfree e hv fun b f' h0 e0 b0 => ?_)
  replace b0 : Heap.SameBut z hp h0 := b0
  have up0 : ∀ c o, c ≠ z → hp.get? c = some o → h0.get? c = some o := fun c o n q => b0.extBut _ _ n q
  have t0 := up0 to _ S.TOz eto
  have k1 := D1.over c1 b0 S.zf1
  have k2 := D2.over c2 b0 S.zf2
  cases b with
  | true =>
    simp only [if_true]
    refine wpAny_bind (wpAny_rule ?_)
    refine wpAny_bind (wpAny_field e0 rfl (show _ = some (Value.ref to) from rfl) ?_)
    refine wpAny_bind (zg_set (by decide) e0 rfl fun g0 ez0 sb0 => ?_)
    replace ez0 : Zg g0 z ti to .ellipsis f' := ez0
    replace sb0 : Heap.SameBut z h0 g0 := sb0
    refine wpAny_bind ?_
    simp only [List.zipIdx_cons, List.zipIdx_nil, List.forIn_cons, List.forIn_nil]
    refine wpAny_bind (wpAny_bind (wpAny_onRaise ?_))
    show wpAny _ _ (nextOf (.ref j1) >>= fun x => _) _ _ ⟨g0, gg, dd, tk0, os⟩
    refine wpAny_bind (D1.item i _ _ _ l1 (D1.over k1 sb0 S.zf1) fun x1 p1 tk1 hx1 sn1 sb1 => wpAny_pure ?_)
    replace sb1 : Heap.SameBut j1 g0 p1 := sb1
    have u1 : IsTupOf2 p1 to a1 a2 := sb1.extBut _ _ S.Ti1 (sb0.extBut _ _ S.TOz t0)
    refine wpAny_bind (wpAny_seqItems (s := ⟨p1, gg, dd, tk1, os⟩) u1 rfl ?_)
    refine wpAny_bind (updateSeq_IsTupOf2 (s := ⟨p1, gg, dd, tk1, os⟩) u1 fun g1 v1 sb2 => ?_)
    replace v1 : IsTupOf2 g1 to x1 a2 := v1
    replace sb2 : Heap.SameBut to p1 g1 := sb2
    refine wpAny_bind (wpAny_letGo (wpAny_pure ?_))
    refine wpAny_bind (wpAny_bind (wpAny_onRaise ?_))
    show wpAny _ _ (nextOf (.ref j2) >>= fun x => _) _ _ ⟨g1, gg, dd, tk1, os⟩
    refine wpAny_bind (D2.item i _ _ _ l2 (D2.over (D2.over (D2.over k2 sb0 S.zf2) sb1 S.sep1_2) sb2 S.Tf2) fun x2 p2 tk2 hx2 sn2 sb3 => wpAny_pure ?_)
    replace sb3 : Heap.SameBut j2 g1 p2 := sb3
    have u2 : IsTupOf2 p2 to x1 a2 := sb3.extBut _ _ S.Ti2 v1
    refine wpAny_bind (wpAny_seqItems (s := ⟨p2, gg, dd, tk2, os⟩) u2 rfl ?_)
    refine wpAny_bind (updateSeq_IsTupOf2 (s := ⟨p2, gg, dd, tk2, os⟩) u2 fun g2 v2 sb4 => ?_)
    replace v2 : IsTupOf2 g2 to x1 x2 := v2
    replace sb4 : Heap.SameBut to p2 g2 := sb4
    refine wpAny_bind (wpAny_letGo (wpAny_pure (wpAny_pure ?_)))
    refine wpAny_bind (wpAny_seqItems (s := ⟨g2, gg, dd, tk2, os⟩) v2 rfl ?_)
    refine wpAny_bind (wpAny_newTuple ?_)
    have sz : g2.objs.size = hp.objs.size := by rw [sb4.1, sb3.1, sb2.1, sb1.1, sb0.1, b0.1]
    have ez2 : Zg g2 z ti to .ellipsis f' := sb4.extBut _ _ S.TOz.symm (sb3.extBut _ _ S.zi2 (sb2.extBut _ _ S.TOz.symm (sb1.extBut _ _ S.zi1 ez0)))
    have kk : ∀ c o, c ≠ z → c ≠ to → c ≠ j1 → c ≠ j2 → hp.get? c = some o → g2.get? c = some o := fun c o n1 n2 n3 n4 q => sb4.extBut _ _ n2 (sb3.extBut _ _ n4 (sb2.extBut _ _ n2 (sb1.extBut _ _ n3 (sb0.extBut _ _ n1 (up0 c o n1 q)))))
    have m1 : S1 (i + 1) g2 := D1.over (D1.over (D1.over sn1 sb2 S.Tf1) sb3 S.sep2_1) sb4 S.Tf1
    have m2 : S2 (i + 1) g2 := D2.over sn2 sb4 S.Tf2
    have zl : z < g2.objs.size := Heap.lt_size ez2
    show wpAny _ _ (ownedTupleHandOut (.ref z) (.ref g2.objs.size) >>= fun x => _) _ _ ⟨g2.push ⟨.type "tuple", none, .seq #[x1, x2], #[]⟩, gg, dd, tk2, os⟩
    refine wpAny_bind ?_
    unfold ownedTupleHandOut
    have ez3 : Zg (g2.push ⟨.type "tuple", none, .seq #[x1, x2], #[]⟩) z ti to .ellipsis f' := Heap.get?_push_of_some _ ez2
    refine wpAny_bind (zg_set (by decide) ez3 rfl fun h7 ez7 sb7 => ?_)
    replace ez7 : Zg h7 z ti to (rawInt g2.objs.size) f' := ez7
    refine zg_set (by decide) ez7 rfl fun h8 ez8 sb8 => ?_
    replace ez8 : Zg h8 z ti to (rawInt g2.objs.size) false := ez8
    replace sb7 : Heap.SameBut z (g2.push ⟨.type "tuple", none, .seq #[x1, x2], #[]⟩) h7 := sb7
    replace sb8 : Heap.SameBut z h7 h8 := sb8
    have up : ∀ c o, c ≠ z → g2.get? c = some o → h8.get? c = some o := fun c o n q => sb8.extBut _ _ n (sb7.extBut _ _ n (Heap.get?_push_of_some _ q))
    have tt : IsTupOf2 h8 g2.objs.size x1 x2 := sb8.extBut _ _ (Nat.ne_of_gt zl) (sb7.extBut _ _ (Nat.ne_of_gt zl) (Heap.get?_push_size _ rfl))
    refine wpAny_pure ⟨_, rfl, ?_⟩
    show Q (.ref g2.objs.size) ⟨h8, gg, dd, tk2, os⟩
    rw [sz] at tt ⊢
    exact q x1 x2 h8 tk2 hx1 hx2 ⟨_, _, ez8, .inr ⟨_, rfl⟩⟩ ⟨_, _, up _ _ S.TOz v2⟩ (D1.frame _ _ _ m1 fun b hb o e => up b o (fun q => S.zf1 (q ▸ hb)) e) (D2.frame _ _ _ m2 fun b hb o e => up b o (fun q => S.zf2 (q ▸ hb)) e) tt fun c o n1 n2 n3 n4 q => up c o n1 (kk c o n1 n2 n3 n4 q)
  | false =>
    simp only [Bool.false_eq_true, if_false]
    refine wpAny_bind ?_
    rw [← Array.forIn_toList]
    simp only [List.forIn_cons, List.forIn_nil]
    refine wpAny_bind (wpAny_bind (wpAny_holding ?_))
    show wpAny _ _ (nextOf (.ref j1) >>= fun x => _) _ _ ⟨h0, gg, dd, tk0, os⟩
    refine wpAny_bind (D1.item i _ _ _ l1 k1 fun x1 p1 tk1 hx1 sn1 sb1 => wpAny_pure ?_)
    replace sb1 : Heap.SameBut j1 h0 p1 := sb1
    refine wpAny_pure ?_
    refine wpAny_bind (wpAny_bind (wpAny_holding ?_))
    show wpAny _ _ (nextOf (.ref j2) >>= fun x => _) _ _ ⟨p1, gg, dd, tk1, os⟩
    refine wpAny_bind (D2.item i _ _ _ l2 (D2.over k2 sb1 S.sep1_2) fun x2 p2 tk2 hx2 sn2 sb2 => wpAny_pure ?_)
    replace sb2 : Heap.SameBut j2 p1 p2 := sb2
    refine wpAny_pure (wpAny_pure ?_)
    show wpAny _ _ (newTuple [x1, x2] >>= fun x => _) _ _ ⟨p2, gg, dd, tk2, os⟩
    refine wpAny_bind (wpAny_newTuple ?_)
    have sz : p2.objs.size = hp.objs.size := by rw [sb2.1, sb1.1, b0.1]
    have ez2 : Zg p2 z ti to v f' := sb2.extBut _ _ S.zi2 (sb1.extBut _ _ S.zi1 e0)
    have t2 : IsTupOf2 p2 to a1 a2 := sb2.extBut _ _ S.Ti2 (sb1.extBut _ _ S.Ti1 t0)
    have m1 : S1 (i + 1) p2 := D1.over sn1 sb2 S.sep2_1
    refine wpAny_pure ⟨_, rfl, ?_⟩
    show Q (.ref p2.objs.size) ⟨p2.push ⟨.type "tuple", none, .seq #[x1, x2], #[]⟩, gg, dd, tk2, os⟩
    have tt : IsTupOf2 (p2.push ⟨.type "tuple", none, .seq #[x1, x2], #[]⟩) p2.objs.size x1 x2 := Heap.get?_push_size _ rfl
    rw [sz] at tt ⊢
    exact q x1 x2 _ tk2 hx1 hx2 ⟨v, f', Heap.get?_push_of_some _ ez2, hv⟩ ⟨a1, a2, Heap.get?_push_of_some _ t2⟩ (D1.frame _ _ _ m1 fun b hb o e => Heap.get?_push_of_some _ e) (D2.frame _ _ _ sn2 fun b hb o e => Heap.get?_push_of_some _ e) tt fun c o n1 n2 n3 n4 q => Heap.get?_push_of_some _ (sb2.extBut _ _ n4 (sb1.extBut _ _ n3 (up0 c o n1 q)))
/-- no more -/
theorem zn_end {Q : Fin → Shared → Prop} (S : ZipSep2 z ti to j1 j2 fp1 fp2) (D1 : Draws prog w A j1 fp1 n1 P1 S1) (D2 : Draws prog w A j2 fp2 n2 P2 S2) (ez : Zx s.heap z ti to) (eti : IsTupOf2 s.heap ti (.ref j1) (.ref j2)) (eto : IsTupOf2 s.heap to a1 a2) (c1 : S1 i s.heap) (c2 : S2 i s.heap) (l1 : i ≤ n1) (l2 : i ≤ n2) (hl : i = n1 ∨ i = n2)
    (q : ∀ h' tk e, (∀ c o, c ≠ z → c ≠ to → c ≠ j1 → c ≠ j2 → s.heap.get? c = some o → h'.get? c = some o) → (∃ o, h'.get? e = some o ∧ o.cls = .type "StopIteration") → E (.ref e) { s with heap := h', toks := tk }) :
    wpAny (model prog w) A (Builtin.«zip.__next__» ⟨[.ref z], []⟩) Q E s := by
  obtain ⟨v, f, e, hv⟩ := ez
  obtain ⟨hp, gg, dd, tk0, os⟩ := s
  show wpAny _ _ (field (.ref z) 2 >>= fun x => _) _ _ _
  refine wpAny_bind (wpAny_field e rfl (show _ = some (Value.bool false) from rfl) ?_)
  show wpAny _ _ (field (.ref z) 3 >>= fun x => _) _ _ _
  refine wpAny_bind (wpAny_field e rfl (show _ = some (Value.ref ti) from rfl) ?_)
  refine wpAny_bind (wpAny_seqItems eti rfl ?_)
  show wpAny _ _ (ownedTupleIsFree (.ref z) >>= fun x => _) _ _ _
  refine wpAny_bind (zfree e hv fun b f' h0 e0 b0 => ?_)
  replace b0 : Heap.SameBut z hp h0 := b0
  have up0 : ∀ c o, c ≠ z → hp.get? c = some o → h0.get? c = some o := fun c o n q => b0.extBut _ _ n q
  have t0 := up0 to _ S.TOz eto
  have k1 := D1.over c1 b0 S.zf1
  have k2 := D2.over c2 b0 S.zf2
  cases b with
  | true =>
    simp only [if_true]
    refine wpAny_bind (wpAny_rule ?_)
    refine wpAny_bind (wpAny_field e0 rfl (show _ = some (Value.ref to) from rfl) ?_)
    refine wpAny_bind (zg_set (by decide) e0 rfl fun g0 ez0 sb0 => ?_)
    replace ez0 : Zg g0 z ti to .ellipsis f' := ez0
    replace sb0 : Heap.SameBut z h0 g0 := sb0
    refine wpAny_bind ?_
    simp only [List.zipIdx_cons, List.zipIdx_nil, List.forIn_cons, List.forIn_nil]
    refine wpAny_bind (wpAny_bind (wpAny_onRaise ?_))
    show wpAny _ _ (nextOf (.ref j1) >>= fun x => _) _ _ ⟨g0, gg, dd, tk0, os⟩
    by_cases lt : i < n1
    · refine wpAny_bind (D1.item i _ _ _ lt (D1.over k1 sb0 S.zf1) fun x1 p1 tk1 hx1 sn1 sb1 => wpAny_pure ?_)
      replace sb1 : Heap.SameBut j1 g0 p1 := sb1
      have u1 : IsTupOf2 p1 to a1 a2 := sb1.extBut _ _ S.Ti1 (sb0.extBut _ _ S.TOz t0)
      refine wpAny_bind (wpAny_seqItems (s := ⟨p1, gg, dd, tk1, os⟩) u1 rfl ?_)
      refine wpAny_bind (updateSeq_IsTupOf2 (s := ⟨p1, gg, dd, tk1, os⟩) u1 fun g1 v1 sb2 => ?_)
      replace sb2 : Heap.SameBut to p1 g1 := sb2
      refine wpAny_bind (wpAny_letGo (wpAny_pure ?_))
      have e2 : i = n2 := by omega
      refine wpAny_bind (wpAny_bind (wpAny_onRaise ?_))
      show wpAny _ _ (nextOf (.ref j2) >>= fun x => _) _ _ ⟨g1, gg, dd, tk1, os⟩
      refine wpAny_bind (D2.done ⟨g1, gg, dd, tk1, os⟩ _ _ (by rw [← e2]; exact D2.over (D2.over (D2.over k2 sb0 S.zf2) sb1 S.sep1_2) sb2 S.Tf2) fun r ex hr he => ?_)
      replace hr : Heap.ExtBut j2 g1 r := hr
      obtain ⟨oe, he1, he2⟩ := he
      replace he1 : r.get? ex = some oe := he1
      have ezr : Zg r z ti to .ellipsis f' := hr _ _ S.zi2 (sb2.extBut _ _ S.TOz.symm (sb1.extBut _ _ S.zi1 ez0))
      have ne : ex ≠ z := fun x => by subst x; rw [ezr] at he1; cases he1; simp at he2
      refine zg_set (s := ⟨r, gg, dd, tk1, os⟩) (by decide) ezr rfl fun r' _ sr => ?_
      replace sr : Heap.SameBut z r r' := sr
      exact q r' tk1 ex (fun c o n1 n2 n3 n4 x => sr.extBut _ _ n1 (hr _ _ n4 (sb2.extBut _ _ n2 (sb1.extBut _ _ n3 (sb0.extBut _ _ n1 (up0 c o n1 x)))))) ⟨oe, sr.extBut _ _ ne he1, he2⟩
    · have e1 : i = n1 := by omega
      refine wpAny_bind (D1.done ⟨g0, gg, dd, tk0, os⟩ _ _ (by rw [← e1]; exact D1.over k1 sb0 S.zf1) fun r ex hr he => ?_)
      replace hr : Heap.ExtBut j1 g0 r := hr
      obtain ⟨oe, he1, he2⟩ := he
      replace he1 : r.get? ex = some oe := he1
      have ezr : Zg r z ti to .ellipsis f' := hr _ _ S.zi1 ez0
      have ne : ex ≠ z := fun x => by subst x; rw [ezr] at he1; cases he1; simp at he2
      refine zg_set (s := ⟨r, gg, dd, tk0, os⟩) (by decide) ezr rfl fun r' _ sr => ?_
      replace sr : Heap.SameBut z r r' := sr
      exact q r' tk0 ex (fun c o n1 n2 n3 n4 x => sr.extBut _ _ n1 (hr _ _ n3 (sb0.extBut _ _ n1 (up0 c o n1 x)))) ⟨oe, sr.extBut _ _ ne he1, he2⟩
  | false =>
    simp only [Bool.false_eq_true, if_false]
    refine wpAny_bind ?_
    rw [← Array.forIn_toList]
    simp only [List.forIn_cons, List.forIn_nil]
    refine wpAny_bind (wpAny_bind (wpAny_holding ?_))
    show wpAny _ _ (nextOf (.ref j1) >>= fun x => _) _ _ ⟨h0, gg, dd, tk0, os⟩
    by_cases lt : i < n1
    · refine wpAny_bind (D1.item i _ _ _ lt k1 fun x1 p1 tk1 hx1 sn1 sb1 => wpAny_pure ?_)
      replace sb1 : Heap.SameBut j1 h0 p1 := sb1
      refine wpAny_pure ?_
      have e2 : i = n2 := by omega
      refine wpAny_bind (wpAny_bind (wpAny_holding ?_))
      show wpAny _ _ (nextOf (.ref j2) >>= fun x => _) _ _ ⟨p1, gg, dd, tk1, os⟩
      refine wpAny_bind (D2.done ⟨p1, gg, dd, tk1, os⟩ _ _ (by rw [← e2]; exact D2.over k2 sb1 S.sep1_2) fun r ex hr he => ?_)
      replace hr : Heap.ExtBut j2 p1 r := hr
      exact q r tk1 ex (fun c o n1 n2 n3 n4 x => hr _ _ n4 (sb1.extBut _ _ n3 (up0 c o n1 x))) he
    · have e1 : i = n1 := by omega
      refine wpAny_bind (D1.done ⟨h0, gg, dd, tk0, os⟩ _ _ (by rw [← e1]; exact k1) fun r ex hr he => ?_)
      replace hr : Heap.ExtBut j1 h0 r := hr
      exact q r tk0 ex (fun c o n1 n2 n3 n4 x => hr _ _ n3 (up0 c o n1 x)) he
theorem zn_next {Q : Option Value → Shared → Prop} (S : ZipSep2 z ti to j1 j2 fp1 fp2) (D1 : Draws prog w A.in1 j1 fp1 n1 P1 S1) (D2 : Draws prog w A.in1 j2 fp2 n2 P2 S2) (ez : Zx s.heap z ti to) (eti : IsTupOf2 s.heap ti (.ref j1) (.ref j2)) (eto : IsTupOf2 s.heap to a1 a2) (c1 : S1 i s.heap) (c2 : S2 i s.heap) (l1 : i < n1) (l2 : i < n2)
    (q : ∀ x1 x2 h' tk, P1 i x1 → P2 i x2 → Zx h' z ti to → (∃ b1 b2, IsTupOf2 h' to b1 b2) → S1 (i + 1) h' → S2 (i + 1) h' → IsTupOf2 h' s.heap.objs.size x1 x2 →
      (∀ c o, c ≠ z → c ≠ to → c ≠ j1 → c ≠ j2 → s.heap.get? c = some o → h'.get? c = some o) → Q (some (.ref s.heap.objs.size)) { s with heap := h', toks := tk }) : wpAny (model prog w) A (pyNext (.ref z)) Q E s := by
  have ez' := ez
  obtain ⟨v, f, e, hv⟩ := ez
  have ty : s.TypeIs (.ref z) "zip" := ⟨_, e, rfl⟩
  unfold pyNext
  refine wpAny_bind (wpAny_attempt (wpAny_callSpecial?_slot (name := "__next__") ty F.slot_zip_next (wpAny_call_entry F.slot_zip_next ty F.entry_zip_next ?_ (F.args_zip_next_1 _))))
  exact zn_item S D1 D2 ez' eti eto c1 c2 l1 l2 fun x1 x2 h' tk y1 y2 b1 b2 b3 b4 b5 b6 => wpAny_pure (q x1 x2 h' tk y1 y2 b1 b2 b3 b4 b5 b6)
theorem zn_stop {Q : Option Value → Shared → Prop} (S : ZipSep2 z ti to j1 j2 fp1 fp2) (D1 : Draws prog w A.in1 j1 fp1 n1 P1 S1) (D2 : Draws prog w A.in1 j2 fp2 n2 P2 S2) (ez : Zx s.heap z ti to) (eti : IsTupOf2 s.heap ti (.ref j1) (.ref j2)) (eto : IsTupOf2 s.heap to a1 a2) (c1 : S1 i s.heap) (c2 : S2 i s.heap) (l1 : i ≤ n1) (l2 : i ≤ n2) (hl : i = n1 ∨ i = n2)
    (q : ∀ h' tk, (∀ c o, c ≠ z → c ≠ to → c ≠ j1 → c ≠ j2 → s.heap.get? c = some o → h'.get? c = some o) → Q none { s with heap := h', toks := tk }) : wpAny (model prog w) A (pyNext (.ref z)) Q E s := by
  have ez' := ez
  obtain ⟨v, f, e, hv⟩ := ez
  have ty : s.TypeIs (.ref z) "zip" := ⟨_, e, rfl⟩
  unfold pyNext
  refine wpAny_bind (wpAny_attempt (wpAny_callSpecial?_slot (name := "__next__") ty F.slot_zip_next (wpAny_call_entry F.slot_zip_next ty F.entry_zip_next ?_ (F.args_zip_next_1 _))))
  refine zn_end S D1 D2 ez' eti eto c1 c2 l1 l2 hl fun h' tk ex hk he => ?_
  obtain ⟨o, ho, hc⟩ := he
  exact wpAny_bind (wpAny_isInstance (T := "StopIteration") (b := true) ⟨o, ho, hc⟩ isSubtype_stop (wpAny_pure (q _ _ hk)))
end
theorem znm_iter {prog : Program} {w : World} {A : Around} {E : Value → Shared → Prop} {s : Shared} {z ti to : Addr} {Q : Value → Shared → Prop} (st : Zx s.heap z ti to) (h : Q (.ref z) s) : wpAny (model prog w) A (pyIter (.ref z)) Q E s := by
  obtain ⟨v0, f0, e0, _⟩ := st
  have ty : s.TypeIs (.ref z) "zip" := ⟨_, e0, rfl⟩
  refine wpAny_pyIter_slot ty F.slot_zip_iter (wpAny_call_entry F.slot_zip_iter ty F.entry_zip_iter (show wpAny _ _ (ret (.ref z)) _ _ s from ?_) (F.args_zip_iter_1 _))
  exact wpAny_pure ⟨_, rfl, "zip", _, ty, F.slot_zip_next.lookup, h⟩
theorem turn_nm {P : Program} {w : World} {K : PySem.W.Frag} {y : Str} {py : Pos} {t u : Bool} {a b z ti to j1 j2 : Addr} (S : ZipSep2 z ti to j1 j2 [j1, a] [j2, b]) :
    Turn P w K (.Name y py) (Itzn K t u a b) [z, ti, to, j1, j2] z (fun i h => Zx h z ti to ∧ IsTupOf2 h ti (.ref j1) (.ref j2) ∧ (∃ x y, IsTupOf2 h to x y) ∧ ItB t h j1 a i ∧ ItB u h j2 b i) where
  mem := by simp
  obj := fun i h st c hc => by
    obtain ⟨⟨v0, f0, hz, _⟩, hti, ⟨x, y, hto⟩, h1, h2⟩ := st
    obtain ⟨o1, e1, v1, d1⟩ := h1.there
    obtain ⟨o2, e2, v2, d2⟩ := h2.there
    simp only [List.mem_cons, List.mem_nil_iff, or_false] at hc
    rcases hc with rfl | rfl | rfl | rfl | rfl
    · exact ⟨_, hz, fun v q => nomatch q⟩
    · exact ⟨_, hti, fun v q => nomatch q⟩
    · exact ⟨_, hto, fun v q => nomatch q⟩
    · exact ⟨o1, e1, fun v q => by rw [d1] at q; cases q⟩
    · exact ⟨o2, e2, fun v q => by rw [d2] at q; cases q⟩
  keep := fun i h h' st k => by
    obtain ⟨⟨v0, f0, hz, hv⟩, hti, ⟨x, y, hto⟩, h1, h2⟩ := st
    exact ⟨⟨v0, f0, k z (by simp) _ hz, hv⟩, k ti (by simp) _ hti, ⟨x, y, k to (by simp) _ hto⟩, h1.at_ fun o q => k j1 (by simp) o q, h2.at_ fun o q => k j2 (by simp) o q⟩
  item := by
    intro X hP hw hK hc i pins s σ H E I hf st hg
    subst hP hw hK
    obtain ⟨hz, hti, ⟨x0, y0, hto⟩, h1, h2⟩ := st
    obtain ⟨xs, ys, x, y, hqx, hqy, hx, hy⟩ := hg
    obtain ⟨its, rv, p1⟩ := Inv.seqB I hqx
    obtain ⟨its2, rv2, p2⟩ := Inv.seqB I hqy
    obtain ⟨u1, hu, ru⟩ := rv.get hx
    obtain ⟨u2, hu2, ru2⟩ := rv2.get hy
    have l1 := rv.length
    have l2 := rv2.length
    obtain ⟨v0, f0, hz0, _⟩ := id hz
    have hzl : z < s.heap.objs.size := Heap.lt_size hz0
    have hi : i < its.toArray.size := by
      have := (List.getElem?_eq_some_iff.mp hu).1
      simpa using this
    have Da := drawsB (prog := X.prog) (w := X.w) (A := X.A.in1) t (I.ok.hd hc) j1 a (seq_ne_it p1 h1) its.toArray
    have Db := drawsB (prog := X.prog) (w := X.w) (A := X.A.in1) u (I.ok.hd hc) j2 b (seq_ne_it p2 h2) its2.toArray
    have hi2 : i < its2.toArray.size := by
      have := (List.getElem?_eq_some_iff.mp hu2).1
      simpa using this
    refine zn_next S Da Db hz hti hto ⟨h1, p1⟩ ⟨h2, p2⟩ hi hi2 fun v1 v2 h' tk q1 q2 z' to' sa sb pr hk => ?_
    obtain rfl : v1 = u1 := by
      have q1 : its.toArray[i]? = some v1 := q1
      rw [List.getElem?_toArray, hu] at q1
      exact (Option.some.inj q1).symm
    obtain rfl : v2 = u2 := by
      have q2 : its2.toArray[i]? = some v2 := q2
      rw [List.getElem?_toArray, hu2] at q2
      exact (Option.some.inj q2).symm
    refine ⟨_, rfl, ?_⟩
    show wpAny _ _ (pure ()) _ _ _
    refine wpAny_pure ?_
    have new : ObjOk X.prog X.w (upd H s.heap.objs.size (.frz { cls := .type "tuple", data := .seq #[v1, v2] } (.tup [x, y]))) h' s.heap.objs.size (.frz { cls := .type "tuple", data := .seq #[v1, v2] } (.tup [x, y])) :=
      ⟨pr, by show 2 ≤ sizeLine; decide, [v1, v2], .cons ru (.cons ru2 .nil), ⟨_, pr, rfl, _, rfl⟩⟩
    have hk2 : ∀ c o, c ∉ [z, ti, to, j1, j2] → s.heap.get? c = some o → h'.get? c = some o := fun c o m q => by
      simp only [List.mem_cons, List.mem_nil_iff, or_false, not_or] at m
      exact hk c o m.1 m.2.2.1 m.2.2.2.1 m.2.2.2.2 q
    have I1 : L2.Inv X pins σ (upd H s.heap.objs.size (.frz { cls := .type "tuple", data := .seq #[v1, v2] } (.tup [x, y]))) { s with heap := h', toks := tk } := I.turnedNew (t' := tk) (ch := [z, ti, to, j1, j2]) hk2 hf (Nat.le_refl _) new
    refine ⟨.ref s.heap.objs.size, _, I1, rfl, ⟨_, _, x, y, rfl, I.hok.fresh (Nat.le_refl _), rfl, rfl, fun l hl => by rw [Inv.seqB_inj I hl hqx]; exact hx, fun l hl => by rw [Inv.seqB_inj I hl hqy]; exact hy⟩, ⟨z', ?_, to', sa.1, sb.1⟩, fun c hcm => ?_⟩
    · exact hk _ _ S.TIz S.TITO S.TIi1 S.TIi2 hti
    · obtain ⟨o1, e1, _⟩ := h1.there
      obtain ⟨o2, e2, _⟩ := h2.there
      have hlt : c < s.heap.objs.size := by
        simp only [List.mem_cons, List.mem_nil_iff, or_false] at hcm
        rcases hcm with rfl | rfl | rfl | rfl | rfl
        · exact hzl
        · exact Heap.lt_size hti
        · exact Heap.lt_size hto
        · exact Heap.lt_size e1
        · exact Heap.lt_size e2
      rw [upd_ne (Nat.ne_of_lt hlt)]
      exact (hf c hcm).1
  done := by
    intro X hP hw hK hc i pins s σ H E I hf st hg
    subst hP hw hK
    obtain ⟨hz, hti, ⟨x0, y0, hto⟩, h1, h2⟩ := st
    obtain ⟨xs, ys, hqx, hqy, hend⟩ := hg
    obtain ⟨its, rv, p1⟩ := Inv.seqB I hqx
    obtain ⟨its2, rv2, p2⟩ := Inv.seqB I hqy
    have l1 := rv.length
    have l2 := rv2.length
    have fin : ∀ h' tk, (∀ c o, c ≠ z → c ≠ to → c ≠ j1 → c ≠ j2 → s.heap.get? c = some o → h'.get? c = some o) → L2.Inv X pins σ H { s with heap := h', toks := tk } := fun h' tk hk => I.turnedL (t' := tk) (ch := [z, ti, to, j1, j2]) (fun c o m q => by
      simp only [List.mem_cons, List.mem_nil_iff, or_false, not_or] at m
      exact hk c o m.1 m.2.2.1 m.2.2.2.1 m.2.2.2.2 q) hf
    by_cases e1 : xs.length ≤ i
    · have Da := drawsE (prog := X.prog) (w := X.w) (A := X.A.in1) t (I.ok.hd hc) j1 a its.toArray i (by simp; omega)
      by_cases e2 : ys.length ≤ i
      · have Db := drawsE (prog := X.prog) (w := X.w) (A := X.A.in1) u (I.ok.hd hc) j2 b its2.toArray i (by simp; omega)
        exact zn_stop S Da Db hz hti hto ⟨h1, p1, rfl⟩ ⟨h2, p2, rfl⟩ (Nat.le_refl _) (Nat.le_refl _) (.inl rfl) fun h' tk hk => ⟨rfl, fin h' tk hk⟩
      · have Db := drawsB (prog := X.prog) (w := X.w) (A := X.A.in1) u (I.ok.hd hc) j2 b (seq_ne_it p2 h2) its2.toArray
        exact zn_stop S Da Db hz hti hto ⟨h1, p1, rfl⟩ ⟨h2, p2⟩ (Nat.le_refl _) (by simp; omega) (.inl rfl) fun h' tk hk => ⟨rfl, fin h' tk hk⟩
    · have e2 : ys.length ≤ i := by omega
      have Da := drawsB (prog := X.prog) (w := X.w) (A := X.A.in1) t (I.ok.hd hc) j1 a (seq_ne_it p1 h1) its.toArray
      have Db := drawsE (prog := X.prog) (w := X.w) (A := X.A.in1) u (I.ok.hd hc) j2 b its2.toArray i (by simp; omega)
      exact zn_stop S Da Db hz hti hto ⟨h1, p1⟩ ⟨h2, p2, rfl⟩ (by simp; omega) (Nat.le_refl _) (.inr rfl) fun h' tk hk => ⟨rfl, fin h' tk hk⟩
  self := fun A i s Q E st h => znm_iter st.1 h
theorem pi_znm {X : Cx} {e e2 : Expr} {ta : TA} {p pos py : Pos} {y : Str} (hg : Gl X "zip") (hm : X.mg "zip" = none) (ha : PA X [e, e2] ta)
    (hs : starEach [e, e2] X.env = (false, eval e X.env) :: starEach [e2] X.env := by rfl) (hpl : (backTo pos (starEach [e2] X.env)).any (·.1) = false := by rfl) :
    PI X (.Name y py) (.Call (.Name "zip" p) [e, e2] [] pos) (tZn X.K ta) := by
  refine ⟨fun pins s σ H R I h => ?_⟩
  refine Call_ (ld_blt I hg hm PyProof.Rows.boot_zip (PyProof.Rows.callWith_type1 (thn (ha.run pos pins s σ H _ I h) fun us s1 ⟨vs, H1, I1, r1, q1⟩ => ?_) hs hpl))
  obtain ⟨t, u, a, b, xs, ys, ex, hx, hy, q⟩ := q1
  subst ex
  obtain ⟨u1, u2, rfl, ra, rb⟩ := vals2 r1
  obtain rfl : u1 = Value.ref a := ra
  obtain rfl : u2 = Value.ref b := rb
  obtain ⟨its, rv, p1⟩ := Inv.seqB I1 hx
  obtain ⟨its2, rv2, p2⟩ := Inv.seqB I1 hy
  refine zip_begins2 (beginsB t a its.toArray) (beginsB u b its2.toArray) p1 p2 fun h' hz hti hto hi1 hi2 _ hk => znm_iter ⟨_, _, hz, .inl rfl⟩ ?_
  obtain ⟨oa, na, ea, _⟩ := p1.there
  obtain ⟨ob, nb, eb, _⟩ := p2.there
  have la : a < s1.heap.objs.size := Heap.lt_size ea
  have lb : b < s1.heap.objs.size := Heap.lt_size eb
  refine ⟨s1.heap.objs.size + 4, [s1.heap.objs.size + 4, s1.heap.objs.size + 2, s1.heap.objs.size + 3, s1.heap.objs.size, s1.heap.objs.size + 1], _, _, H1, rfl, I1.kept (t' := s1.toks) hk,
    turn_nm (t := t) (u := u) (zip_sep2 (fp1 := [a]) (fp2 := [b]) (fun c m => by obtain rfl := List.mem_singleton.mp m; exact la) (fun c m => by obtain rfl := List.mem_singleton.mp m; exact lb)), ⟨⟨_, _, hz, .inl rfl⟩, hti, ⟨_, _, hto⟩, .new hi1, .new hi2⟩, fun c m => ?_, q⟩
  have hle : s1.heap.objs.size ≤ c := by
    simp only [List.mem_cons, List.mem_nil_iff, or_false] at m
    rcases m with rfl | rfl | rfl | rfl | rfl <;> omega
  exact I1.fpOk hle (I1.hok.fresh hle)
theorem di_znm {X : Cx} {W : WX} {wa wb : WE} {e e2 : Expr} {p pos py : Pos} {y : Str} (hm : X.mg "zip" = none) (he : DE X W e wa) (he2 : DE X W e2 wb) (hg : Gl X "zip" := by rfl)
    (hs : starEach [e, e2] X.env = (false, eval e X.env) :: starEach [e2] X.env := by rfl) (hs2 : starEach [e2] X.env = (false, eval e2 X.env) :: starEach [] X.env := by rfl) (hpl : (backTo pos (starEach [e2] X.env)).any (·.1) = false := by rfl) :
    DI X W (.Name y py) (.Call (.Name "zip" p) [e, e2] [] pos) (iZn wa wb) := pi_imp (pi_znm hg hm (pa_cons he (pa_cons he2 pa_nil hs2) hs) hs hpl) fun σ H R ⟨g, env, Qd, Ed, eH, es, hw, k, kx⟩ => by
  subst eH
  show LE X W wa σ g.H fun x H1 => LE X W wb σ H1 fun y H2 => ∃ (t u : Bool) (a b : Addr) (xs ys : List V), [x, y] = [V.ref a, V.ref b] ∧ SqB t X.K H2 a xs ∧ SqB u X.K H2 b ys ∧ R (Itzn X.K t u a b) H2
  refine LE.go (R := fun d => wb env (fun u => seqQ (fun ds => seqQ (fun es => Qd (zipF ds es)) u.d) d) Ed) es hw (fun v d g1 s1 a1 h1 => ?_) kx
  refine LE.go (R := fun d' => seqQ (fun ds => seqQ (fun es => Qd (zipF ds es)) d') d) (es.step s1) h1 (fun v' d' g2 s2 a2 h2 => ?_) (XL.on kx s1)
  obtain ⟨t, p1, vs, ds, rfl, f1, as1, h2⟩ := seqQ_inv a1 h2
  obtain ⟨u, p2, ws, es', rfl, f2, as2, q⟩ := seqQ_inv a2 h2
  have f1' := f1.up s2.up
  have as1' := as1.mono s2.up s2.zs
  exact ⟨t, u, p1, p2, vs, ws, rfl, f1'.sq0 s2.ok, f2.sq0 s2.ok, k _ _ g2 (s1.trans s2) (itok_zn f1' f2 as1' as2) q⟩
end DL
/-! Parts -/
namespace DL
open PySem PySem.Spec PyProof.Rows L2
section
variable {α : Type} [Enc α] [DecidableEq α]
def fstA : List α → List α → List α
  | acc, [] => acc
  | acc, a :: l => if a ∈ acc then fstA acc l else fstA (acc ++ [a]) l
def firsts (l : List α) : List α := fstA [] l
def idxD (fs : List α) (a : α) : Nat := fs.findIdx fun x => decide (x = a)
theorem idxD_lt {fs : List α} {a : α} (h : a ∈ fs) : idxD fs a < fs.length := List.findIdx_lt_length_of_exists ⟨a, h, by simp⟩
def tp (l : List α) : List Int := l.map fun a => ((idxD (firsts l) a : Nat) : Int)
theorem fstA_acc : ∀ (l acc : List α), ∀ a ∈ acc, a ∈ fstA acc l
  | [], acc, a, h => h
  | b :: l, acc, a, h => by
    unfold fstA
    split
    · exact fstA_acc l acc a h
    · exact fstA_acc l _ a (List.mem_append_left _ h)
theorem fstA_mem : ∀ (l acc : List α), ∀ a ∈ l, a ∈ fstA acc l
  | b :: l, acc, a, h => by
    unfold fstA
    rcases List.mem_cons.mp h with rfl | h
    · split
      · exact fstA_acc l acc a (by assumption)
      · exact fstA_acc l _ a (by simp)
    · split <;> exact fstA_mem l _ a h
theorem fstA_sub : ∀ (l acc : List α), ∀ a ∈ fstA acc l, a ∈ acc ∨ a ∈ l
  | [], acc, a, h => .inl h
  | b :: l, acc, a, h => by
    unfold fstA at h
    split at h
    · rcases fstA_sub l acc a h with q | q
      · exact .inl q
      · exact .inr (List.mem_cons_of_mem _ q)
    · rcases fstA_sub l _ a h with q | q
      · rcases List.mem_append.mp q with q | q
        · exact .inl q
        · exact .inr (by simp at q; simp [q])
      · exact .inr (List.mem_cons_of_mem _ q)
theorem fstA_nodup : ∀ (l acc : List α), acc.Nodup → (fstA acc l).Nodup
  | [], acc, h => h
  | b :: l, acc, h => by
    unfold fstA
    split
    · exact fstA_nodup l acc h
    · rename_i q
      refine fstA_nodup l _ ?_
      rw [List.nodup_append]
      exact ⟨h, by simp, fun x hx y hy e => q (by simp at hy; rw [← hy, ← e]; exact hx)⟩
theorem firsts_mem {l : List α} {a : α} : a ∈ firsts l ↔ a ∈ l := ⟨fun h => (fstA_sub l [] a h).elim (fun q => by simp at q) id, fstA_mem l [] a⟩
theorem firsts_nodup (l : List α) : (firsts l).Nodup := fstA_nodup l [] .nil
theorem fstA_len : ∀ (l acc : List α), (fstA acc l).length ≤ acc.length + l.length
  | [], acc => Nat.le_refl _
  | b :: l, acc => by
    unfold fstA
    split
    · have := fstA_len l acc
      simp
      omega
    · have := fstA_len l (acc ++ [b])
      simp at this ⊢
      omega
theorem firsts_len (l : List α) : (firsts l).length ≤ l.length := by
  have := fstA_len l []
  simpa [firsts] using this
theorem posD_enc (fs : List α) (a : α) : posD (fs.map Enc.enc) (Enc.enc a) = if a ∈ fs then some (idxD fs a) else none := by
  unfold posD
  rw [findIdx_map]
  simp only [eqB_dec]
  induction fs with
  | nil => simp
  | cons x fs ih =>
    rw [List.findIdx?_cons]
    unfold idxD at ih ⊢
    rw [List.findIdx_cons]
    by_cases h : x = a
    · simp [h]
    · have h' : ¬ a = x := fun q => h q.symm
      simp only [decide_eq_false h, Bool.false_eq_true, if_false, ih, List.mem_cons, h', false_or, cond_false]
      by_cases q : a ∈ fs
      · simp [q]
      · simp [q]
def idxs (n : Nat) : List O := (List.range n).map fun (k : Nat) => O.val (.int (k : Int))
@[simp] theorem idxs_len (n : Nat) : (idxs n).length = n := by simp [idxs]
theorem idxs_get {n k : Nat} (h : k < n) : (idxs n)[k]? = some (.val (.int (k : Int))) := by simp [idxs, h]
theorem idxs_succ (n : Nat) : idxs (n + 1) = idxs n ++ [.val (.int (n : Int))] := by simp [idxs, List.range_succ]
theorem idxs_ds (n : Nat) : O.ds (idxs n) = (List.range n).map fun (k : Nat) => D.int (k : Int) := by
  unfold idxs
  generalize List.range n = l
  induction l with
  | nil => rfl
  | cons k l ih => simp only [List.map_cons, O.ds_cons, ih]; rfl
theorem kd_old {fs : List α} {a : α} (h : a ∈ fs) : putKs (fs.map Enc.enc) (Enc.enc a) = fs.map Enc.enc ∧ putVs (fs.map Enc.enc) (idxs fs.length) (Enc.enc a) (.val (.int ((idxD fs a : Nat) : Int))) = idxs fs.length := by
  unfold putKs putVs
  rw [posD_enc, if_pos h]
  refine ⟨rfl, ?_⟩
  dsimp only
  apply List.ext_getElem?
  intro k
  rw [List.getElem?_set]
  split
  · rename_i e
    subst e
    rw [idxs_len, if_pos (idxD_lt h), idxs_get (idxD_lt h)]
  · rfl
theorem kd_new {fs : List α} {a : α} (h : a ∉ fs) : putKs (fs.map Enc.enc) (Enc.enc a) = (fs ++ [a]).map Enc.enc ∧ putVs (fs.map Enc.enc) (idxs fs.length) (Enc.enc a) (.val (.int ((fs.length : Nat) : Int))) = idxs (fs ++ [a]).length := by
  unfold putKs putVs
  rw [posD_enc, if_neg h]
  refine ⟨by simp, ?_⟩
  rw [List.length_append, List.length_singleton, idxs_succ]
theorem kd_look {fs : List α} {a : α} {d : D} : lookD (fs.map Enc.enc) (O.ds (idxs fs.length)) (Enc.enc a) d = if a ∈ fs then .int ((idxD fs a : Nat) : Int) else d := by
  unfold lookD
  rw [posD_enc]
  by_cases h : a ∈ fs
  · rw [if_pos h, if_pos h, idxs_ds]
    simp [idxD_lt h]
  · rw [if_neg h, if_neg h]
    rfl
end
theorem if_any {α : Type} {P : Prop} (i j : Decidable P) {a b : α} : (@ite α P i a b) = (@ite α P j a b) := by
  rw [Subsingleton.elim i j]
theorem posD_int (fs : List Int) (a : Int) : posD (fs.map Enc.enc) (.int a) = if a ∈ fs then some (idxD fs a) else none := posD_enc fs a
theorem kd_lookI {fs : List Int} {a : Int} {d : D} : lookD (fs.map Enc.enc) (O.ds (idxs fs.length)) (.int a) d = if a ∈ fs then .int ((idxD fs a : Nat) : Int) else d := kd_look.trans (if_any _ _)
/-- things that may be keys -/
class NKy (α : Type) [Enc α] where
  dp : Nat
  ky : ∀ a : α, ∃ k, nkD (Enc.enc a) = some k ∧ k.depth ≤ dp
instance : NKy Int := ⟨0, fun a => ⟨.num a, by simp [nkD], by simp [NestedKey.depth]⟩⟩
theorem nkDs_enc {α : Type} [Enc α] [NKy α] : ∀ l : List α, ∃ ks, nkDs (l.map Enc.enc) = some ks ∧ NestedKey.depthAll ks ≤ NKy.dp α
  | [] => ⟨[], by simp [nkDs], by simp [NestedKey.depthAll]⟩
  | a :: l => by
    obtain ⟨k, h1, h2⟩ := NKy.ky a
    obtain ⟨ks, h3, h4⟩ := nkDs_enc l
    refine ⟨k :: ks, by simp [nkDs, h1, h3], ?_⟩
    simp only [NestedKey.depthAll]
    omega
instance {α : Type} [Enc α] [NKy α] : NKy (List α) := ⟨NKy.dp α + 1, fun l => by
  obtain ⟨ks, h1, h2⟩ := nkDs_enc l
  refine ⟨.tup ks, ?_, ?_⟩
  · rw [en_list, T_def]
    simp [nkD, h1]
  · simp only [NestedKey.depth]
    omega⟩
instance {α β : Type} [Enc α] [Enc β] [NKy α] [NKy β] : NKy (α × β) := ⟨max (NKy.dp α) (NKy.dp β) + 1, fun p => by
  obtain ⟨k1, h1, h2⟩ := NKy.ky p.1
  obtain ⟨k2, h3, h4⟩ := NKy.ky p.2
  refine ⟨.tup [k1, k2], by simp [nkD, nkDs, h1, h3], ?_⟩
  simp only [NestedKey.depth, NestedKey.depthAll]
  omega⟩
theorem keyT_list {α : Type} [Enc α] [NKy α] (l : List α) (h : NKy.dp α < 8) : keyT true (T l) = true := by
  obtain ⟨ks, h1, h2⟩ := nkDs_enc l
  rw [T_def]
  simp only [keyT, nkD, h1, Option.map_some]
  refine decide_eq_true ?_
  simp only [NestedKey.depth]
  omega
theorem keyT_prod {α β : Type} [Enc α] [Enc β] [NKy α] [NKy β] (p : α × β) (h : max (NKy.dp α) (NKy.dp β) < 8) : keyT true (.tup [Enc.enc p.1, Enc.enc p.2]) = true := by
  obtain ⟨k1, h1, h2⟩ := NKy.ky p.1
  obtain ⟨k2, h3, h4⟩ := NKy.ky p.2
  simp only [keyT, nkD, nkDs, h1, h3, Option.bind_some, Option.map_some]
  refine decide_eq_true ?_
  simp only [NestedKey.depth, NestedKey.depthAll]
  omega
abbrev Mk := Int × List Int
theorem posD_pr (fs : List Mk) (p : Mk) : posD (fs.map Enc.enc) (.tup [.int p.1, T p.2]) = if p ∈ fs then some (idxD fs p) else none := (posD_enc fs p).trans (if_any _ _)
theorem kd_lookP {fs : List Mk} {p : Mk} {d : D} : lookD (fs.map Enc.enc) (O.ds (idxs fs.length)) (.tup [.int p.1, T p.2]) d = if p ∈ fs then .int ((idxD fs p : Nat) : Int) else d := kd_look.trans (if_any _ _)
@[simp] theorem keyT_Mk (p : Mk) : keyT true (.tup [.int p.1, T p.2]) = true := keyT_prod p (by decide)
end DL
/-! Frames -/
namespace DL
open PySem PySem.Spec PyProof.Rows L2
/-- roads on n crossings -/
def RdsOk (n : Int) (rs : List (Int × Int)) : Prop := ∀ p ∈ rs, (0 ≤ p.1 ∧ p.1 < n) ∧ (0 ≤ p.2 ∧ p.2 < n)
@[simp] theorem snocO_pr (l : List (Int × Int)) (a b : Int) : snocO l (.val (.tup [.int a, .int b])) = Ow (l ++ [(a, b)]) := by
  rw [snocO, Ow_def, List.map_append]; rfl
theorem RdsOk.sub {n : Int} {rs qs : List (Int × Int)} (h : RdsOk n rs) (s : ∀ p ∈ qs, p ∈ rs) : RdsOk n qs := fun p hp => h p (s p hp)
theorem RdsOk.snoc {n a b : Int} {rs : List (Int × Int)} (h : RdsOk n rs) (ha : 0 ≤ a ∧ a < n) (hb : 0 ≤ b ∧ b < n) : RdsOk n (rs ++ [(a, b)]) := fun p hp => by
  rcases List.mem_append.mp hp with hp | hp
  · exact h p hp
  · obtain rfl := List.mem_singleton.mp hp
    exact ⟨ha, hb⟩
abbrev Fr (n : Int) (rs : List (Int × Int)) : D := .tup [.int n, T rs]
theorem okE_Fr (n : Int) (rs : List (Int × Int)) : okE (Fr n rs) := by
  show okD 8 _ = true
  simp
theorem FrG {n : Int} {rs : List (Int × Int)} (h : RdsOk n rs) (h0 : 0 ≤ n) (h1 : n < 1000000) : Gd 3 (rs.length * 30 + 20) (Fr n rs) := by
  have g1 : Gds 1 27 (rs.map Enc.enc) := fun x hx => by
    obtain ⟨p, hp, rfl⟩ := List.mem_map.mp hx
    have := h p hp
    have g := Gd.tup (k := 0) (c := 10) (ds := [.int p.1, .int p.2]) (Gds.cons (Gd.int (by omega) (by decide)) (Gds.cons (Gd.int (by omega) (by decide)) Gds.nil))
    exact g.mono (by decide) (by simp)
  have g2 := Gd.tup g1
  rw [List.length_map] at g2
  refine ⟨?_, ?_, ?_⟩
  · have := g2.1
    simp only [Fr, okR_tup, okRs_cons, okR_int, okRs_nil, Bool.and_true, Bool.true_and]
    exact this
  · have := g2.2.1
    have hn := (Gd.int (k := 0) (c := 10) (i := n) (by omega) (by decide)).2.1
    simp only [Fr, shw_tup, shws_cons, shws_nil, Bool.and_true, hn, Bool.true_and]
    simpa [T_def] using this
  · have := g2.2.2
    have hn := cost_int_sm (i := n) (by omega)
    simp only [Fr, cost_tup, costs_cons, costs_nil, hn]
    rw [T_def]
    omega
/-- where an end stands, where it leads -/
def atE (rs : List (Int × Int)) (e : Int) : Option Int := (rs[(e / 2).toNat]?).map fun p => if e % 2 = 0 then p.1 else p.2
def bkE (e : Int) : Int := e + 1 - 2 * (e % 2)
theorem bkE_range {m e : Int} (h0 : 0 ≤ e) (h1 : e < 2 * m) : 0 ≤ bkE e ∧ bkE e < 2 * m := by unfold bkE; omega
def toE (rs : List (Int × Int)) (e : Int) : Option Int := atE rs (bkE e)
theorem atE_some {rs : List (Int × Int)} {n e : Int} (h : RdsOk n rs) (h0 : 0 ≤ e) (h1 : e < 2 * (rs.length : Int)) : ∃ c, atE rs e = some c ∧ 0 ≤ c ∧ c < n := by
  have hl : (e / 2).toNat < rs.length := by omega
  unfold atE
  rw [List.getElem?_eq_getElem hl]
  have := h _ (List.getElem_mem hl)
  refine ⟨_, rfl, ?_⟩
  dsimp only
  split
  · exact this.1
  · exact this.2
theorem toE_some {rs : List (Int × Int)} {n e : Int} (h : RdsOk n rs) (h0 : 0 ≤ e) (h1 : e < 2 * (rs.length : Int)) : ∃ c, toE rs e = some c ∧ 0 ≤ c ∧ c < n :=
  atE_some h (bkE_range h0 h1).1 (bkE_range h0 h1).2
/-- the rows of ends that stand at each crossing -/
def stdF : Int → List (Int × Int) → List (List Int) → List (List Int)
  | _, [], acc => acc
  | k, p :: rs, acc => stdF (k + 1) rs ((acc.modify p.1.toNat (· ++ [2 * k])).modify p.2.toNat (· ++ [2 * k + 1]))
def std (n : Int) (rs : List (Int × Int)) : List (List Int) := stdF 0 rs (List.replicate n.toNat [])
theorem stdF_len : ∀ (rs : List (Int × Int)) (k : Int) (acc : List (List Int)), (stdF k rs acc).length = acc.length
  | [], _, _ => rfl
  | p :: rs, k, acc => by
    unfold stdF
    rw [stdF_len rs]
    simp
theorem std_len (n : Int) (rs : List (Int × Int)) : (std n rs).length = n.toNat := by
  unfold std
  rw [stdF_len]
  simp
/-- in words: e stands in row c -/
theorem stdF_mem : ∀ (rs : List (Int × Int)) (k : Int) (acc : List (List Int)) (c : Nat) (e : Int), RdsOk acc.length rs → 0 ≤ k → (e ∈ (stdF k rs acc).getD c [] ↔ e ∈ acc.getD c [] ∨ (2 * k ≤ e ∧ e < 2 * (k + rs.length) ∧ c < acc.length ∧ atE rs (e - 2 * k) = some (c : Int)))
  | [], k, acc, c, e, _, _ => by
    simp [stdF, atE]
  | p :: rs, k, acc, c, e, ho, hk => by
    have h1 := ho p (List.mem_cons_self ..)
    unfold stdF
    rw [stdF_mem rs (k + 1) _ c e (by simp only [List.length_modify]; exact fun q hq => ho q (List.mem_cons_of_mem _ hq)) (by omega)]
    simp only [List.length_modify, List.length_cons]
    have hin : e ∈ ((acc.modify p.1.toNat (· ++ [2 * k])).modify p.2.toNat (· ++ [2 * k + 1])).getD c [] ↔ e ∈ acc.getD c [] ∨ (c < acc.length ∧ ((e = 2 * k ∧ p.1 = c) ∨ (e = 2 * k + 1 ∧ p.2 = c))) := by
      by_cases hc : c < acc.length
      · simp only [List.getD_eq_getElem?_getD, List.getElem?_modify, List.getElem?_eq_getElem hc, Option.map_some, Option.getD_some]
        have e1 : (p.1.toNat = c) = (p.1 = (c : Int)) := by rw [eq_iff_iff]; omega
        have e2 : (p.2.toNat = c) = (p.2 = (c : Int)) := by rw [eq_iff_iff]; omega
        simp only [e1, e2]
        by_cases q1 : p.1 = (c : Int) <;> by_cases q2 : p.2 = (c : Int) <;> simp [q1, q2, hc, or_assoc]
      · simp [List.getD_eq_getElem?_getD, List.getElem?_modify, List.getElem?_eq_none (show acc.length ≤ c by omega), hc]
    rw [hin]
    have hat : ∀ (x : Int), 2 ≤ x → atE (p :: rs) x = atE rs (x - 2) := fun x hx => by
      unfold atE
      rw [show (x / 2).toNat = ((x - 2) / 2).toNat + 1 by omega, List.getElem?_cons_succ, show (x - 2) % 2 = x % 2 by omega]
    have h0 : atE (p :: rs) 0 = some p.1 := rfl
    have h1' : atE (p :: rs) 1 = some p.2 := rfl
    constructor
    · rintro ((h | ⟨hc, (⟨rfl, q⟩ | ⟨rfl, q⟩)⟩) | ⟨a, b, hc, q⟩)
      · exact .inl h
      · refine .inr ⟨by omega, by push_cast; omega, hc, ?_⟩
        rw [show 2 * k - 2 * k = 0 by omega, h0, q]
      · refine .inr ⟨by omega, by push_cast; omega, hc, ?_⟩
        rw [show 2 * k + 1 - 2 * k = 1 by omega, h1', q]
      · refine .inr ⟨by omega, by push_cast at b ⊢; omega, hc, ?_⟩
        rw [hat _ (by omega), show e - 2 * k - 2 = e - 2 * (k + 1) by omega]
        exact q
    · rintro (h | ⟨a, b, hc, q⟩)
      · exact .inl (.inl h)
      · by_cases z0 : e = 2 * k
        · subst z0
          rw [show 2 * k - 2 * k = 0 by omega, h0] at q
          exact .inl (.inr ⟨hc, .inl ⟨rfl, by simpa using q⟩⟩)
        · by_cases z1 : e = 2 * k + 1
          · subst z1
            rw [show 2 * k + 1 - 2 * k = 1 by omega, h1'] at q
            exact .inl (.inr ⟨hc, .inr ⟨rfl, by simpa using q⟩⟩)
          · refine .inr ⟨by omega, by push_cast at b ⊢; omega, hc, ?_⟩
            rw [hat _ (by omega), show e - 2 * k - 2 = e - 2 * (k + 1) by omega] at q
            exact q
theorem std_mem {n e : Int} {rs : List (Int × Int)} {c : Nat} (h : RdsOk n rs) (h0 : 0 ≤ n) : e ∈ (std n rs).getD c [] ↔ 0 ≤ e ∧ e < 2 * (rs.length : Int) ∧ (c : Int) < n ∧ atE rs e = some (c : Int) := by
  unfold std
  rw [stdF_mem rs 0 _ c e (by simp only [List.length_replicate]; rw [show ((n.toNat : Nat) : Int) = n by omega]; exact h) (by decide)]
  simp only [List.length_replicate]
  have : ¬ e ∈ (List.replicate n.toNat ([] : List Int)).getD c [] := by
    rw [List.getD_eq_getElem?_getD, List.getElem?_replicate]
    split <;> simp
  simp only [this, false_or, Int.mul_zero, Int.zero_add, Int.sub_zero]
  constructor
  · rintro ⟨a, b, cc, d⟩
    exact ⟨a, b, by omega, d⟩
  · rintro ⟨a, b, cc, d⟩
    exact ⟨a, b, by omega, d⟩
end DL
/-! Frames2 -/
namespace DL
open PySem PySem.Spec PyProof.Rows L2
/-- the greatest of things that are not below 0 -/
def mxI (l : List Int) : Int := l.foldr max 0
theorem mxI_ge : ∀ (l : List Int), ∀ x ∈ l, x ≤ mxI l
  | [], x, h => by simp at h
  | a :: l, x, h => by
    show x ≤ max a (mxI l)
    rcases List.mem_cons.mp h with rfl | h
    · omega
    · have := mxI_ge l x h
      omega
theorem mxI_nn : ∀ (l : List Int), 0 ≤ mxI l
  | [] => Int.le_refl _
  | a :: l => by
    have := mxI_nn l
    show 0 ≤ max a (mxI l)
    omega
theorem mxI_le : ∀ (l : List Int) (m : Int), 0 ≤ m → (∀ x ∈ l, x ≤ m) → mxI l ≤ m
  | [], m, h, _ => h
  | a :: l, m, h, hl => by
    have := mxI_le l m h fun x hx => hl x (List.mem_cons_of_mem _ hx)
    have := hl a (List.mem_cons_self ..)
    show max a (mxI l) ≤ m
    omega
theorem mxI_of {l : List Int} {m : Int} (h0 : 0 ≤ m) (hm : m ∈ l) (h : ∀ y ∈ l, y ≤ m) : m = mxI l := Int.le_antisymm (mxI_ge l m hm) (mxI_le l m h0 h)
/-- parts of n crossings, each from 0 on -/
def PtOk (n : Int) (pt : List Int) : Prop := (pt.length : Int) = n ∧ ∀ x ∈ pt, 0 ≤ x ∧ x ≤ 1000
def ledP (rs : List (Int × Int)) (pt es : List Int) : List Int := es.map fun e => pt.getD ((toE rs e).getD 0).toNat 0
def byp (n : Int) (rs : List (Int × Int)) (pt : List Int) (c : Nat) : List Int := (List.range (mxI pt + 1).toNat).map fun (j : Nat) => (((ledP rs pt ((std n rs).getD c [])).count (j : Int) : Nat) : Int)
/-- counted one by one -/
def bumps : List Int → List Int → List Int
  | acc, [] => acc
  | acc, j :: js => bumps (acc.modify j.toNat (· + 1)) js
theorem bumps_len : ∀ (js acc : List Int), (bumps acc js).length = acc.length
  | [], _ => rfl
  | j :: js, acc => by
    unfold bumps
    rw [bumps_len js]
    simp
theorem bumps_get : ∀ (js acc : List Int) (k : Nat), (∀ j ∈ js, 0 ≤ j) → (bumps acc js)[k]? = (acc[k]?).map fun x => x + ((js.count (k : Int) : Nat) : Int)
  | [], acc, k, _ => by simp [bumps]
  | j :: js, acc, k, h => by
    have hj := h j (List.mem_cons_self ..)
    unfold bumps
    rw [bumps_get js _ k fun x hx => h x (List.mem_cons_of_mem _ hx), List.getElem?_modify, List.count_cons]
    cases acc[k]? with
    | none => simp
    | some x =>
      by_cases q : j = (k : Int)
      · subst q
        simp
        omega
      · have q' : ¬ j.toNat = k := fun e => q (by omega)
        simp [q, q']
theorem bumps_zero {m : Nat} {js : List Int} (h : ∀ j ∈ js, 0 ≤ j) : bumps (List.replicate m 0) js = (List.range m).map fun (j : Nat) => ((js.count (j : Int) : Nat) : Int) := by
  apply List.ext_getElem?
  intro k
  rw [bumps_get js _ k h, List.getElem?_map, List.getElem?_replicate]
  by_cases q : k < m
  · rw [if_pos q, List.getElem?_range q]
    simp
  · rw [if_neg q, List.getElem?_eq_none (by simpa using q)]
    rfl
theorem bumps_snoc : ∀ (js acc : List Int) (j : Int), bumps acc (js ++ [j]) = (bumps acc js).modify j.toNat (· + 1)
  | [], acc, j => rfl
  | i :: js, acc, j => by
    rw [List.cons_append, bumps, bumps, bumps_snoc js]
theorem set_modify {l : List Int} {j : Nat} {m : Int} (h : l[j]? = some m) : l.set j (m + 1) = l.modify j (· + 1) := by
  apply List.ext_getElem?
  intro k
  rw [List.getElem?_set, List.getElem?_modify]
  by_cases q : j = k
  · subst q
    rw [if_pos rfl, if_pos (List.getElem?_eq_some_iff.mp h).1, h]
    simp
  · rw [if_neg q]
    simp [q]
theorem countP_int (l : List Int) (a : Int) : ((l.map Enc.enc).countP fun z => eqB z (.int a)) = l.count a := by
  induction l with
  | nil => rfl
  | cons x l ih =>
    rw [List.map_cons, List.countP_cons, ih, List.count_cons]
    simp
theorem stdF_row : ∀ (rs : List (Int × Int)) (k : Int) (acc : List (List Int)) (B : Nat), (∀ r ∈ acc, r.length ≤ B) → ∀ r ∈ stdF k rs acc, r.length ≤ B + 2 * rs.length
  | [], k, acc, B, h, r, hr => h r hr
  | p :: rs, k, acc, B, h, r, hr => by
    unfold stdF at hr
    have := stdF_row rs (k + 1) _ (B + 2) (fun r hr => by
      rcases mem_modify hr with q | ⟨r1, q, rfl⟩
      · rcases mem_modify q with z | ⟨r2, z, e⟩
        · have := h r z
          omega
        · have := h r2 z
          rw [e]
          simp
          omega
      · rcases mem_modify q with z | ⟨r2, z, e⟩
        · have := h r1 z
          simp
          omega
        · have := h r2 z
          rw [e]
          simp
          omega) r hr
    simp only [List.length_cons]
    omega
theorem std_row {n : Int} {rs : List (Int × Int)} {c : Nat} : ((std n rs).getD c []).length ≤ 2 * rs.length := by
  by_cases q : c < (std n rs).length
  · have := stdF_row rs 0 (List.replicate n.toNat []) 0 (fun r hr => by rw [(List.mem_replicate.mp hr).2]; simp) ((std n rs)[c]) (List.getElem_mem q)
    rw [List.getD_eq_getElem?_getD, List.getElem?_eq_getElem q]
    simpa using this
  · rw [List.getD_eq_getElem?_getD, List.getElem?_eq_none (by omega)]
    simp
end DL
/-! Parts2 -/
namespace DL
open PySem PySem.Spec PyProof.Rows L2
section
variable {α β : Type} [DecidableEq α] [DecidableEq β]
theorem nodup_le : ∀ {a b : List α}, a.Nodup → (∀ x ∈ a, x ∈ b) → a.length ≤ b.length
  | [], b, _, _ => Nat.zero_le _
  | x :: a, b, h, s => by
    rw [List.nodup_cons] at h
    have hx := s x (List.mem_cons_self ..)
    have := nodup_le (a := a) (b := b.erase x) h.2 fun y hy => (List.mem_erase_of_ne (fun e => h.1 (by rw [← e]; exact hy))).mpr (s y (List.mem_cons_of_mem _ hy))
    rw [List.length_erase_of_mem hx] at this
    have := List.length_pos_of_mem hx
    simp only [List.length_cons]
    omega
/-- as many, and all of them: none twice -/
theorem nodup_eq : ∀ {b a : List α}, a.Nodup → (∀ x ∈ a, x ∈ b) → b.length ≤ a.length → b.Nodup
  | [], _, _, _, _ => .nil
  | y :: b, a, h, s, l => by
    rw [List.nodup_cons]
    by_cases q : y ∈ b
    · have := nodup_le (a := a) (b := b) h fun x hx => by
        rcases List.mem_cons.mp (s x hx) with rfl | z
        · exact q
        · exact z
      simp only [List.length_cons] at l
      omega
    · refine ⟨q, ?_⟩
      have h2 : (a.erase y).Nodup := h.sublist (List.erase_sublist ..)
      refine nodup_eq (b := b) (a := a.erase y) h2 (fun x hx => ?_) ?_
      · have hm : x ∈ a := List.mem_of_mem_erase hx
        rcases List.mem_cons.mp (s x hm) with rfl | z
        · exact absurd hx (List.Nodup.not_mem_erase h)
        · exact z
      · simp only [List.length_cons] at l
        by_cases hy : y ∈ a
        · rw [List.length_erase_of_mem hy]
          omega
        · rw [List.erase_of_not_mem hy]
          omega
end
section
variable {α β : Type} [Enc α] [Enc β] [DecidableEq α] [DecidableEq β]
theorem fstA_map (g : α → β) : ∀ (l acc : List α), (∀ x y, (x ∈ acc ∨ x ∈ l) → (y ∈ acc ∨ y ∈ l) → g x = g y → x = y) → fstA (acc.map g) (l.map g) = (fstA acc l).map g
  | [], acc, _ => rfl
  | a :: l, acc, h => by
    have e : (g a ∈ acc.map g) ↔ a ∈ acc := by
      constructor
      · intro q
        obtain ⟨b, hb, e⟩ := List.mem_map.mp q
        rw [← h b a (.inl hb) (.inr (List.mem_cons_self ..)) e]
        exact hb
      · exact fun q => List.mem_map.mpr ⟨a, q, rfl⟩
    simp only [List.map_cons, fstA]
    by_cases q : a ∈ acc
    · rw [if_pos q, if_pos (e.mpr q)]
      exact fstA_map g l acc fun x y hx hy => h x y (hx.imp id fun z => List.mem_cons_of_mem _ z) (hy.imp id fun z => List.mem_cons_of_mem _ z)
    · rw [if_neg q, if_neg fun z => q (e.mp z)]
      have := fstA_map g l (acc ++ [a]) fun x y hx hy => by
        refine h x y ?_ ?_
        · rcases hx with z | z
          · rcases List.mem_append.mp z with z | z
            · exact .inl z
            · exact .inr (by simp at z; simp [z])
          · exact .inr (List.mem_cons_of_mem _ z)
        · rcases hy with z | z
          · rcases List.mem_append.mp z with z | z
            · exact .inl z
            · exact .inr (by simp at z; simp [z])
          · exact .inr (List.mem_cons_of_mem _ z)
      rw [List.map_append] at this
      exact this
theorem idxD_map (g : α → β) (fs : List α) (a : α) (h : ∀ x ∈ fs, g x = g a → x = a) : idxD (fs.map g) (g a) = idxD fs a := by
  induction fs with
  | nil => rfl
  | cons x fs ih =>
    unfold idxD at ih ⊢
    rw [List.map_cons, List.findIdx_cons, List.findIdx_cons]
    by_cases q : x = a
    · subst q; simp
    · have q' : ¬ g x = g a := fun e => q (h x (List.mem_cons_self ..) e)
      simp only [decide_eq_false q, decide_eq_false q', cond_false]
      rw [ih fun y hy => h y (List.mem_cons_of_mem _ hy)]
theorem firsts_map_le (g : α → β) (l : List α) : (firsts (l.map g)).length ≤ (firsts l).length := by
  have := nodup_le (a := firsts (l.map g)) (b := (firsts l).map g) (firsts_nodup _) fun x hx => by
    obtain ⟨y, hy, rfl⟩ := List.mem_map.mp (firsts_mem.mp hx)
    exact List.mem_map.mpr ⟨y, firsts_mem.mpr hy, rfl⟩
  rwa [List.length_map] at this
theorem inj_nodup {g : α → β} : ∀ {fs : List α}, (fs.map g).Nodup → ∀ x ∈ fs, ∀ y ∈ fs, g x = g y → x = y
  | [], _, x, hx, _, _, _ => by simp at hx
  | a :: fs, h, x, hx, y, hy, e => by
    rw [List.map_cons, List.nodup_cons] at h
    rcases List.mem_cons.mp hx with rfl | hx' <;> rcases List.mem_cons.mp hy with rfl | hy'
    · rfl
    · exact absurd (List.mem_map.mpr ⟨y, hy', e.symm⟩) h.1
    · exact absurd (List.mem_map.mpr ⟨x, hx', e⟩) h.1
    · exact inj_nodup h.2 x hx' y hy' e
/-- told anew with as many parts: the same -/
theorem tp_map_eq (g : α → β) (l : List α) (h : (firsts l).length ≤ (firsts (l.map g)).length) : tp (l.map g) = tp l := by
  have nd : ((firsts l).map g).Nodup := nodup_eq (a := firsts (l.map g)) (firsts_nodup _) (fun x hx => by
    obtain ⟨y, hy, rfl⟩ := List.mem_map.mp (firsts_mem.mp hx)
    exact List.mem_map.mpr ⟨y, firsts_mem.mpr hy, rfl⟩) (by rw [List.length_map]; exact h)
  have inj := inj_nodup nd
  have e : firsts (l.map g) = (firsts l).map g := fstA_map g l [] fun x y hx hy e => inj x (firsts_mem.mpr (hx.resolve_left (by simp))) y (firsts_mem.mpr (hy.resolve_left (by simp))) e
  unfold tp
  rw [e, List.map_map]
  apply List.map_congr_left
  intro a ha
  show ((idxD ((firsts l).map g) (g a) : Nat) : Int) = _
  rw [idxD_map g _ a fun x hx q => inj x hx a (firsts_mem.mpr ha) q]
end
section
variable {α : Type} [Enc α] [DecidableEq α]
theorem idxD_get {fs : List α} {a : α} (h : a ∈ fs) : fs[idxD fs a]? = some a := by
  have hl := idxD_lt h
  rw [List.getElem?_eq_getElem hl]
  have := List.findIdx_getElem (xs := fs) (p := fun x => decide (x = a)) (w := hl)
  simp only [decide_eq_true_eq] at this
  exact congrArg some this
theorem idxD_inj {fs : List α} {a b : α} (ha : a ∈ fs) (hb : b ∈ fs) (e : idxD fs a = idxD fs b) : a = b := by
  have h1 := idxD_get ha
  rw [e, idxD_get hb] at h1
  exact (Option.some.inj h1).symm
theorem idxD_at {fs : List α} (nd : fs.Nodup) {k : Nat} (h : k < fs.length) : idxD fs fs[k] = k := by
  have hm : fs[k] ∈ fs := List.getElem_mem h
  have h1 := idxD_get hm
  have hl := idxD_lt hm
  rw [List.getElem?_eq_getElem hl] at h1
  exact (List.getElem_inj nd).mp (Option.some.inj h1)
@[simp] theorem tp_len (l : List α) : (tp l).length = l.length := by simp [tp]
theorem tp_mem {l : List α} {x : Int} : x ∈ tp l ↔ 0 ≤ x ∧ x < (firsts l).length := by
  unfold tp
  rw [List.mem_map]
  constructor
  · rintro ⟨a, ha, rfl⟩
    have := idxD_lt (firsts_mem.mpr ha)
    omega
  · rintro ⟨h0, h1⟩
    have hk : x.toNat < (firsts l).length := by omega
    refine ⟨(firsts l)[x.toNat], firsts_mem.mp (List.getElem_mem hk), ?_⟩
    rw [idxD_at (firsts_nodup l) hk]
    omega
theorem firsts_tp (l : List α) : (firsts (tp l)).length = (firsts l).length := by
  have := fstA_map (fun a => ((idxD (firsts l) a : Nat) : Int)) l [] fun x y hx hy e => idxD_inj (firsts_mem.mpr (hx.resolve_left (by simp))) (firsts_mem.mpr (hy.resolve_left (by simp))) (by have : ((idxD (firsts l) x : Nat) : Int) = ((idxD (firsts l) y : Nat) : Int) := e; omega)
  unfold firsts tp
  rw [show ([] : List Int) = ([] : List α).map (fun a => ((idxD (firsts l) a : Nat) : Int)) from rfl]
  unfold firsts at this ⊢
  rw [this, List.length_map]
theorem tp_tp (l : List α) : tp (tp l) = tp l := tp_map_eq (fun a => ((idxD (firsts l) a : Nat) : Int)) l (Nat.le_of_eq (firsts_tp l).symm)
theorem firsts_pos {l : List α} (h : l ≠ []) : 0 < (firsts l).length := by
  obtain ⟨a, ha⟩ := List.exists_mem_of_ne_nil l h
  exact List.length_pos_of_mem (firsts_mem.mpr ha)
theorem mxI_tp {l : List α} (h : l ≠ []) : mxI (tp l) + 1 = (firsts l).length := by
  have hp := firsts_pos h
  have h1 : (((firsts l).length : Nat) : Int) - 1 ∈ tp l := tp_mem.mpr (by omega)
  have := mxI_of (l := tp l) (by omega) h1 fun y hy => by have := (tp_mem.mp hy).2; omega
  omega
end
end DL
/-! Laps -/
namespace DL
open PySem PySem.Spec PyProof.Rows L2
def mks (n : Int) (rs : List (Int × Int)) (pt : List Int) : List Mk := (enumI 0 pt).map fun p => (p.2, byp n rs pt p.1.toNat)
def nxl (n : Int) (rs : List (Int × Int)) (pt : List Int) : List Int := tp (mks n rs pt)
theorem enumI_snd {α : Type} : ∀ (l : List α) (k : Int), (enumI k l).map (·.2) = l
  | [], _ => rfl
  | a :: l, k => by simp [enumI, enumI_snd l]
theorem mks_len (n : Int) (rs : List (Int × Int)) (pt : List Int) : (mks n rs pt).length = pt.length := by simp [mks]
theorem mks_fst (n : Int) (rs : List (Int × Int)) (pt : List Int) : (mks n rs pt).map Prod.fst = pt := by
  unfold mks
  rw [List.map_map]
  exact enumI_snd pt 0
theorem nxl_len (n : Int) (rs : List (Int × Int)) (pt : List Int) : (nxl n rs pt).length = pt.length := by rw [nxl, tp_len, mks_len]
theorem tp_ok {α : Type} [Enc α] [DecidableEq α] {n : Int} {l : List α} (h : (l.length : Int) = n) (hn : n ≤ 1000) : PtOk n (tp l) := by
  refine ⟨by rw [tp_len]; exact h, fun x hx => ?_⟩
  have := tp_mem.mp hx
  have := firsts_len l
  omega
theorem nxl_ok {n : Int} {rs : List (Int × Int)} {pt : List Int} (h : PtOk n pt) (hn : n ≤ 1000) : PtOk n (nxl n rs pt) := tp_ok (by rw [mks_len]; exact h.1) hn
/-- more parts, or the same parting -/
theorem nxl_grow {n : Int} {rs : List (Int × Int)} {pt : List Int} (c : tp pt = pt) (ne : nxl n rs pt ≠ pt) : (firsts pt).length < (firsts (nxl n rs pt)).length := by
  unfold nxl at ne ⊢
  rw [firsts_tp]
  have h1 := firsts_map_le Prod.fst (mks n rs pt)
  rw [mks_fst] at h1
  refine Nat.lt_of_le_of_ne h1 fun e => ne ?_
  have := tp_map_eq Prod.fst (mks n rs pt) (by rw [mks_fst]; omega)
  rw [mks_fst, c] at this
  exact this.symm
def ptab (n : Int) (rs : List (Int × Int)) (pt : List Int) : List (List Int) := (rngI 0 (mxI pt + 1)).map fun j => byp n rs pt (idxD pt j)
theorem findIdx_int (l : List Int) (a : Int) : ((l.map Enc.enc).findIdx? fun z => eqB z (.int a)) = if a ∈ l then some (idxD l a) else none := posD_int l a
/-- a loop that gives the first thing it finds -/
theorem loop_find {α : Type} {e : α → D} {p : Pat} {s : WS} {De : DEnds} {Ee : SEX} (f : α → Option D) (I : SEnv → Prop) : ∀ (l : List α), (∀ a ∈ l, ∀ env, I env → ∃ env', p.bind O.val (e a) env = some env' ∧ ∀ N : SEnv → Prop, (match f a with | some d => De.rt (.val d) | none => ∀ e, I e → N e) → s env' { nx := N, rt := De.rt, bk := De.nx, ct := N } Ee) →
    ∀ env, I env → (match l.findSome? f with | some d => De.rt (.val d) | none => ∀ e, I e → De.nx e) → loopD p s De Ee (l.map e) env
  | [], _, env, hi, h => h env hi
  | a :: l, step, env, hi, h => by
    rw [List.map_cons, loopD_cons]
    obtain ⟨env', h1, h2⟩ := step a (List.mem_cons_self ..) env hi
    refine ⟨env', h1, h2 _ ?_⟩
    rw [List.findSome?_cons] at h
    cases hf : f a with
    | some d => rw [hf] at h; exact h
    | none =>
      rw [hf] at h
      exact fun e' q => loop_find f I l (fun b hb => step b (List.mem_cons_of_mem _ hb)) e' q h
def dif (a b : List Int) : List Int := (rngI 0 a.length).filter fun j => decide (b[j.toNat]? ≠ a[j.toNat]?)
def cellP (n : Int) (rs : List (Int × Int)) (pt : List Int) (v w : Int) : Option D := if pt[v.toNat]? = pt[w.toNat]? then match dif (byp n rs pt v.toNat) (byp n rs pt w.toNat) with
  | [] => none
  | j :: _ => some (.tup [.str "unlike", .int v, .int w, .int j]) else none
def badP (n : Int) (rs : List (Int × Int)) (pt : List Int) : Option D := (rngI 0 n).findSome? fun v => (rngI (v + 1) n).findSome? fun w => cellP n rs pt v w
def paper (n : Int) (rs : List (Int × Int)) (pt : List Int) : D := match badP n rs pt with
  | some d => d
  | none => .tup [.str "even", T (ptab n rs pt)]
theorem byp_len (n : Int) (rs : List (Int × Int)) (pt : List Int) (c : Nat) : (byp n rs pt c).length = (mxI pt + 1).toNat := by simp [byp]
theorem enumI_fstK {α : Type} : ∀ (l : List α) (k : Int), (enumI k l).map (·.1) = (List.range l.length).map fun (i : Nat) => k + (i : Int)
  | [], _ => rfl
  | a :: l, k => by
    rw [enumI, List.map_cons, enumI_fstK l (k + 1), List.length_cons, List.range_succ_eq_map, List.map_cons, List.map_map]
    congr 1
    · simp
    · apply List.map_congr_left
      intro i _
      simp only [Function.comp]
      omega
theorem enumI_fst {α : Type} (l : List α) : (enumI 0 l).map (·.1) = rngI 0 l.length := by
  rw [enumI_fstK]
  unfold rngI
  congr 2
theorem enum_dif (a b : List Int) : ((enumI 0 a).filter fun p => decide (b[p.1.toNat]? ≠ a[p.1.toNat]?)).map (fun p => p.1) = dif a b := by
  unfold dif
  rw [← enumI_fst, List.filter_map]
  rfl
theorem enumI_at {α : Type} : ∀ {l : List α} {k : Int} {p : Int × α}, p ∈ enumI k l → k ≤ p.1 ∧ l[(p.1 - k).toNat]? = some p.2
  | [], _, p, h => by simp [enumI] at h
  | a :: l, k, p, h => by
    simp only [enumI, List.mem_cons] at h
    rcases h with rfl | h
    · simp
    · have := enumI_at h
      refine ⟨by omega, ?_⟩
      rw [show (p.1 - k).toNat = (p.1 - (k + 1)).toNat + 1 by omega, List.getElem?_cons_succ]
      exact this.2
end DL
/-! Ends -/
namespace DL
open PySem PySem.Spec PyProof.Rows L2
theorem PtOk.led {n : Int} {rs : List (Int × Int)} {pt : List Int} (h : RdsOk n rs) (hp : PtOk n pt) {e : Int} (e0 : 0 ≤ e) (e1 : e < 2 * (rs.length : Int)) : ∃ d x, toE rs e = some d ∧ 0 ≤ d ∧ d < n ∧ pt[d.toNat]? = some x ∧ x = pt.getD ((toE rs e).getD 0).toNat 0 ∧ 0 ≤ x ∧ x ≤ mxI pt := by
  obtain ⟨d, h1, h2, h3⟩ := toE_some h e0 e1
  have hl : d.toNat < pt.length := by have := hp.1; omega
  refine ⟨d, pt[d.toNat], h1, h2, h3, List.getElem?_eq_getElem hl, ?_, (hp.2 _ (List.getElem_mem hl)).1, mxI_ge _ _ (List.getElem_mem hl)⟩
  rw [h1]
  simp [List.getD_eq_getElem?_getD, List.getElem?_eq_getElem hl]
/-- all ends -/
def ends (m : Nat) : List Int := (List.range m).flatMap fun (k : Nat) => [2 * (k : Int), 2 * (k : Int) + 1]
theorem ends_succ (m : Nat) : ends (m + 1) = ends m ++ [2 * (m : Int), 2 * (m : Int) + 1] := by
  unfold ends
  rw [List.range_succ, List.flatMap_append]
  simp
theorem ends_mem : ∀ {m : Nat} {e : Int}, e ∈ ends m ↔ 0 ≤ e ∧ e < 2 * (m : Int)
  | 0, e => by
    simp [ends]
    try omega
  | m + 1, e => by
    rw [ends_succ, List.mem_append, ends_mem]
    simp
    omega
theorem stdF_snoc : ∀ (rs : List (Int × Int)) (k : Int) (p : Int × Int) (acc : List (List Int)), stdF k (rs ++ [p]) acc = ((stdF k rs acc).modify p.1.toNat (· ++ [2 * (k + rs.length)])).modify p.2.toNat (· ++ [2 * (k + rs.length) + 1])
  | [], k, p, acc => by simp [stdF]
  | q :: rs, k, p, acc => by
    rw [List.cons_append, stdF, stdF, stdF_snoc rs]
    rw [show k + 1 + (rs.length : Int) = k + (((q :: rs).length : Nat) : Int) by simp only [List.length_cons]; omega]
theorem atE_snoc {rs : List (Int × Int)} {p : Int × Int} {e : Int} (h0 : 0 ≤ e) (h : e < 2 * (rs.length : Int)) : atE (rs ++ [p]) e = atE rs e := by
  unfold atE
  rw [List.getElem?_append_left (by omega)]
theorem std_snoc (n : Int) (rs : List (Int × Int)) (p : Int × Int) : std n (rs ++ [p]) = ((std n rs).modify p.1.toNat (· ++ [2 * (rs.length : Int)])).modify p.2.toNat (· ++ [2 * (rs.length : Int) + 1]) := by
  unfold std
  rw [stdF_snoc]
  simp
/-- the row of a crossing: all ends that stand there, in order -/
theorem std_filter {n : Int} {c : Nat} (hc : (c : Int) < n) : ∀ (k : Nat) (rs : List (Int × Int)), rs.length = k → RdsOk n rs → (std n rs).getD c [] = (ends rs.length).filter fun e => decide (atE rs e = some (c : Int)) := by
  intro k
  induction k with
  | zero =>
    intro rs hk _
    obtain rfl := List.length_eq_zero_iff.mp hk
    simp [std, stdF, ends, List.getD_eq_getElem?_getD, List.getElem?_replicate]
    split <;> rfl
  | succ k ih =>
    intro rs hk ho
    have hne : rs ≠ [] := by intro e; rw [e] at hk; simp at hk
    obtain ⟨qs, p, rfl⟩ : ∃ qs p, rs = qs ++ [p] := ⟨rs.dropLast, rs.getLast hne, (List.dropLast_concat_getLast hne).symm⟩
    have ho' : RdsOk n qs := ho.sub fun p hp => List.mem_append_left _ hp
    have hp := ho p (by simp)
    rw [List.length_append, List.length_singleton, ends_succ, List.filter_append, std_snoc]
    have e1 : (ends qs.length).filter (fun e => decide (atE (qs ++ [p]) e = some (c : Int))) = (ends qs.length).filter (fun e => decide (atE qs e = some (c : Int))) := by
      apply List.filter_congr
      intro e he
      have := ends_mem.mp he
      rw [atE_snoc this.1 this.2]
    rw [e1, ← ih qs (by simpa using hk) ho']
    have hl : c < (std n qs).length := by rw [std_len]; omega
    have a0 : atE (qs ++ [p]) (2 * (qs.length : Int)) = some p.1 := by
      unfold atE
      rw [show (2 * (qs.length : Int) / 2).toNat = qs.length by omega]
      simp
    have a1 : atE (qs ++ [p]) (2 * (qs.length : Int) + 1) = some p.2 := by
      unfold atE
      rw [show ((2 * (qs.length : Int) + 1) / 2).toNat = qs.length by omega]
      simp
      try omega
    simp only [List.filter_cons, List.filter_nil, a0, a1]
    simp only [List.getD_eq_getElem?_getD, List.getElem?_modify, List.getElem?_eq_getElem hl, Option.map_some, Option.getD_some]
    have e1 : (p.1.toNat = c) = (p.1 = (c : Int)) := by rw [eq_iff_iff]; omega
    have e2 : (p.2.toNat = c) = (p.2 = (c : Int)) := by rw [eq_iff_iff]; omega
    simp only [e1, e2, Option.some.injEq, decide_eq_true_eq]
    by_cases q1 : p.1 = (c : Int) <;> by_cases q2 : p.2 = (c : Int) <;> simp [q1, q2]
theorem std_at {n : Int} {rs : List (Int × Int)} {c : Nat} (h : RdsOk n rs) (hc : (c : Int) < n) : (std n rs).getD c [] = (ends rs.length).filter fun e => decide (atE rs e = some (c : Int)) := std_filter hc _ rs rfl h
/-- turned about, all ends are all ends -/
theorem ends_bk (P : Int → Bool) : ∀ m : Nat, (ends m).countP (fun e => P (bkE e)) = (ends m).countP P
  | 0 => rfl
  | m + 1 => by
    rw [ends_succ, List.countP_append, List.countP_append, ends_bk P m]
    have b0 : bkE (2 * (m : Int)) = 2 * (m : Int) + 1 := by unfold bkE; omega
    have b1 : bkE (2 * (m : Int) + 1) = 2 * (m : Int) := by unfold bkE; omega
    simp only [List.countP_cons, List.countP_nil, b0, b1]
    omega
theorem bkE_bkE (e : Int) : bkE (bkE e) = e := by unfold bkE; omega
/-- counted crossing by crossing -/
theorem sum_at {α : Type} (f : α → Int) (q : Int → Bool) (P : α → Bool) (n : Nat) : ∀ l : List α, (∀ e ∈ l, 0 ≤ f e ∧ f e < (n : Int)) → ((List.range n).map fun (c : Nat) => if q (c : Int) = true then l.countP (fun e => decide (f e = (c : Int)) && P e) else 0).sum = l.countP fun e => q (f e) && P e
  | [], _ => by
    simp only [List.countP_nil, ite_self]
    have : ∀ m : Nat, ((List.range m).map fun _ => 0).sum = 0 := fun m => by
      induction m with
      | zero => rfl
      | succ m ih => rw [List.range_succ, List.map_append, List.sum_append, ih]; rfl
    exact this n
  | a :: l, h => by
    have ih := sum_at f q P n l fun e he => h e (List.mem_cons_of_mem _ he)
    have ha := h a (List.mem_cons_self ..)
    rw [List.countP_cons, ← ih]
    have key : ∀ (m : Nat), ((List.range m).map fun (c : Nat) => if q (c : Int) = true then (a :: l).countP (fun e => decide (f e = (c : Int)) && P e) else 0).sum = ((List.range m).map fun (c : Nat) => if q (c : Int) = true then l.countP (fun e => decide (f e = (c : Int)) && P e) else 0).sum + if f a < (m : Int) ∧ (q (f a) && P a) = true then 1 else 0 := by
      intro m
      induction m with
      | zero => simp; omega
      | succ m ihm =>
        rw [List.range_succ, List.map_append, List.map_append, List.sum_append, List.sum_append, ihm]
        simp only [List.map_cons, List.map_nil, List.sum_cons, List.sum_nil, List.countP_cons, Nat.add_zero]
        by_cases e : f a = (m : Int)
        · have l1 : ¬ f a < (m : Int) := by omega
          have l2 : f a < ((m + 1 : Nat) : Int) := by omega
          simp only [l1, l2, false_and, true_and, if_false, decide_eq_true e, Bool.true_and]
          rw [← e]
          cases hq : q (f a) <;> cases hP : P a <;> simp <;> omega
        · by_cases l1 : f a < (m : Int)
          · have l2 : f a < ((m + 1 : Nat) : Int) := by omega
            simp only [l1, l2, true_and, decide_eq_false e, Bool.false_and, Bool.false_eq_true, if_false, Nat.add_zero]
            omega
          · have l2 : ¬ f a < ((m + 1 : Nat) : Int) := by omega
            simp only [l1, l2, false_and, decide_eq_false e, Bool.false_and, Bool.false_eq_true, if_false, Nat.add_zero]
    rw [key n]
    congr 1
    simp only [ha.2, true_and]
/-- how many ends lead from part i to part j -/
def ptD (pt : List Int) (c : Option Int) : Int := pt.getD (c.getD 0).toNat 0
def cross (rs : List (Int × Int)) (pt : List Int) (i j : Int) : Nat := (ends rs.length).countP fun e => decide (ptD pt (atE rs e) = i) && decide (ptD pt (toE rs e) = j)
theorem cross_comm (rs : List (Int × Int)) (pt : List Int) (i j : Int) : cross rs pt i j = cross rs pt j i := by
  unfold cross
  rw [← ends_bk (fun e => decide (ptD pt (atE rs e) = i) && decide (ptD pt (toE rs e) = j))]
  apply List.countP_congr
  intro e _
  unfold toE
  rw [bkE_bkE]
  simp only [Bool.and_eq_true, decide_eq_true_eq]
  exact and_comm
theorem byp_get {n : Int} {rs : List (Int × Int)} {pt : List Int} {c j : Nat} (h : RdsOk n rs) (hc : (c : Int) < n) (hj : (j : Int) ≤ mxI pt) : (byp n rs pt c).getD j 0 = (((ends rs.length).countP fun e => decide (atE rs e = some (c : Int)) && decide (ptD pt (toE rs e) = (j : Int)) : Nat) : Int) := by
  unfold byp
  have hl : j < (mxI pt + 1).toNat := by omega
  rw [std_at h hc]
  simp only [List.getD_eq_getElem?_getD, List.getElem?_map, List.getElem?_range hl, Option.map_some, Option.getD_some]
  unfold ledP
  rw [List.count_eq_countP, List.countP_map, List.countP_filter]
  congr 1
  apply List.countP_congr
  intro e _
  simp [Function.comp, ptD]
  exact and_comm
theorem sum_const {l : List Nat} {q : Nat → Prop} [DecidablePred q] {g : Nat → Nat} {k : Nat} (h : ∀ c ∈ l, q c → g c = k) : (l.map fun c => if q c then g c else 0).sum = l.countP (fun c => decide (q c)) * k := by
  induction l with
  | nil => simp
  | cons a l ih =>
    rw [List.map_cons, List.sum_cons, List.countP_cons, ih fun c hc => h c (List.mem_cons_of_mem _ hc)]
    by_cases e : q a
    · rw [if_pos e, h a (List.mem_cons_self ..) e]
      simp [e, Nat.add_mul, Nat.add_comm]
    · simp [e]
theorem count_range (pt : List Int) (i : Int) : (List.range pt.length).countP (fun c => decide (pt.getD c 0 = i)) = pt.count i := by
  have e : pt = (List.range pt.length).map fun c => pt.getD c 0 := by
    apply List.ext_getElem
    · simp
    · intro k h1 h2
      simp [List.getD_eq_getElem?_getD, List.getElem?_eq_getElem h1]
  conv => rhs; rw [e]
  rw [List.count_eq_countP, List.countP_map]
  apply List.countP_congr
  intro c _
  simp
/-- even: crossings of one part have one row -/
def Evn (n : Int) (rs : List (Int × Int)) (pt : List Int) : Prop := ∀ v w : Nat, (v : Int) < n → (w : Int) < n → pt[v]? = pt[w]? → byp n rs pt v = byp n rs pt w
theorem cross_size {n : Int} {rs : List (Int × Int)} {pt : List Int} (h : RdsOk n rs) (hp : PtOk n pt) (ev : Evn n rs pt) {i j : Nat} {c : Nat} (hc : (c : Int) < n) (hi : pt[c]? = some (i : Int)) (hj : (j : Int) ≤ mxI pt) : ((cross rs pt i j : Nat) : Int) = ((pt.count (i : Int) : Nat) : Int) * (byp n rs pt c).getD j 0 := by
  have hl := hp.1
  have hat : ∀ e ∈ ends rs.length, 0 ≤ (atE rs e).getD 0 ∧ (atE rs e).getD 0 < ((n.toNat : Nat) : Int) ∧ atE rs e = some ((atE rs e).getD 0) := by
    intro e he
    have := ends_mem.mp he
    obtain ⟨d, h1, h2, h3⟩ := atE_some h this.1 this.2
    rw [h1]
    simp
    omega
  have s := sum_at (fun e => (atE rs e).getD 0) (fun c => decide (pt.getD c.toNat 0 = (i : Int))) (fun e => decide (ptD pt (toE rs e) = (j : Int))) n.toNat (ends rs.length) fun e he => ⟨(hat e he).1, (hat e he).2.1⟩
  have e1 : cross rs pt i j = (ends rs.length).countP fun e => decide (pt.getD ((atE rs e).getD 0).toNat 0 = (i : Int)) && decide (ptD pt (toE rs e) = (j : Int)) := rfl
  rw [e1, ← s]
  have e2 : ∀ d : Nat, (d : Int) < n → (ends rs.length).countP (fun e => decide ((atE rs e).getD 0 = (d : Int)) && decide (ptD pt (toE rs e) = (j : Int))) = (ends rs.length).countP fun e => decide (atE rs e = some (d : Int)) && decide (ptD pt (toE rs e) = (j : Int)) := fun d hd => by
    apply List.countP_congr
    intro e he
    have := (hat e he).2.2
    simp only [Bool.and_eq_true, decide_eq_true_eq]
    constructor
    · rintro ⟨a, b⟩
      exact ⟨by rw [this, a], b⟩
    · rintro ⟨a, b⟩
      exact ⟨by rw [a]; rfl, b⟩
  have hk := byp_get (pt := pt) h hc hj
  have sc := sum_const (l := List.range n.toNat) (q := fun d => pt.getD d 0 = (i : Int)) (g := fun d => (ends rs.length).countP (fun e => decide ((atE rs e).getD 0 = (d : Int)) && decide (ptD pt (toE rs e) = (j : Int)))) (k := (ends rs.length).countP fun e => decide (atE rs e = some (c : Int)) && decide (ptD pt (toE rs e) = (j : Int))) (fun d hd hq => by
    have hd := List.mem_range.mp hd
    have hdn : (d : Int) < n := by omega
    rw [e2 d hdn]
    have hdl : d < pt.length := by omega
    have ee := ev d c hdn hc (by
      rw [hi, List.getElem?_eq_getElem hdl]
      rw [List.getD_eq_getElem?_getD, List.getElem?_eq_getElem hdl] at hq
      exact congrArg some hq)
    have hk' := byp_get (pt := pt) h hdn hj
    rw [ee, hk] at hk'
    omega)
  simp only [Int.toNat_natCast, decide_eq_true_eq] at sc ⊢
  rw [sc, hk]
  have : n.toNat = pt.length := by omega
  rw [this, count_range]
  push_cast
  rfl
theorem count_all {α : Type} (f : α → Int) (P : α → Bool) (n : Nat) (l : List α) (h : ∀ e ∈ l, 0 ≤ f e ∧ f e < (n : Int)) : ((List.range n).map fun (c : Nat) => l.countP (fun e => decide (f e = (c : Int)) && P e)).sum = l.countP P := by
  have := sum_at f (fun _ => true) P n l h
  simpa using this
theorem sum_cast : ∀ (l : List Nat) (g : Nat → Nat), (l.map fun c => ((g c : Nat) : Int)).sum = (((l.map g).sum : Nat) : Int)
  | [], _ => rfl
  | a :: l, g => by
    rw [List.map_cons, List.sum_cons, List.map_cons, List.sum_cons, sum_cast l g]
    push_cast
    rfl
theorem sum_mul (k : Int) : ∀ (l : List Int), k * l.sum = (l.map fun x => k * x).sum
  | [] => by simp
  | a :: l => by rw [List.sum_cons, List.map_cons, List.sum_cons, ← sum_mul k l, Int.mul_add]
/-- the rows and columns of the table -/
def psz (pt : List Int) : List Int := (rngI 0 (mxI pt + 1)).map fun j => ((pt.count j : Nat) : Int)
theorem rngI_nat (k : Int) : rngI 0 k = (List.range k.toNat).map fun (i : Nat) => (i : Int) := by
  unfold rngI
  rw [Int.sub_zero]
  apply List.map_congr_left
  intro i _
  simp
theorem byp_as {n : Int} {rs : List (Int × Int)} {pt : List Int} {c : Nat} : byp n rs pt c = (List.range (mxI pt + 1).toNat).map fun j => (byp n rs pt c).getD j 0 := by
  apply List.ext_getElem
  · simp [byp_len]
  · intro k h1 h2
    simp [List.getD_eq_getElem?_getD, List.getElem?_eq_getElem h1]
/-- a parting told by first places: each part has a first crossing -/
theorem part_at {pt : List Int} (hc : tp pt = pt) (hn : pt ≠ []) {j : Int} (j0 : 0 ≤ j) (j1 : j ≤ mxI pt) : j ∈ pt ∧ idxD pt j < pt.length ∧ pt[idxD pt j]? = some j := by
  have hmem : j ∈ pt := by
    rw [← hc, tp_mem]
    have := mxI_tp hn
    rw [hc] at this
    omega
  exact ⟨hmem, idxD_lt hmem, idxD_get hmem⟩
theorem tab_sym {n : Int} {rs : List (Int × Int)} {pt : List Int} (h : RdsOk n rs) (hp : PtOk n pt) (hc : tp pt = pt) (hn : pt ≠ []) (ev : Evn n rs pt) {i j : Nat} (hi : (i : Int) ≤ mxI pt) (hj : (j : Int) ≤ mxI pt) :
    ((pt.count (i : Int) : Nat) : Int) * (byp n rs pt (idxD pt i)).getD j 0 = ((pt.count (j : Int) : Nat) : Int) * (byp n rs pt (idxD pt j)).getD i 0 := by
  have hl := hp.1
  obtain ⟨_, a1, a2⟩ := part_at hc hn (show (0 : Int) ≤ i by omega) hi
  obtain ⟨_, b1, b2⟩ := part_at hc hn (show (0 : Int) ≤ j by omega) hj
  rw [← cross_size h hp ev (by omega) a2 hj, ← cross_size h hp ev (by omega) b2 hi, cross_comm]
theorem tab_sum {n : Int} {rs : List (Int × Int)} {pt : List Int} (h : RdsOk n rs) (hp : PtOk n pt) (hc : tp pt = pt) (hn : pt ≠ []) (ev : Evn n rs pt) :
    ((rngI 0 (mxI pt + 1)).map fun i => ((pt.count i : Nat) : Int) * (byp n rs pt (idxD pt i)).sum).sum = 2 * (rs.length : Int) := by
  have hl := hp.1
  have hm0 := mxI_nn pt
  have rowi : ∀ i : Nat, (i : Int) ≤ mxI pt → ((pt.count (i : Int) : Nat) : Int) * (byp n rs pt (idxD pt i)).sum = (((ends rs.length).countP (fun e => decide (ptD pt (atE rs e) = (i : Int))) : Nat) : Int) := by
    intro i hi
    obtain ⟨_, a1, a2⟩ := part_at hc hn (show (0 : Int) ≤ i by omega) hi
    rw [byp_as, sum_mul, List.map_map]
    have : (List.range (mxI pt + 1).toNat).map ((fun x => ((pt.count (i : Int) : Nat) : Int) * x) ∘ fun j => (byp n rs pt (idxD pt i)).getD j 0) = (List.range (mxI pt + 1).toNat).map fun (j : Nat) => ((cross rs pt i j : Nat) : Int) := by
      apply List.map_congr_left
      intro j hj
      have := List.mem_range.mp hj
      exact (cross_size h hp ev (by omega) a2 (by omega)).symm
    rw [this, sum_cast]
    congr 1
    rw [← count_all (fun e => ptD pt (toE rs e)) (fun e => decide (ptD pt (atE rs e) = (i : Int))) (mxI pt + 1).toNat (ends rs.length) fun e he => ?_]
    · congr 1
      apply List.map_congr_left
      intro j _
      unfold cross
      apply List.countP_congr
      intro e _
      simp only [Bool.and_eq_true, decide_eq_true_eq]
      exact and_comm
    · have he := ends_mem.mp he
      obtain ⟨d, x, t1, t2, t3, t4, t5, t6, t7⟩ := hp.led h he.1 he.2
      have : ptD pt (toE rs e) = x := t5.symm
      omega
  rw [rngI_nat, List.map_map]
  have : (List.range (mxI pt + 1).toNat).map ((fun i => ((pt.count i : Nat) : Int) * (byp n rs pt (idxD pt i)).sum) ∘ fun (i : Nat) => (i : Int)) = (List.range (mxI pt + 1).toNat).map fun (i : Nat) => (((ends rs.length).countP (fun e => decide (ptD pt (atE rs e) = (i : Int))) : Nat) : Int) := by
    apply List.map_congr_left
    intro i hi
    have := List.mem_range.mp hi
    exact rowi i (by omega)
  rw [this, sum_cast]
  have ca := count_all (fun e => ptD pt (atE rs e)) (fun _ => true) (mxI pt + 1).toNat (ends rs.length) fun e he => by
    have he := ends_mem.mp he
    have hb := bkE_range he.1 he.2
    obtain ⟨d, x, t1, t2, t3, t4, t5, t6, t7⟩ := hp.led h hb.1 hb.2
    have : ptD pt (toE rs (bkE e)) = x := t5.symm
    unfold toE at this
    rw [bkE_bkE] at this
    omega
  simp only [Bool.and_true, List.countP_true] at ca
  rw [ca]
  have : ∀ m : Nat, (ends m).length = 2 * m := by
    intro m
    induction m with
    | zero => rfl
    | succ m ih => rw [ends_succ, List.length_append, ih]; simp; omega
  rw [this]
  push_cast
  rfl
end DL
/-! Papers -/
namespace DL
open PySem PySem.Spec PyProof.Rows L2
theorem rfl_atI {α : Type} {l : List α} {x : α} (k : Nat) (h : k < l.length) (e : l[k]? = some x) : atI l (k : Int) = some x := by rw [atI_nat]; exact e
@[simp] theorem sOk_lit (s : String) : PyData.strOk (Str.ofString s) = true := sOk_of s
@[simp] theorem okE_lit (s : String) : okE (.str (Str.ofString s)) := by
  show okD 8 _ = true
  simp [sOk_lit]
@[simp] theorem okP_lit (s : String) : okP (.str (Str.ofString s)) := by
  show okR 8 _ = true
  simp [sOk_lit]
@[simp] theorem okR_lit (n : Nat) (s : String) : okR n (.str (Str.ofString s)) = true := by simp [sOk_lit]
@[simp] theorem okD_lit (n : Nat) (s : String) : okD n (.str (Str.ofString s)) = true := by simp [sOk_lit]
theorem ofS_inj {a b : String} : Str.ofString a = Str.ofString b ↔ a = b := by
  constructor
  · intro h
    have h := congrArg (fun x : Str => x.cps.toList) h
    simp only [Str.ofString_eq_toList] at h
    have : a.toList = b.toList := (List.map_inj_right (f := Char.toNat) (fun x y e => Char.toNat_inj.mp e)).mp (by simpa using h)
    exact String.toList_inj.mp this
  · intro h; rw [h]
@[simp] theorem ofS_eq {a b : String} : (Str.ofString a = Str.ofString b) = (a = b) := propext ofS_inj
@[simp] theorem okE_okR (s : Str) : okE (.str s) = (PyData.strOk s = true) := by
  show (okD 8 _ = true) = _
  simp
@[simp] theorem okP_okR (s : Str) : okP (.str s) = (PyData.strOk s = true) := by
  show (okR 8 _ = true) = _
  simp
@[simp] theorem sOk_sh {d : D} (h : okP d) : PyData.strOk (shown d) = true := by simpa using okE_shown h
theorem atI_1 {α : Type} (a b : α) (l : List α) : atI (a :: b :: l) 1 = some b := rfl_atI 1 (by simp) rfl
theorem atI_2 {α : Type} (a b c : α) (l : List α) : atI (a :: b :: c :: l) 2 = some c := rfl_atI 2 (by simp) rfl
theorem atI_3 {α : Type} (a b c d : α) (l : List α) : atI (a :: b :: c :: d :: l) 3 = some d := rfl_atI 3 (by simp) rfl
theorem atI_4 {α : Type} (a b c d e : α) (l : List α) : atI (a :: b :: c :: d :: e :: l) 4 = some e := rfl_atI 4 (by simp) rfl
theorem Gd.rep {k c : Nat} {d : D} (h : Gd k c d) (hk : k ≤ 8) (hc : c ≤ 10000000) : DL.okP d ∧ shw d = true ∧ cost d ≤ sizeLine := ⟨h.okP hk, h.2.1, Nat.le_trans h.2.2 (szl hc)⟩
/-- a whole number below n -/
def inR (n : Int) : D → Bool
  | .int i => decide (0 ≤ i) && decide (i < n)
  | _ => false
theorem inR_no {n : Int} {d : D} (h : isK .int d = false) : inR n d = false := by
  cases d <;> first | rfl | simp [isK] at h
def arePl : D → List Int → Bool
  | .tup ds, m => decide (ds.length = m.length) && (ds.zip m).all fun p => inR p.2 p.1
  | _, _ => false
theorem arePl_no {v : D} {m : List Int} (h : ¬ ∃ ds, v = .tup ds) : arePl v m = false := by
  cases v <;> first | rfl | exact absurd ⟨_, rfl⟩ h
theorem zipF_ints : ∀ (ds : List D) (m : List Int), zipF ds (m.map Enc.enc) = (ds.zip m).map fun p => .tup [p.1, .int p.2]
  | [], _ => by cases ‹List Int› <;> rfl
  | d :: ds, [] => rfl
  | d :: ds, k :: m => by
    rw [List.map_cons, zipF, zipF_ints ds m]
    rfl
theorem arePl_nil {m : List Int} : arePl (.tup []) m = m.isEmpty := by cases m <;> simp [arePl]
/-- what places hold -/
theorem arePl_ints : ∀ {ds : List D} {m : List Int}, arePl (.tup ds) m = true → ∃ l : List Int, ds = l.map Enc.enc ∧ l.length = m.length ∧ ∀ k : Nat, ∀ x y, l[k]? = some x → m[k]? = some y → 0 ≤ x ∧ x < y
  | [], [], _ => ⟨[], rfl, rfl, fun k x y h => by simp at h⟩
  | [], _ :: _, h => by simp [arePl] at h
  | _ :: _, [], h => by simp [arePl] at h
  | d :: ds, y :: m, h => by
    simp only [arePl, Bool.and_eq_true, decide_eq_true_eq, List.zip_cons_cons, List.all_cons, List.length_cons] at h
    obtain ⟨l, h1, h2, h3⟩ := arePl_ints (ds := ds) (m := m) (by simp only [arePl, Bool.and_eq_true, decide_eq_true_eq]; exact ⟨by omega, h.2.2⟩)
    cases d with
    | int i =>
      have hi := h.2.1
      simp only [inR, Bool.and_eq_true, decide_eq_true_eq] at hi
      refine ⟨i :: l, by rw [h1]; rfl, by simp [h2], ?_⟩
      intro k x z
      cases k with
      | zero =>
        simp only [List.getElem?_cons_zero, Option.some.injEq]
        rintro rfl rfl
        exact hi
      | succ k => simpa using h3 k x z
    | _ => simp [inR] at h
/-- a part alike, told wrongly -/
theorem cellP_some {n : Int} {rs : List (Int × Int)} {pt : List Int} {v w : Int} {d : D} (h : cellP n rs pt v w = some d) : ∃ j : Int, d = .tup [.str "unlike", .int v, .int w, .int j] ∧ pt[v.toNat]? = pt[w.toNat]? ∧ j ∈ dif (byp n rs pt v.toNat) (byp n rs pt w.toNat) := by
  unfold cellP at h
  split at h
  · rename_i e
    split at h
    · cases h
    · rename_i j js hd
      cases h
      exact ⟨j, rfl, e, by rw [hd]; simp⟩
  · cases h
theorem badP_some {n : Int} {rs : List (Int × Int)} {pt : List Int} {d : D} (h : badP n rs pt = some d) : ∃ v w j : Int, d = .tup [.str "unlike", .int v, .int w, .int j] ∧ 0 ≤ v ∧ v < w ∧ w < n ∧ pt[v.toNat]? = pt[w.toNat]? ∧ j ∈ dif (byp n rs pt v.toNat) (byp n rs pt w.toNat) := by
  unfold badP at h
  obtain ⟨v, hv, h⟩ := List.exists_of_findSome?_eq_some h
  obtain ⟨w, hw, h⟩ := List.exists_of_findSome?_eq_some h
  rw [mem_rngI] at hv hw
  obtain ⟨j, rfl, e, hj⟩ := cellP_some h
  exact ⟨v, w, j, rfl, hv.1, by omega, hw.2, e, hj⟩
theorem dif_mem {a b : List Int} {j : Int} : j ∈ dif a b ↔ (0 ≤ j ∧ j < a.length) ∧ b[j.toNat]? ≠ a[j.toNat]? := by
  unfold dif
  simp [List.mem_filter, mem_rngI]
theorem badP_none {n : Int} {rs : List (Int × Int)} {pt : List Int} (h : badP n rs pt = none) : Evn n rs pt := by
  have key : ∀ v w : Nat, v < w → (w : Int) < n → pt[v]? = pt[w]? → byp n rs pt v = byp n rs pt w := by
    intro v w hvw hw e
    unfold badP at h
    rw [List.findSome?_eq_none_iff] at h
    have h := h (v : Int) (by rw [mem_rngI]; omega)
    rw [List.findSome?_eq_none_iff] at h
    have h := h (w : Int) (by rw [mem_rngI]; omega)
    unfold cellP at h
    simp only [Int.toNat_natCast, e, if_true] at h
    split at h
    · rename_i hd
      apply List.ext_getElem?
      intro k
      by_cases hk : k < (byp n rs pt v).length
      · have : ¬ ((k : Int) ∈ dif (byp n rs pt v) (byp n rs pt w)) := by rw [hd]; simp
        rw [dif_mem] at this
        simp only [Int.toNat_natCast] at this
        by_cases z : (byp n rs pt w)[k]? = (byp n rs pt v)[k]?
        · exact z.symm
        · exact absurd ⟨by omega, z⟩ this
      · rw [List.getElem?_eq_none (by omega), List.getElem?_eq_none (by rw [byp_len] at hk ⊢; omega)]
    · cases h
  intro v w hv hw e
  rcases Nat.lt_trichotomy v w with q | q | q
  · exact key v w q hw e
  · rw [q]
  · exact (key w v q hv e.symm).symm
/-- the verdict on a value -/
def uForm : D := .tup [.str "form"]
def jun (n : Int) (rs : List (Int × Int)) (pt : List Int) (v w j : Int) : D :=
  if w ≤ v then uForm else
  if pt[v.toNat]? ≠ pt[w.toNat]? then .tup [.str "part"] else
  if (byp n rs pt v.toNat)[j.toNat]? = (byp n rs pt w.toNat)[j.toNat]? then .tup [.str "alike", .int ((byp n rs pt v.toNat).getD j.toNat 0)] else .non
def jun3 (n : Int) (rs : List (Int × Int)) (pt : List Int) : List D → D
  | [.int v, .int w, .int j] => jun n rs pt v w j
  | _ => uForm
def jev (n : Int) (rs : List (Int × Int)) (pt : List Int) : D → D
  | .tup (.str s :: r) =>
    if s = "even" ∧ r.length = 1 then
      match badP n rs pt with
      | some d => d
      | none => if shown (r.headD .non) = shown (T (ptab n rs pt)) then .non else .tup [.str "table"]
    else if s = "unlike" ∧ arePl (.tup r) [n, n, mxI pt + 1] = true then jun3 n rs pt r
    else uForm
  | _ => uForm
theorem costs_mem {x : D} : ∀ {ds : List D}, x ∈ ds → cost x ≤ costs ds
  | d :: ds, h => by
    rw [costs_cons]
    rcases List.mem_cons.mp h with rfl | h
    · omega
    · have := costs_mem h
      omega
theorem Gd.kid {k c : Nat} {ds : List D} {x : D} (h : Gd k c (.tup ds)) (hx : x ∈ ds) : Gd (k - 1) c x := by
  cases k with
  | zero => have := h.1; simp [okR] at this
  | succ k =>
    obtain ⟨a, b, e⟩ := h
    rw [okR_tup, okRs_iff] at a
    rw [shw_tup, shws_iff] at b
    rw [cost_tup] at e
    have := costs_mem hx
    exact ⟨a x hx, b x hx, by omega⟩
theorem Gd.kidL {k c : Nat} {ds : List D} {x : D} (h : Gd k c (.lst ds)) (hx : x ∈ ds) : Gd (k - 1) c x := by
  cases k with
  | zero => have := h.1; simp [okR] at this
  | succ k =>
    obtain ⟨a, b, e⟩ := h
    rw [okR_lst, okRs_iff] at a
    rw [shw_lst, shws_iff] at b
    rw [cost_lst] at e
    have := costs_mem hx
    exact ⟨a x hx, b x hx, by omega⟩
theorem Gd.rows {k b m : Nat} {l : List (List Int)} (h : ∀ r ∈ l, r.length ≤ m ∧ ∀ x ∈ r, x.natAbs < 1000000000) (hb : l.length * (m * 12 + 5) + 3 ≤ b) (hk : 2 ≤ k) : Gd k b (DL.T l) := by
  have g : Gds 1 (m * 12 + 3) (l.map Enc.enc) := fun x hx => by
    obtain ⟨r, hr, rfl⟩ := List.mem_map.mp hx
    have := h r hr
    exact (Gd.T (k := 0) this.2).mono (Nat.le_refl _) (by have := Nat.mul_le_mul_right 12 this.1; omega)
  have := Gd.tup g
  rw [List.length_map] at this
  exact this.mono hk (by omega)
theorem mxI_canon {n : Int} {pt : List Int} (hp : PtOk n pt) (hc : tp pt = pt) (hn : pt ≠ []) : mxI pt < n := by
  have h1 := mxI_tp hn
  rw [hc] at h1
  have := firsts_len pt
  have := hp.1
  omega
theorem byp_bd {n : Int} {rs : List (Int × Int)} {pt : List Int} {c : Nat} : ∀ x ∈ byp n rs pt c, 0 ≤ x ∧ x ≤ 2 * rs.length := by
  intro x hx
  unfold byp at hx
  obtain ⟨j, _, rfl⟩ := List.mem_map.mp hx
  have h1 := List.count_le_length (a := (j : Int)) (l := ledP rs pt ((std n rs).getD c []))
  have h2 := std_row (n := n) (rs := rs) (c := c)
  have h3 : (ledP rs pt ((std n rs).getD c [])).length = ((std n rs).getD c []).length := by simp [ledP]
  constructor <;> omega
theorem ptab_len (n : Int) (rs : List (Int × Int)) (pt : List Int) : (ptab n rs pt).length = (mxI pt + 1).toNat := by
  unfold ptab
  simp
theorem ptabG {n : Int} {rs : List (Int × Int)} {pt : List Int} (hp : PtOk n pt) (hc : tp pt = pt) (hn : pt ≠ []) (h1 : n ≤ 100) (h2 : rs.length ≤ 10000) : Gd 2 130000 (T (ptab n rs pt)) := by
  have hm := mxI_canon hp hc hn
  refine Gd.rows (k := 2) (m := 100) (fun r hr => ?_) ?_ (Nat.le_refl 2)
  · unfold ptab at hr
    obtain ⟨j, _, rfl⟩ := List.mem_map.mp hr
    refine ⟨by rw [byp_len]; omega, fun x hx => ?_⟩
    have := byp_bd x hx
    omega
  · have : (ptab n rs pt).length ≤ 100 := by rw [ptab_len]; omega
    omega
theorem tup3I (a b c : Int) : D.tup [.int a, .int b, .int c] = T [a, b, c] := rfl
theorem fstA_nd {α : Type} [Enc α] [DecidableEq α] : ∀ (l acc : List α), (acc ++ l).Nodup → fstA acc l = acc ++ l
  | [], acc, _ => by simp [fstA]
  | a :: l, acc, h => by
    unfold fstA
    have hn : a ∉ acc := fun q => by
      rw [List.nodup_append] at h
      exact h.2.2 a q a (List.mem_cons_self ..) rfl
    rw [if_neg hn, fstA_nd l (acc ++ [a]) (by simpa using h)]
    simp
theorem rngI_nodup (n : Int) : (rngI 0 n).Nodup := by
  rw [rngI_nat, List.nodup_iff_pairwise_ne, List.pairwise_map]
  exact List.nodup_range.imp fun h e => h (by omega)
theorem rngI_at {n : Int} {k : Nat} (h : (k : Int) < n) : (rngI 0 n)[k]? = some (k : Int) := by
  rw [rngI_nat, List.getElem?_map, List.getElem?_range (by omega)]
  rfl
theorem tp_range (n : Int) : tp (rngI 0 n) = rngI 0 n := by
  have e : firsts (rngI 0 n) = rngI 0 n := fstA_nd _ [] (by simpa using rngI_nodup n)
  unfold tp
  rw [e]
  conv => rhs; rw [← List.map_id (rngI 0 n)]
  apply List.map_congr_left
  intro a ha
  have h := mem_rngI.mp ha
  have hk : a.toNat < (rngI 0 n).length := by simp; omega
  have g : (rngI 0 n)[a.toNat] = a := by
    have := rngI_at (n := n) (k := a.toNat) (by omega)
    rw [List.getElem?_eq_getElem hk] at this
    have := Option.some.inj this
    omega
  have := idxD_at (rngI_nodup n) hk
  rw [g] at this
  rw [this]
  simp only [id]
  omega
theorem tp_const (n : Nat) : tp (List.replicate n (0 : Int)) = List.replicate n 0 := by
  have hl : (firsts (List.replicate n (0 : Int))).length ≤ 1 := nodup_le (b := [0]) (firsts_nodup _) fun x hx => by
    have := (List.mem_replicate.mp (firsts_mem.mp hx)).2
    simp [this]
  unfold tp
  conv => rhs; rw [← List.map_id (List.replicate n (0 : Int))]
  apply List.map_congr_left
  intro a ha
  have := idxD_lt (firsts_mem.mpr ha)
  have e := (List.mem_replicate.mp ha).2
  simp only [id]
  omega
theorem paperG {n : Int} {rs : List (Int × Int)} {pt : List Int} (hp : PtOk n pt) (hc : tp pt = pt) (hn : pt ≠ []) (h1 : n ≤ 100) (h2 : rs.length ≤ 10000) : Gd 3 600000 (paper n rs pt) := by
  unfold paper
  cases hb : badP n rs pt with
  | none =>
    have g := ptabG (rs := rs) hp hc hn h1 h2
    exact (Gd.tup (Gds.cons (k := 2) (c := 130000) ⟨by decide +kernel, by decide +kernel, by decide +kernel⟩ (Gds.cons g Gds.nil))).mono (by decide) (by simp)
  | some d =>
    obtain ⟨v, w, j, rfl, v0, vw, wn, e, hj⟩ := badP_some hb
    have hm := mxI_canon hp hc hn
    have hj := (dif_mem.mp hj).1
    rw [byp_len] at hj
    exact (Gd.tup (Gds.cons (k := 2) (c := 130000) ⟨by decide +kernel, by decide +kernel, by decide +kernel⟩ (Gds.cons (Gd.int (by omega) (by decide)) (Gds.cons (Gd.int (by omega) (by decide)) (Gds.cons (Gd.int (by omega) (by decide)) Gds.nil))))).mono (by decide) (by simp)
@[simp] theorem isNoneB_non : isNoneB .non = true := rfl
@[simp] theorem isNoneB_tup (ds : List D) : isNoneB (.tup ds) = false := rfl
@[simp] theorem isNoneB_int (i : Int) : isNoneB (.int i) = false := rfl
@[simp] theorem noLst_paper {n : Int} {rs : List (Int × Int)} {pt : List Int} : noLst (paper n rs pt) = true := by
  unfold paper
  cases hb : badP n rs pt with
  | none => simp
  | some d =>
    obtain ⟨v, w, j, rfl, _⟩ := badP_some hb
    simp
theorem jev_paper {n : Int} {rs : List (Int × Int)} {pt : List Int} : jev n rs pt (paper n rs pt) = .non := by
  unfold paper
  cases hb : badP n rs pt with
  | none => simp [jev, hb]
  | some d =>
    obtain ⟨v, w, j, rfl, v0, vw, wn, e, hj⟩ := badP_some hb
    have hj := dif_mem.mp hj
    have hl := hj.1
    rw [byp_len] at hl
    have hm := mxI_nn pt
    have a : arePl (.tup [.int v, .int w, .int j]) [n, n, mxI pt + 1] = true := by
      simp [arePl, inR]
      omega
    have s1 : ¬ (("unlike" : Str) = "even") := by decide
    simp only [jev, s1, false_and, if_false, a, and_self, if_true, jun3, jun]
    rw [if_neg (by omega), if_neg (by rw [e]; simp), if_neg fun q => hj.2 q.symm]
end DL
/-! Crs -/
namespace DL
open PySem PySem.Spec PyProof.Rows L2
def lapF (n : Int) (rs : List (Int × Int)) : Nat → List Int → List (List Int)
  | 0, p => [p]
  | k + 1, p => if nxl n rs p = p then [p] else p :: lapF n rs k (nxl n rs p)
def crF (n : Int) (rs : List (Int × Int)) : Nat → List Int → List Int
  | 0, p => p
  | k + 1, p => if nxl n rs p = p then p else crF n rs k (nxl n rs p)
def lps (n : Int) (rs : List (Int × Int)) (p : List Int) : List (List Int) := lapF n rs n.toNat p
def crs (n : Int) (rs : List (Int × Int)) (p : List Int) : List Int := crF n rs n.toNat p
theorem lapF_last (n : Int) (rs : List (Int × Int)) : ∀ (k : Nat) (p : List Int), ∃ q, lapF n rs k p = q ++ [crF n rs k p]
  | 0, p => ⟨[], rfl⟩
  | k + 1, p => by
    unfold lapF crF
    by_cases e : nxl n rs p = p
    · rw [if_pos e, if_pos e]; exact ⟨[], rfl⟩
    · rw [if_neg e, if_neg e]
      obtain ⟨q, h⟩ := lapF_last n rs k (nxl n rs p)
      exact ⟨p :: q, by rw [h]; rfl⟩
/-- partings as they are told -/
structure Pc (n : Int) (p : List Int) : Prop where
  ok : PtOk n p
  c : tp p = p
theorem Pc.nx {n : Int} {rs : List (Int × Int)} {p : List Int} (h : Pc n p) (hn : n ≤ 1000) : Pc n (nxl n rs p) := ⟨nxl_ok h.ok hn, tp_tp _⟩
theorem Pc.len {n : Int} {p : List Int} (h : Pc n p) : (firsts p).length ≤ n.toNat := by
  have := firsts_len p
  have := h.ok.1
  omega
theorem Pc.grow {n : Int} {rs : List (Int × Int)} {p : List Int} (h : Pc n p) (hn : n ≤ 1000) (e : nxl n rs p ≠ p) : (firsts p).length < (firsts (nxl n rs p)).length ∧ (firsts (nxl n rs p)).length ≤ n.toNat := ⟨nxl_grow h.c e, (h.nx (rs := rs) hn).len⟩
theorem crF_ok {n : Int} {rs : List (Int × Int)} (hn : n ≤ 1000) : ∀ (k : Nat) (p : List Int), Pc n p → n.toNat ≤ (firsts p).length + k → Pc n (crF n rs k p) ∧ nxl n rs (crF n rs k p) = crF n rs k p
  | 0, p, h, hk => by
    refine ⟨h, ?_⟩
    unfold crF
    by_cases e : nxl n rs p = p
    · exact e
    · have := h.grow hn e
      omega
  | k + 1, p, h, hk => by
    unfold crF
    by_cases e : nxl n rs p = p
    · rw [if_pos e]; exact ⟨h, e⟩
    · rw [if_neg e]
      have := h.grow hn e
      exact crF_ok hn k _ (h.nx hn) (by omega)
theorem crs_ok {n : Int} {rs : List (Int × Int)} {p : List Int} (hn : n ≤ 1000) (h : Pc n p) : Pc n (crs n rs p) ∧ nxl n rs (crs n rs p) = crs n rs p := crF_ok hn _ p h (by omega)
theorem lapF_len {n : Int} {rs : List (Int × Int)} (hn : n ≤ 1000) : ∀ (k : Nat) (p : List Int), Pc n p → (firsts p).length + (lapF n rs k p).length ≤ n.toNat + 1
  | 0, p, h => by
    have := h.len
    simp [lapF]
    omega
  | k + 1, p, h => by
    unfold lapF
    have := h.len
    by_cases e : nxl n rs p = p
    · rw [if_pos e]; simp; omega
    · rw [if_neg e]
      have := h.grow hn e
      have := lapF_len (rs := rs) hn k _ (h.nx (rs := rs) hn)
      simp only [List.length_cons]
      omega
theorem lapF_all {n : Int} {rs : List (Int × Int)} (hn : n ≤ 1000) : ∀ (k : Nat) (p : List Int), Pc n p → ∀ q ∈ lapF n rs k p, Pc n q
  | 0, p, h, q, hq => by simp [lapF] at hq; rw [hq]; exact h
  | k + 1, p, h, q, hq => by
    unfold lapF at hq
    by_cases e : nxl n rs p = p
    · rw [if_pos e] at hq; simp at hq; rw [hq]; exact h
    · rw [if_neg e] at hq
      rcases List.mem_cons.mp hq with rfl | hq
      · exact h
      · exact lapF_all hn k _ (h.nx hn) q hq
theorem lapF_head (n : Int) (rs : List (Int × Int)) (k : Nat) (p : List Int) : (lapF n rs k p)[0]? = some p := by
  cases k with
  | zero => rfl
  | succ k => unfold lapF; split <;> rfl
theorem lapF_step {n : Int} {rs : List (Int × Int)} (hn : n ≤ 1000) : ∀ (k : Nat) (p : List Int), Pc n p → ∀ (i : Nat) (a b : List Int), (lapF n rs k p)[i]? = some a → (lapF n rs k p)[i + 1]? = some b → b = nxl n rs a ∧ (firsts a).length < (firsts b).length
  | 0, p, h, i, a, b, h1, h2 => by simp [lapF] at h2
  | k + 1, p, h, i, a, b, h1, h2 => by
    unfold lapF at h1 h2
    by_cases e : nxl n rs p = p
    · rw [if_pos e] at h2; simp at h2
    · rw [if_neg e] at h1 h2
      rw [List.getElem?_cons_succ] at h2
      cases i with
      | zero =>
        rw [List.getElem?_cons_zero] at h1
        cases h1
        rw [lapF_head] at h2
        cases h2
        exact ⟨rfl, (h.grow hn e).1⟩
      | succ i =>
        rw [List.getElem?_cons_succ] at h1
        exact lapF_step hn k _ (h.nx hn) i a b h1 h2
theorem mks_get {n : Int} {rs : List (Int × Int)} {p : List Int} {v : Nat} (h : v < p.length) : (mks n rs p)[v]? = some (p[v], byp n rs p v) := by
  have hl : v < (enumI 0 p).length := by simpa using h
  have e1 : (enumI 0 p)[v].2 = p[v] := by
    have := congrArg (fun l => l[v]?) (enumI_snd p 0)
    simp only [List.getElem?_map, List.getElem?_eq_getElem hl, List.getElem?_eq_getElem h, Option.map_some, Option.some.injEq] at this
    exact this
  have e2 : (enumI 0 p)[v].1 = (v : Int) := by
    have := congrArg (fun l => l[v]?) (enumI_fst p)
    simp only [List.getElem?_map, List.getElem?_eq_getElem hl, Option.map_some] at this
    rw [rngI_at (by omega)] at this
    exact Option.some.inj this
  unfold mks
  rw [List.getElem?_map, List.getElem?_eq_getElem hl, Option.map_some, e1, e2]
  simp
theorem nxl_get {n : Int} {rs : List (Int × Int)} {p : List Int} {v : Nat} (h : v < p.length) : (nxl n rs p)[v]? = some ((idxD (firsts (mks n rs p)) (p[v], byp n rs p v) : Nat) : Int) := by
  unfold nxl tp
  rw [List.getElem?_map, mks_get h]
  rfl
theorem evn_of_fix {n : Int} {rs : List (Int × Int)} {p : List Int} (h : (p.length : Int) = n) (e : nxl n rs p = p) : Evn n rs p := by
  intro v w hv hw q
  have lv : v < p.length := by omega
  have lw : w < p.length := by omega
  have a := nxl_get (n := n) (rs := rs) lv
  have b := nxl_get (n := n) (rs := rs) lw
  rw [e] at a b
  have : idxD (firsts (mks n rs p)) (p[v], byp n rs p v) = idxD (firsts (mks n rs p)) (p[w], byp n rs p w) := by
    rw [a, b] at q
    have := Option.some.inj q
    omega
  have := idxD_inj (firsts_mem.mpr (List.mem_of_getElem? (mks_get lv))) (firsts_mem.mpr (List.mem_of_getElem? (mks_get lw))) this
  exact (Prod.ext_iff.mp this).2
theorem fix_of_evn {n : Int} {rs : List (Int × Int)} {p : List Int} (h : (p.length : Int) = n) (c : tp p = p) (ev : Evn n rs p) : nxl n rs p = p := by
  have inj : ∀ x y : Mk, (x ∈ ([] : List Mk) ∨ x ∈ mks n rs p) → (y ∈ ([] : List Mk) ∨ y ∈ mks n rs p) → x.1 = y.1 → x = y := by
    intro x y hx hy e
    have hx := hx.resolve_left (by simp)
    have hy := hy.resolve_left (by simp)
    obtain ⟨v, hv, ev'⟩ := List.mem_iff_getElem.mp hx
    obtain ⟨w, hw, ew'⟩ := List.mem_iff_getElem.mp hy
    rw [mks_len] at hv hw
    have a := mks_get (n := n) (rs := rs) hv
    have b := mks_get (n := n) (rs := rs) hw
    rw [List.getElem?_eq_getElem (by rw [mks_len]; exact hv), ev'] at a
    rw [List.getElem?_eq_getElem (by rw [mks_len]; exact hw), ew'] at b
    cases a
    cases b
    have e : p[v] = p[w] := e
    rw [ev v w (by omega) (by omega) (by rw [List.getElem?_eq_getElem hv, List.getElem?_eq_getElem hw, e]), e]
  have e := fstA_map Prod.fst (mks n rs p) [] inj
  have l : (firsts (mks n rs p)).length ≤ (firsts ((mks n rs p).map Prod.fst)).length := by
    unfold firsts
    rw [show ([] : List Int) = ([] : List Mk).map Prod.fst from rfl, e, List.length_map]
    exact Nat.le_refl _
  have := tp_map_eq Prod.fst (mks n rs p) l
  rw [mks_fst, c] at this
  exact this.symm
def evB (n : Int) (rs : List (Int × Int)) (p : List Int) : Bool := (rngI 0 n).all fun c => decide (byp n rs p c.toNat = byp n rs p (idxD p (p.getD c.toNat 0)))
theorem evB_iff {n : Int} {rs : List (Int × Int)} {p : List Int} (h : (p.length : Int) = n) : evB n rs p = true ↔ Evn n rs p := by
  have hi : ∀ v : Nat, (v : Int) < n → ∃ hv : v < p.length, p.getD v 0 = p[v] ∧ p[idxD p p[v]]? = some p[v] ∧ ((idxD p p[v] : Nat) : Int) < n := by
    intro v hv
    have hl : v < p.length := by omega
    have hm : p[v] ∈ p := List.getElem_mem hl
    have := idxD_lt hm
    exact ⟨hl, by simp [List.getD_eq_getElem?_getD, List.getElem?_eq_getElem hl], idxD_get hm, by omega⟩
  unfold evB
  rw [List.all_eq_true]
  constructor
  · intro a v w hv hw e
    obtain ⟨lv, v1, v2, v3⟩ := hi v hv
    obtain ⟨lw, w1, w2, w3⟩ := hi w hw
    have a1 := a (v : Int) (mem_rngI.mpr (by omega))
    have a2 := a (w : Int) (mem_rngI.mpr (by omega))
    simp only [Int.toNat_natCast, decide_eq_true_eq, v1, w1] at a1 a2
    rw [List.getElem?_eq_getElem lv, List.getElem?_eq_getElem lw] at e
    rw [a1, a2, Option.some.inj e]
  · intro ev c hc
    have hc := mem_rngI.mp hc
    obtain ⟨lv, v1, v2, v3⟩ := hi c.toNat (by omega)
    rw [decide_eq_true_eq, v1]
    exact ev _ _ (by omega) v3 (by rw [v2, List.getElem?_eq_getElem lv])
theorem badP_evB {n : Int} {rs : List (Int × Int)} {p : List Int} (h : (p.length : Int) = n) : (badP n rs p).isNone = evB n rs p := by
  rw [Bool.eq_iff_iff, evB_iff h, Option.isNone_iff_eq_none]
  refine ⟨badP_none, fun ev => ?_⟩
  unfold badP
  rw [List.findSome?_eq_none_iff]
  intro v hv
  rw [List.findSome?_eq_none_iff]
  intro w hw
  rw [mem_rngI] at hv hw
  unfold cellP
  by_cases e : p[v.toNat]? = p[w.toNat]?
  · rw [if_pos e, ev v.toNat w.toNat (by omega) (by omega) e]
    have : dif (byp n rs p w.toNat) (byp n rs p w.toNat) = [] := by unfold dif; simp
    rw [this]
  · rw [if_neg e]
theorem fix_evB {n : Int} {rs : List (Int × Int)} {p : List Int} (h : Pc n p) : decide (nxl n rs p = p) = evB n rs p := by
  rw [Bool.eq_iff_iff, decide_eq_true_eq, evB_iff h.ok.1]
  exact ⟨evn_of_fix h.ok.1, fix_of_evn h.ok.1 h.c⟩
def Fin' (a b : List Int) : Prop := ∀ v w : Nat, v < a.length → w < a.length → a[v]? = a[w]? → b[v]? = b[w]?
def finB (a b : List Int) : Bool := decide ((firsts (a.zip b)).length = (firsts a).length)
theorem zip_fst {α β : Type} : ∀ {a : List α} {b : List β}, a.length = b.length → (a.zip b).map Prod.fst = a
  | [], [], _ => rfl
  | [], _ :: _, h => by simp at h
  | _ :: _, [], h => by simp at h
  | x :: a, y :: b, h => by simp [zip_fst (a := a) (b := b) (by simpa using h)]
theorem finB_iff {a b : List Int} (h : a.length = b.length) : finB a b = true ↔ Fin' a b := by
  have hz := zip_fst h
  have hg : ∀ v, v < a.length → ∃ (h1 : v < a.length) (h2 : v < b.length), (a[v], b[v]) ∈ a.zip b ∧ a[v]? = some a[v] ∧ b[v]? = some b[v] := by
    intro v hv
    have hb : v < b.length := by omega
    refine ⟨hv, hb, ?_, List.getElem?_eq_getElem hv, List.getElem?_eq_getElem hb⟩
    have : (a.zip b)[v]? = some (a[v], b[v]) := by
      rw [List.getElem?_zip_eq_some]
      exact ⟨List.getElem?_eq_getElem hv, List.getElem?_eq_getElem hb⟩
    exact List.mem_of_getElem? this
  unfold finB
  rw [decide_eq_true_eq]
  constructor
  · intro e v w hv hw q
    obtain ⟨v1, v2, v3, v4, v5⟩ := hg v hv
    obtain ⟨w1, w2, w3, w4, w5⟩ := hg w hw
    have nd : ((firsts (a.zip b)).map Prod.fst).Nodup := nodup_eq (a := firsts ((a.zip b).map Prod.fst)) (firsts_nodup _) (fun x hx => by
      obtain ⟨y, hy, rfl⟩ := List.mem_map.mp (firsts_mem.mp hx)
      exact List.mem_map.mpr ⟨y, firsts_mem.mpr hy, rfl⟩) (by rw [List.length_map, hz]; omega)
    have := inj_nodup nd _ (firsts_mem.mpr v3) _ (firsts_mem.mpr w3) (by rw [v4, w4] at q; exact Option.some.inj q)
    have := (Prod.ext_iff.mp this).2
    dsimp only at this
    rw [v5, w5, this]
  · intro f
    have e := fstA_map Prod.fst (a.zip b) [] fun x y hx hy e => by
      obtain ⟨v, hv, ev⟩ := List.mem_iff_getElem.mp (hx.resolve_left (by simp))
      obtain ⟨w, hw, ew⟩ := List.mem_iff_getElem.mp (hy.resolve_left (by simp))
      rw [List.length_zip] at hv hw
      obtain ⟨v1, v2, v3, v4, v5⟩ := hg v (by omega)
      obtain ⟨w1, w2, w3, w4, w5⟩ := hg w (by omega)
      rw [List.getElem_zip] at ev ew
      subst ev
      subst ew
      have e : a[v] = a[w] := e
      have := f v w (by omega) (by omega) (by rw [v4, w4, e])
      rw [v5, w5] at this
      rw [e, Option.some.inj this]
    unfold firsts
    have e2 : fstA [] a = (fstA [] (a.zip b)).map Prod.fst := by
      rw [← e, hz]
      rfl
    rw [e2, List.length_map]
theorem byp_eq_of {n : Int} {rs : List (Int × Int)} {p q : List Int} (h : RdsOk n rs) (hp : PtOk n p) (hq : PtOk n q) (f : Fin' p q) {v w : Nat} (hv : (v : Int) < n) (hw : (w : Int) < n) (e : byp n rs p v = byp n rs p w) : byp n rs q v = byp n rs q w := by
  have lp := hp.1
  have lq := hq.1
  obtain ⟨g, hg⟩ : ∃ g : Int → Int, ∀ c : Nat, c < p.length → q.getD c 0 = g (p.getD c 0) := by
    refine ⟨fun x => q.getD (idxD p x) 0, fun c hc => ?_⟩
    have hm : p.getD c 0 = p[c] := by simp [List.getD_eq_getElem?_getD, List.getElem?_eq_getElem hc]
    have hmem : p[c] ∈ p := List.getElem_mem hc
    rw [hm]
    have := f c (idxD p p[c]) hc (idxD_lt hmem) (by rw [idxD_get hmem, List.getElem?_eq_getElem hc])
    show q.getD c 0 = q.getD (idxD p p[c]) 0
    rw [List.getD_eq_getElem?_getD, List.getD_eq_getElem?_getD, this]
  have led : ∀ c : Nat, (c : Int) < n → ledP rs q ((std n rs).getD c []) = (ledP rs p ((std n rs).getD c [])).map g := by
    intro c hc
    unfold ledP
    rw [List.map_map]
    apply List.map_congr_left
    intro e he
    rw [std_mem h (by omega)] at he
    obtain ⟨d, h1, h2, h3⟩ := toE_some h he.1 he.2.1
    simp only [Function.comp, h1, Option.getD_some]
    exact hg d.toNat (by omega)
  have perm : (ledP rs p ((std n rs).getD v [])).Perm (ledP rs p ((std n rs).getD w [])) := by
    rw [List.perm_iff_count]
    intro x
    have bnd : ∀ c : Nat, (c : Int) < n → ∀ y ∈ ledP rs p ((std n rs).getD c []), 0 ≤ y ∧ y ≤ mxI p := by
      intro c hc y hy
      obtain ⟨e, he, rfl⟩ := List.mem_map.mp hy
      rw [std_mem h (by omega)] at he
      obtain ⟨d, x, t1, t2, t3, t4, t5, t6, t7⟩ := hp.led h he.1 he.2.1
      rw [← t5]
      exact ⟨t6, t7⟩
    by_cases hx : 0 ≤ x ∧ x ≤ mxI p
    · have := congrArg (fun l => l.getD x.toNat 0) e
      unfold byp at this
      have hl : x.toNat < (mxI p + 1).toNat := by omega
      simp only [List.getD_eq_getElem?_getD, List.getElem?_map, List.getElem?_range hl, Option.map_some, Option.getD_some, show ((x.toNat : Nat) : Int) = x by omega] at this
      simp only [List.getD_eq_getElem?_getD]
      omega
    · rw [List.count_eq_zero_of_not_mem fun hm => hx (bnd v hv x hm), List.count_eq_zero_of_not_mem fun hm => hx (bnd w hw x hm)]
  unfold byp
  apply List.map_congr_left
  intro j _
  rw [led v hv, led w hw, (perm.map g).count_eq]
theorem fin_nxl {n : Int} {rs : List (Int × Int)} {p q : List Int} (h : RdsOk n rs) (hp : PtOk n p) (hq : PtOk n q) (ev : Evn n rs p) (f : Fin' p q) : Fin' p (nxl n rs q) := by
  have lp := hp.1
  have lq := hq.1
  intro v w hv hw e
  have hv' : v < q.length := by omega
  have hw' : w < q.length := by omega
  rw [nxl_get hv', nxl_get hw']
  have e1 := f v w hv hw e
  rw [List.getElem?_eq_getElem hv', List.getElem?_eq_getElem hw'] at e1
  rw [Option.some.inj e1, byp_eq_of h hp hq f (by omega) (by omega) (ev v w (by omega) (by omega) e)]
theorem fin_crF {n : Int} {rs : List (Int × Int)} {p : List Int} (h : RdsOk n rs) (hn : n ≤ 1000) (hp : PtOk n p) (ev : Evn n rs p) : ∀ (k : Nat) (q : List Int), PtOk n q → Fin' p q → Fin' p (crF n rs k q)
  | 0, q, _, f => f
  | k + 1, q, hq, f => by
    unfold crF
    by_cases e : nxl n rs q = q
    · rw [if_pos e]; exact f
    · rw [if_neg e]
      exact fin_crF h hn hp ev k _ (nxl_ok hq hn) (fin_nxl h hp hq ev f)
theorem fin_refl (p : List Int) : Fin' p p := fun _ _ _ _ e => e
theorem fin_nxl_self {n : Int} {rs : List (Int × Int)} {p q : List Int} (l : p.length = q.length) (f : Fin' p q) : Fin' (nxl n rs p) q := by
  intro v w hv hw e
  rw [nxl_len] at hv hw
  rw [nxl_get hv, nxl_get hw] at e
  have : idxD (firsts (mks n rs p)) (p[v], byp n rs p v) = idxD (firsts (mks n rs p)) (p[w], byp n rs p w) := by
    have := Option.some.inj e
    omega
  have := idxD_inj (firsts_mem.mpr (List.mem_of_getElem? (mks_get hv))) (firsts_mem.mpr (List.mem_of_getElem? (mks_get hw))) this
  have := (Prod.ext_iff.mp this).1
  exact f v w hv hw (by rw [List.getElem?_eq_getElem hv, List.getElem?_eq_getElem hw]; exact congrArg some this)
theorem fin_crF_self {n : Int} {rs : List (Int × Int)} {q : List Int} : ∀ (k : Nat) (p : List Int), p.length = q.length → Fin' p q → Fin' (crF n rs k p) q
  | 0, p, _, f => f
  | k + 1, p, l, f => by
    unfold crF
    by_cases e : nxl n rs p = p
    · rw [if_pos e]; exact f
    · rw [if_neg e]
      exact fin_crF_self k _ (by rw [nxl_len]; exact l) (fin_nxl_self l f)
theorem dct_fold {α : Type} [Enc α] [DecidableEq α] (v : α → D) : ∀ (l acc : List α) (vs : List D), ((l.map fun a => (Enc.enc a, v a)).foldl (fun a p => (putKs a.1 p.1, putVs a.1 a.2 p.1 p.2)) (acc.map Enc.enc, vs)).1 = (fstA acc l).map Enc.enc
  | [], _, _ => rfl
  | a :: l, acc, vs => by
    rw [List.map_cons, List.foldl_cons]
    dsimp only
    unfold fstA
    by_cases h : a ∈ acc
    · rw [if_pos h]
      have : putKs (acc.map Enc.enc) (Enc.enc a) = acc.map Enc.enc := by unfold putKs; rw [posD_enc, if_pos h]
      rw [this]
      exact dct_fold v l acc _
    · rw [if_neg h]
      have : putKs (acc.map Enc.enc) (Enc.enc a) = (acc ++ [a]).map Enc.enc := by unfold putKs; rw [posD_enc, if_neg h]; simp
      rw [this]
      exact dct_fold v l (acc ++ [a]) _
theorem dct_keys {α : Type} [Enc α] [DecidableEq α] (v : α → D) (l : List α) : (dctOf (l.map fun a => (Enc.enc a, v a))).1 = (firsts l).map Enc.enc := dct_fold v l [] []
@[simp] theorem noLsts_rep (n : Nat) (k : Int) : noLsts (List.replicate n (D.int k)) = true := by
  rw [noLsts_iff]
  intro x hx
  rw [(List.mem_replicate.mp hx).2]
  rfl
theorem rep_T (n : Nat) (k : Int) : D.tup (List.replicate n (D.int k)) = T (List.replicate n k) := by rw [T_def, List.map_replicate]; rfl
theorem putVs_sub {ks vs : List D} {k v : D} : ∀ x ∈ putVs ks vs k v, x ∈ vs ∨ x = v := by
  intro x hx
  unfold putVs at hx
  split at hx
  · rcases List.mem_or_eq_of_mem_set hx with h | h
    · exact .inl h
    · exact .inr h
  · rcases List.mem_append.mp hx with h | h
    · exact .inl h
    · exact .inr (by simpa using h)
theorem dct_vals : ∀ (l : List (D × D)) (ks vs : List D), ∀ x ∈ (l.foldl (fun a p => (putKs a.1 p.1, putVs a.1 a.2 p.1 p.2)) (ks, vs)).2, x ∈ vs ∨ ∃ p ∈ l, x = p.2
  | [], ks, vs, x, hx => .inl hx
  | p :: l, ks, vs, x, hx => by
    rw [List.foldl_cons] at hx
    rcases dct_vals l _ _ x hx with h | ⟨q, hq, e⟩
    · rcases putVs_sub x h with h | h
      · exact .inl h
      · exact .inr ⟨p, by simp, h⟩
    · exact .inr ⟨q, List.mem_cons_of_mem _ hq, e⟩
theorem dct_noLst {α : Type} [Enc α] {v : α → D} (hv : ∀ a, noLst (v a) = true) (l : List α) : noLsts (dctOf (l.map fun a => (Enc.enc a, v a))).2 = true := by
  rw [noLsts_iff]
  intro x hx
  rcases dct_vals _ [] [] x hx with h | ⟨p, hp, rfl⟩
  · simp at h
  · obtain ⟨a, _, rfl⟩ := List.mem_map.mp hp
    exact hv a
theorem Pc.ne {n : Int} {p : List Int} (h : Pc n p) (h0 : 1 ≤ n) : p ≠ [] := fun e => by
  have := h.ok.1
  rw [e] at this
  simp at this
  omega
end DL
/-! Vals -/
namespace DL
open PySem PySem.Spec PyProof.Rows L2
def isIntD : D → Bool
  | .int _ => true
  | _ => false
theorem isIntD_no {d : D} (h : isK .int d = false) : isIntD d = false := by
  cases d <;> first | rfl | simp [isK] at h
def intV : D → Int
  | .int i => i
  | _ => 0
def intsV (ds : List D) : List Int := ds.map intV
theorem intsV_enc : ∀ {ds : List D}, ds.all isIntD = true → (intsV ds).map Enc.enc = ds
  | [], _ => rfl
  | d :: ds, h => by
    simp only [List.all_cons, Bool.and_eq_true] at h
    have := intsV_enc h.2
    unfold intsV at this ⊢
    rw [List.map_cons, List.map_cons, this]
    cases d with
    | int i => rfl
    | _ => simp [isIntD] at h
theorem intsV_T {ds : List D} (h : ds.all isIntD = true) : D.tup ds = T (intsV ds) := by rw [T_def, intsV_enc h]
def prow (n : Int) : D → Bool
  | .tup ds => decide ((ds.length : Int) = n) && (ds.all isIntD && decide (tp (intsV ds) = intsV ds))
  | _ => false
theorem prow_no {n : Int} {v : D} (h : ¬ ∃ ds, v = .tup ds) : prow n v = false := by
  cases v <;> first | rfl | exact absurd ⟨_, rfl⟩ h
theorem sFor_items {wi : WI} {p : Pat} {s : WS} {env : SEnv} {De : DEnds} {Ee : SEX} (l : List D) (h : ∀ R : List D → Prop, R l → wi (vview env) R (fun x => Ee x env)) (k : loopD p s De Ee l env) : sFor wi p s env De Ee := h _ k
end DL
namespace DL
open PySem PySem.Spec PyProof.Rows L2
def fs__law_mixed : FSp := fun ds Q _ => ∃ xs : List D, (ds = [.src, .lst xs] ∨ ds = [.src, .tup xs]) ∧ noLsts xs = true ∧ xs.length ≤ 100000 ∧ ∀ r : List D, r.Perm xs → Q (.lst (r.map .val))
theorem law_mixed_L {α : Type} [Enc α] [Flat α] {l : List α} {Q : O → Prop} {E : EX} (hl : l.length ≤ 100000) (h : ∀ r : List α, r.Perm l → Q (Ow r)) : fs__law_mixed [.src, L l] Q E := by
  refine ⟨l.map Enc.enc, .inl rfl, ?_, by simpa using hl, fun r hr => ?_⟩
  · exact noLsts_of rfl
  · obtain ⟨r', e, hp⟩ := perm_map hr
    rw [e, lstval]
    exact h r' hp
theorem len__law_mixed : ∀ ds Q E, fs__law_mixed ds Q E → ds.length = 2 := by rintro _ _ _ ⟨_, rfl | rfl, _⟩ <;> rfl
def fs__law_frame : FSp := fun ds Q _ => ∃ m k : Int, ds = [.src, .int m, .int k] ∧ 1 ≤ m ∧ m ≤ 1000 ∧ 0 ≤ k ∧ k ≤ 1000 ∧ ∀ (n : Int) (rs : List (Int × Int)), 1 ≤ n → n ≤ m → RdsOk n rs → (rs.length : Int) ≤ k → Q (.val (Fr n rs))
theorem law_frame_of {m k : Int} {Q : O → Prop} {E : EX} (m0 : 1 ≤ m) (m1 : m ≤ 1000) (k0 : 0 ≤ k) (k1 : k ≤ 1000) (h : ∀ (n : Int) (rs : List (Int × Int)), 1 ≤ n → n ≤ m → RdsOk n rs → (rs.length : Int) ≤ k → Q (.val (Fr n rs))) : fs__law_frame [.src, .int m, .int k] Q E := ⟨m, k, rfl, m0, m1, k0, k1, h⟩
theorem len__law_frame : ∀ ds Q E, fs__law_frame ds Q E → ds.length = 3 := by rintro _ _ _ ⟨_, _, rfl, _⟩; rfl
def fs_standing_ends : FSp := fun ds Q _ => ∃ (n : Int) (rs : List (Int × Int)), ds = [Fr n rs] ∧ RdsOk n rs ∧ 0 ≤ n ∧ n ≤ 1000 ∧ rs.length ≤ 100000 ∧ Q (.val (LL (std n rs)))
theorem standing_of {n : Int} {rs : List (Int × Int)} {Q : O → Prop} {E : EX} (h : RdsOk n rs) (h0 : 0 ≤ n) (h1 : n ≤ 1000) (h2 : rs.length ≤ 100000) (q : Q (.val (LL (std n rs)))) : fs_standing_ends [Fr n rs] Q E := ⟨n, rs, rfl, h, h0, h1, h2, q⟩
theorem len_standing_ends : ∀ ds Q E, fs_standing_ends ds Q E → ds.length = 1 := by rintro _ _ _ ⟨_, _, rfl, _⟩; rfl
def fs__law_standing : FSp := fun ds Q _ => ∃ (n : Int) (rs : List (Int × Int)), ds = [Fr n rs] ∧ RdsOk n rs ∧ 0 ≤ n ∧ n ≤ 1000 ∧ rs.length ≤ 100000 ∧ Q (.val (LL (std n rs)))
theorem law_standing_of {n : Int} {rs : List (Int × Int)} {Q : O → Prop} {E : EX} (h : RdsOk n rs) (h0 : 0 ≤ n) (h1 : n ≤ 1000) (h2 : rs.length ≤ 100000) (q : Q (.val (LL (std n rs)))) : fs__law_standing [Fr n rs] Q E := ⟨n, rs, rfl, h, h0, h1, h2, q⟩
theorem len__law_standing : ∀ ds Q E, fs__law_standing ds Q E → ds.length = 1 := by rintro _ _ _ ⟨_, _, rfl, _⟩; rfl
def fs_stands_at : FSp := fun ds Q _ => ∃ (n e c : Int) (rs : List (Int × Int)), ds = [Fr n rs, .int e] ∧ 0 ≤ e ∧ atE rs e = some c ∧ Q (.val (.int c))
theorem stands_at_of {n e c : Int} {rs : List (Int × Int)} {Q : O → Prop} {E : EX} (h0 : 0 ≤ e) (h : atE rs e = some c) (q : Q (.val (.int c))) : fs_stands_at [Fr n rs, .int e] Q E := ⟨n, e, c, rs, rfl, h0, h, q⟩
theorem len_stands_at : ∀ ds Q E, fs_stands_at ds Q E → ds.length = 2 := by rintro _ _ _ ⟨_, _, _, _, rfl, _⟩; rfl
theorem atI_one {α : Type} (x y : α) (l : List α) : atI (x :: y :: l) 1 = some y := by
  rw [atI_pos _ (by decide)]; rfl
def fs_back_end : FSp := fun ds Q _ => ∃ e : Int, ds = [.int e] ∧ Q (.val (.int (bkE e)))
@[simp] theorem back_end_v {e : Int} {Q : O → Prop} {E : EX} : fs_back_end [.int e] Q E ↔ Q (.val (.int (bkE e))) := by
  simp [fs_back_end]
theorem len_back_end : ∀ ds Q E, fs_back_end ds Q E → ds.length = 1 := by rintro _ _ _ ⟨_, rfl, _⟩; rfl
def fs_leads_to : FSp := fun ds Q _ => ∃ (n e c : Int) (rs : List (Int × Int)), ds = [Fr n rs, .int e] ∧ 0 ≤ e ∧ toE rs e = some c ∧ Q (.val (.int c))
theorem leads_to_of {n e c : Int} {rs : List (Int × Int)} {Q : O → Prop} {E : EX} (h0 : 0 ≤ e) (h : toE rs e = some c) (q : Q (.val (.int c))) : fs_leads_to [Fr n rs, .int e] Q E := ⟨n, e, c, rs, rfl, h0, h, q⟩
theorem len_leads_to : ∀ ds Q E, fs_leads_to ds Q E → ds.length = 2 := by rintro _ _ _ ⟨_, _, _, _, rfl, _⟩; rfl
def fs__law_leads : FSp := fun ds Q _ => ∃ (n e c : Int) (rs : List (Int × Int)), ds = [Fr n rs, .int e] ∧ 0 ≤ e ∧ toE rs e = some c ∧ Q (.val (.int c))
theorem law_leads_of {n e c : Int} {rs : List (Int × Int)} {Q : O → Prop} {E : EX} (h0 : 0 ≤ e) (h : toE rs e = some c) (q : Q (.val (.int c))) : fs__law_leads [Fr n rs, .int e] Q E := ⟨n, e, c, rs, rfl, h0, h, q⟩
theorem len__law_leads : ∀ ds Q E, fs__law_leads ds Q E → ds.length = 2 := by rintro _ _ _ ⟨_, _, _, _, rfl, _⟩; rfl
def fs__law_told_parts : FSp := fun ds Q _ => (∃ l : List Int, (ds = [T l] ∨ ds = [L l]) ∧ l.length ≤ 1000000 ∧ Q (.val (T (tp l)))) ∨ ∃ l : List Mk, (ds = [T l] ∨ ds = [L l]) ∧ l.length ≤ 1000000 ∧ Q (.val (T (tp l)))
theorem law_told_parts_of {l : List Int} {Q : O → Prop} {E : EX} (hl : l.length ≤ 1000000) (q : Q (.val (T (tp l)))) : fs__law_told_parts [T l] Q E := .inl ⟨l, .inl rfl, hl, q⟩
theorem law_told_parts_ofL {l : List Int} {Q : O → Prop} {E : EX} (hl : l.length ≤ 1000000) (q : Q (.val (T (tp l)))) : fs__law_told_parts [L l] Q E := .inl ⟨l, .inr rfl, hl, q⟩
theorem law_told_parts_ofM {l : List Mk} {Q : O → Prop} {E : EX} (hl : l.length ≤ 1000000) (q : Q (.val (T (tp l)))) : fs__law_told_parts [L l] Q E := .inr ⟨l, .inr rfl, hl, q⟩
theorem len__law_told_parts : ∀ ds Q E, fs__law_told_parts ds Q E → ds.length = 1 := by rintro _ _ _ (⟨_, rfl | rfl, _⟩ | ⟨_, rfl | rfl, _⟩) <;> rfl
def fs__law_parting : FSp := fun ds Q _ => ∃ n : Int, ds = [.src, .int n] ∧ 0 ≤ n ∧ n ≤ 1000 ∧ ∀ l : List Int, (l.length : Int) = n → Q (.val (T (tp l)))
theorem law_parting_of {n : Int} {Q : O → Prop} {E : EX} (h0 : 0 ≤ n) (h1 : n ≤ 1000) (h : ∀ l : List Int, (l.length : Int) = n → Q (.val (T (tp l)))) : fs__law_parting [.src, .int n] Q E := ⟨n, rfl, h0, h1, h⟩
theorem len__law_parting : ∀ ds Q E, fs__law_parting ds Q E → ds.length = 2 := by rintro _ _ _ ⟨_, rfl, _⟩; rfl
def fs_is_finer : FSp := fun ds Q _ => ∃ a b : List Int, ds = [T a, T b] ∧ a.length = b.length ∧ a ≠ [] ∧ a.length ≤ 1000000 ∧ (∀ x ∈ a, 0 ≤ x) ∧ mxI a + 1 = (firsts a).length ∧ Q (.val (.bl (finB a b)))
theorem is_finer_of {a b : List Int} {Q : O → Prop} {E : EX} (h : a.length = b.length) (hn : a ≠ []) (hl : a.length ≤ 1000000) (h0 : ∀ x ∈ a, 0 ≤ x) (hm : mxI a + 1 = (firsts a).length) (q : Q (.val (.bl (finB a b)))) : fs_is_finer [T a, T b] Q E := ⟨a, b, rfl, h, hn, hl, h0, hm, q⟩
theorem is_finer_c {n : Int} {a b : List Int} {Q : O → Prop} {E : EX} (ha : Pc n a) (h : a.length = b.length) (hn : a ≠ []) (hl : n ≤ 1000) (q : Q (.val (.bl (finB a b)))) : fs_is_finer [T a, T b] Q E := by
  have := ha.ok.1
  refine is_finer_of h hn (by omega) (fun x hx => (ha.ok.2 x hx).1) ?_ q
  have := mxI_tp hn
  rw [ha.c] at this
  exact this
theorem len_is_finer : ∀ ds Q E, fs_is_finer ds Q E → ds.length = 2 := by rintro _ _ _ ⟨_, _, rfl, _⟩; rfl
theorem dctT_of {α : Type} [Enc α] [DecidableEq α] {l : List α} {v : α → D} {Q : O → Prop} (hk : ∀ a : α, keyT true (Enc.enc a) = true) {ds : List D} (hd : ds = l.map fun a => D.tup [Enc.enc a, v a]) (h : ∀ vs : List D, vs = (dctOf (l.map fun a => (Enc.enc a, v a))).2 → Q (.dct true ((firsts l).map Enc.enc) (vs.map .val))) : dictTD [.lst ds] Q := by
  refine ⟨l.map fun a => (Enc.enc a, v a), by rw [hd, List.map_map]; rfl, fun p hp => ?_, ?_⟩
  · obtain ⟨a, _, rfl⟩ := List.mem_map.mp hp
    exact hk a
  · rw [dct_keys]
    exact h _ rfl
theorem dctF_of {α : Type} [Enc α] [DecidableEq α] {l : List α} {v : α → D} {Q : O → Prop} (hk : ∀ a : α, keyT false (Enc.enc a) = true) {ds : List D} (hd : ds = l.map fun a => D.tup [Enc.enc a, v a]) (h : ∀ vs : List D, vs = (dctOf (l.map fun a => (Enc.enc a, v a))).2 → Q (.dct false ((firsts l).map Enc.enc) (vs.map .val))) : dictD [.lst ds] Q := by
  refine ⟨l.map fun a => (Enc.enc a, v a), by rw [hd, List.map_map]; rfl, fun p hp => ?_, ?_⟩
  · obtain ⟨a, _, rfl⟩ := List.mem_map.mp hp
    exact hk a
  · rw [dct_keys]
    exact h _ rfl
def fs__law_is_finer : FSp := fun ds Q _ => ∃ a b : List Int, ds = [T a, T b] ∧ a.length = b.length ∧ a.length ≤ 1000000 ∧ Q (.val (.bl (finB a b)))
theorem law_is_finer_of {a b : List Int} {Q : O → Prop} {E : EX} (h : a.length = b.length) (hl : a.length ≤ 1000000) (q : Q (.val (.bl (finB a b)))) : fs__law_is_finer [T a, T b] Q E := ⟨a, b, rfl, h, hl, q⟩
theorem len__law_is_finer : ∀ ds Q E, fs__law_is_finer ds Q E → ds.length = 2 := by rintro _ _ _ ⟨_, _, rfl, _⟩; rfl
def fs_told_parts : FSp := fun ds Q _ => (∃ l : List Int, (ds = [T l] ∨ ds = [L l]) ∧ l.length ≤ 1000000 ∧ Q (.val (T (tp l)))) ∨ ∃ l : List Mk, (ds = [T l] ∨ ds = [L l]) ∧ l.length ≤ 1000000 ∧ Q (.val (T (tp l)))
theorem told_parts_of {l : List Int} {Q : O → Prop} {E : EX} (hl : l.length ≤ 1000000) (q : Q (.val (T (tp l)))) : fs_told_parts [T l] Q E := .inl ⟨l, .inl rfl, hl, q⟩
theorem told_parts_ofL {l : List Int} {Q : O → Prop} {E : EX} (hl : l.length ≤ 1000000) (q : Q (.val (T (tp l)))) : fs_told_parts [L l] Q E := .inl ⟨l, .inr rfl, hl, q⟩
theorem told_parts_ofM {l : List Mk} {Q : O → Prop} {E : EX} (hl : l.length ≤ 1000000) (q : Q (.val (T (tp l)))) : fs_told_parts [L l] Q E := .inr ⟨l, .inr rfl, hl, q⟩
theorem len_told_parts : ∀ ds Q E, fs_told_parts ds Q E → ds.length = 1 := by rintro _ _ _ (⟨_, rfl | rfl, _⟩ | ⟨_, rfl | rfl, _⟩) <;> rfl
def fs_ends_by_parts : FSp := fun ds Q _ => ∃ (n c : Int) (rs : List (Int × Int)) (pt : List Int), ds = [Fr n rs, T pt, .int c] ∧ RdsOk n rs ∧ n ≤ 1000 ∧ rs.length ≤ 10000 ∧ PtOk n pt ∧ 0 ≤ c ∧ c < n ∧ Q (.val (T (byp n rs pt c.toNat)))
theorem ends_by_parts_of {n c : Int} {rs : List (Int × Int)} {pt : List Int} {Q : O → Prop} {E : EX} (h : RdsOk n rs) (h1 : n ≤ 1000) (h2 : rs.length ≤ 10000) (hp : PtOk n pt) (c0 : 0 ≤ c) (c1 : c < n) (q : Q (.val (T (byp n rs pt c.toNat)))) : fs_ends_by_parts [Fr n rs, T pt, .int c] Q E := ⟨n, c, rs, pt, rfl, h, h1, h2, hp, c0, c1, q⟩
theorem len_ends_by_parts : ∀ ds Q E, fs_ends_by_parts ds Q E → ds.length = 3 := by rintro _ _ _ ⟨_, _, _, _, rfl, _⟩; rfl
def fs__law_by_parts : FSp := fun ds Q _ => ∃ (n c : Int) (rs : List (Int × Int)) (pt : List Int), ds = [Fr n rs, T pt, .int c] ∧ RdsOk n rs ∧ n ≤ 1000 ∧ rs.length ≤ 10000 ∧ PtOk n pt ∧ 0 ≤ c ∧ c < n ∧ Q (.val (T (byp n rs pt c.toNat)))
theorem law_by_parts_of {n c : Int} {rs : List (Int × Int)} {pt : List Int} {Q : O → Prop} {E : EX} (h : RdsOk n rs) (h1 : n ≤ 1000) (h2 : rs.length ≤ 10000) (hp : PtOk n pt) (c0 : 0 ≤ c) (c1 : c < n) (q : Q (.val (T (byp n rs pt c.toNat)))) : fs__law_by_parts [Fr n rs, T pt, .int c] Q E := ⟨n, c, rs, pt, rfl, h, h1, h2, hp, c0, c1, q⟩
theorem len__law_by_parts : ∀ ds Q E, fs__law_by_parts ds Q E → ds.length = 3 := by rintro _ _ _ ⟨_, _, _, _, rfl, _⟩; rfl
def fs__law_of : FSp := fun ds Q _ => ∃ xs : List D, ds = [.src, .lst xs] ∧ xs ≠ [] ∧ xs.length ≤ 1000000 ∧ ∀ x ∈ xs, Q (.val x)
@[simp] theorem law_of_v {xs : List D} {Q : O → Prop} {E : EX} : fs__law_of [.src, .lst xs] Q E ↔ xs ≠ [] ∧ xs.length ≤ 1000000 ∧ ∀ x ∈ xs, Q (.val x) := by
  constructor
  · rintro ⟨a, e, h⟩
    simp only [List.cons.injEq, D.lst.injEq, true_and, and_true] at e
    rw [e]
    exact h
  · exact fun h => ⟨_, rfl, h⟩
@[simp] theorem law_of_L {α : Type} [Enc α] {l : List α} {Q : O → Prop} {E : EX} : fs__law_of [.src, L l] Q E ↔ l ≠ [] ∧ l.length ≤ 1000000 ∧ ∀ x ∈ l, Q (.val (Enc.enc x)) := by
  rw [L_def, law_of_v]
  simp
theorem len__law_of : ∀ ds Q E, fs__law_of ds Q E → ds.length = 2 := by rintro _ _ _ ⟨_, rfl, _⟩; rfl
def fs_is_parting_row : FSp := fun ds Q _ => ∃ (n : Int) (rs : List (Int × Int)) (v : D), ds = [Fr n rs, v] ∧ n ≤ 1000 ∧ Q (.val (.bl (prow n v)))
theorem is_parting_row_of {n : Int} {rs : List (Int × Int)} {v : D} {Q : O → Prop} {E : EX} (h1 : n ≤ 1000) (q : Q (.val (.bl (prow n v)))) : fs_is_parting_row [Fr n rs, v] Q E := ⟨n, rs, v, rfl, h1, q⟩
theorem len_is_parting_row : ∀ ds Q E, fs_is_parting_row ds Q E → ds.length = 2 := by rintro _ _ _ ⟨_, _, _, rfl, _⟩; rfl
def fs__law_is_int : FSp := fun ds Q _ => ∃ v : D, ds = [v] ∧ Q (.val (.bl (isIntD v)))
@[simp] theorem law_is_int_v {v : D} {Q : O → Prop} {E : EX} : fs__law_is_int [v] Q E ↔ Q (.val (.bl (isIntD v))) := by
  simp [fs__law_is_int]
theorem len__law_is_int : ∀ ds Q E, fs__law_is_int ds Q E → ds.length = 1 := by rintro _ _ _ ⟨_, rfl, _⟩; rfl
def fs__law_is_row : FSp := fun ds Q _ => ∃ (n : Int) (v : D), ds = [.int n, v] ∧ n ≤ 1000 ∧ Q (.val (.bl (prow n v)))
theorem law_is_row_of {n : Int} {v : D} {Q : O → Prop} {E : EX} (h1 : n ≤ 1000) (q : Q (.val (.bl (prow n v)))) : fs__law_is_row [.int n, v] Q E := ⟨n, v, rfl, h1, q⟩
theorem len__law_is_row : ∀ ds Q E, fs__law_is_row ds Q E → ds.length = 2 := by rintro _ _ _ ⟨_, _, rfl, _⟩; rfl
def fs_law : FSp := fun ds Q _ => ∃ ns : List Int, ds = [.scr ns] ∧ ns.length ≤ 63 ∧ Q (.val (.bl true))
theorem len_law : ∀ ds Q E, fs_law ds Q E → ds.length = 1 := by rintro _ _ _ ⟨_, rfl, _⟩; rfl
/-- _law_mixed(source, things); slots: 0 source, 1 things, 2 rest, 3 lap -/
def w__law_mixed : WS := sSeq (sSet 2 (eB listD (aCons (eVar 1) (aNil))))
  (sRetPop 2 3 (iRg rg1D (aCons (eB lenD (aCons (eVar 2) (aNil))) (aNil))) (eCall fs__law_pick (aCons (eVar 0) (aCons (eB lenD (aCons (eVar 2) (aNil))) (aNil)))))
def N__law_mixed : List Str := ["source", "things", "rest", "lap"]
/-- _law_frame(source, most, roads); slots: 0 source, 1 most, 2 roads, 3 n, 4 way, 5 found, 6 lap, 7 k -/
def b0__law_frame : WS := sApp 5 (eTup (aCons (eCall fs__law_pick (aCons (eVar 0) (aCons (eVar 3) (aNil)))) (aCons (eCall fs__law_pick (aCons (eVar 0) (aCons (eVar 3) (aNil)))) (aNil))))
theorem b0__law_frame_v {env : SEnv} {De : DEnds} {Ee : SEX} : b0__law_frame env De Ee = (sApp 5 (eTup (aCons (eCall fs__law_pick (aCons (eVar 0) (aCons (eVar 3) (aNil)))) (aCons (eCall fs__law_pick (aCons (eVar 0) (aCons (eVar 3) (aNil)))) (aNil))))) env De Ee := rfl
def w__law_frame : WS := sSeq (sPar [3, 4] (aCons (eBin addD (eC (.int 1)) (eCall fs__law_pick (aCons (eVar 0) (aCons (eVar 1) (aNil))))) (aCons (eCall fs__law_pick (aCons (eVar 0) (aCons (eC (.int 3)) (aNil)))) (aNil))))
  (sSeq (sSet 5 (eLst (aNil)))
  (sSeq (sIf (tBl (eBin eqD (eVar 4) (eC (.int 0)))) (sSet 5 (eLc (iRg rg1D (aCons (eVar 3) (aNil))) (.nm 7) (wYes) (eTup (aCons (eVar 7) (aCons (eIf (tBl (eBin ltD (eBin addD (eVar 7) (eC (.int 1))) (eVar 3))) (eBin addD (eVar 7) (eC (.int 1))) (eC (.int 0))) (aNil)))) [7])) (sNil))
  (sSeq (sIf (tBl (eBin eqD (eVar 4) (eC (.int 1)))) (sSet 5 (eLc (iRg rg2D (aCons (eC (.int 1)) (aCons (eVar 3) (aNil)))) (.nm 7) (wYes) (eTup (aCons (eCall fs__law_pick (aCons (eVar 0) (aCons (eVar 7) (aNil)))) (aCons (eVar 7) (aNil)))) [7])) (sNil))
  (sSeq (sForR (iRg rg1D (aCons (eCall fs__law_pick (aCons (eVar 0) (aCons (eBin addD (eVar 2) (eC (.int 1))) (aNil)))) (aNil))) (.nm 6) (b0__law_frame))
  (sRet (eTup (aCons (eVar 3) (aCons (eB tupleD (aCons (eCall fs__law_mixed (aCons (eVar 0) (aCons (eSl (eVar 5) (oNo) (oSo (eVar 2))) (aNil)))) (aNil))) (aNil)))))))))
def N__law_frame : List Str := ["source", "most", "roads", "n", "way", "found", "lap", "k"]
/-- standing_ends(frame); slots: 0 frame, 1 found, 2 road, 3 a, 4 b, 5 crossing -/
def b0_standing_ends : WS := sSeq (sAppK 1 (eVar 3) (eBin mulA (eC (.int 2)) (eVar 2)))
  (sAppK 1 (eVar 4) (eBin addD (eBin mulA (eC (.int 2)) (eVar 2)) (eC (.int 1))))
theorem b0_standing_ends_v {env : SEnv} {De : DEnds} {Ee : SEX} : b0_standing_ends env De Ee = (sSeq (sAppK 1 (eVar 3) (eBin mulA (eC (.int 2)) (eVar 2)))
  (sAppK 1 (eVar 4) (eBin addD (eBin mulA (eC (.int 2)) (eVar 2)) (eC (.int 1))))) env De Ee := rfl
def w_standing_ends : WS := sSeq (sSet 1 (eLc (iRg rg1D (aCons (eBin ixD (eVar 0) (eC (.int 0))) (aNil))) (.nm 5) (wYes) (eLst (aNil)) [5]))
  (sSeq (sFor (iEnD (eBin ixD (eVar 0) (eC (.int 1)))) (.tp [(.nm 2), (.tp [(.nm 3), (.nm 4)])]) (b0_standing_ends))
  (sRet (eVar 1)))
def N_standing_ends : List Str := ["frame", "found", "road", "a", "b", "crossing"]
/-- _law_standing(frame); slots: 0 frame, 1 found, 2 road, 3 a, 4 b, 5 crossing -/
def b0__law_standing : WS := sSeq (sAppK 1 (eVar 3) (eBin mulA (eC (.int 2)) (eVar 2)))
  (sAppK 1 (eVar 4) (eBin addD (eBin mulA (eC (.int 2)) (eVar 2)) (eC (.int 1))))
theorem b0__law_standing_v {env : SEnv} {De : DEnds} {Ee : SEX} : b0__law_standing env De Ee = (sSeq (sAppK 1 (eVar 3) (eBin mulA (eC (.int 2)) (eVar 2)))
  (sAppK 1 (eVar 4) (eBin addD (eBin mulA (eC (.int 2)) (eVar 2)) (eC (.int 1))))) env De Ee := rfl
def w__law_standing : WS := sSeq (sSet 1 (eLc (iRg rg1D (aCons (eBin ixD (eVar 0) (eC (.int 0))) (aNil))) (.nm 5) (wYes) (eLst (aNil)) [5]))
  (sSeq (sFor (iEnD (eBin ixD (eVar 0) (eC (.int 1)))) (.tp [(.nm 2), (.tp [(.nm 3), (.nm 4)])]) (b0__law_standing))
  (sRet (eVar 1)))
def N__law_standing : List Str := ["frame", "found", "road", "a", "b", "crossing"]
/-- stands_at(frame, end); slots: 0 frame, 1 end -/
def w_stands_at : WS := sRet (eBin ixD (eBin ixD (eBin ixD (eVar 0) (eC (.int 1))) (eBin fdivWD (eVar 1) (eC (.int 2)))) (eBin modD (eVar 1) (eC (.int 2))))
def N_stands_at : List Str := ["frame", "end"]
/-- back_end(end); slots: 0 end -/
def w_back_end : WS := sRet (eBin subD (eBin addD (eVar 0) (eC (.int 1))) (eBin mulA (eC (.int 2)) (eBin modD (eVar 0) (eC (.int 2)))))
def N_back_end : List Str := ["end"]
/-- leads_to(frame, end); slots: 0 frame, 1 end -/
def w_leads_to : WS := sRet (eCall fs_stands_at (aCons (eVar 0) (aCons (eCall fs_back_end (aCons (eVar 1) (aNil))) (aNil))))
def N_leads_to : List Str := ["frame", "end"]
/-- _law_leads(frame, end); slots: 0 frame, 1 end -/
def w__law_leads : WS := sRet (eBin ixD (eBin ixD (eBin ixD (eVar 0) (eC (.int 1))) (eBin fdivWD (eVar 1) (eC (.int 2)))) (eBin subD (eC (.int 1)) (eBin subD (eVar 1) (eBin mulA (eBin fdivWD (eVar 1) (eC (.int 2))) (eC (.int 2))))))
def N__law_leads : List Str := ["frame", "end"]
/-- _law_told_parts(marks); slots: 0 marks, 1 seen, 2 mark -/
def b0a__law_told_parts : WS := sDput 1 (eVar 2) (eGet2 (eVar 1) (eVar 2) (eB lenXD (aCons (eVar 1) (aNil))))
theorem b0a__law_told_parts_v {env : SEnv} {De : DEnds} {Ee : SEX} : b0a__law_told_parts env De Ee = (sDput 1 (eVar 2) (eGet2 (eVar 1) (eVar 2) (eB lenXD (aCons (eVar 1) (aNil))))) env De Ee := rfl
def wa__law_told_parts : WS := sSeq (sSet 1 (eDct0 false))
  (sSeq (sFor (iSeq (eVar 0)) (.nm 2) (b0a__law_told_parts))
  (sRet (eB tupleD (aCons (eLc (iSeq (eVar 0)) (.nm 2) (wYes) (eBin ixXD (eVar 1) (eVar 2)) [2]) (aNil)))))
theorem wa__law_told_parts_v {env : SEnv} {De : DEnds} {Ee : SEX} : wa__law_told_parts env De Ee = (sSeq (sSet 1 (eDct0 false))
  (sSeq (sFor (iSeq (eVar 0)) (.nm 2) (b0a__law_told_parts))
  (sRet (eB tupleD (aCons (eLc (iSeq (eVar 0)) (.nm 2) (wYes) (eBin ixXD (eVar 1) (eVar 2)) [2]) (aNil)))))) env De Ee := rfl
def b0b__law_told_parts : WS := sDput 1 (eVar 2) (eGet2 (eVar 1) (eVar 2) (eB lenXD (aCons (eVar 1) (aNil))))
theorem b0b__law_told_parts_v {env : SEnv} {De : DEnds} {Ee : SEX} : b0b__law_told_parts env De Ee = (sDput 1 (eVar 2) (eGet2 (eVar 1) (eVar 2) (eB lenXD (aCons (eVar 1) (aNil))))) env De Ee := rfl
def wb__law_told_parts : WS := sSeq (sSet 1 (eDct0 true))
  (sSeq (sFor (iSeq (eVar 0)) (.nm 2) (b0b__law_told_parts))
  (sRet (eB tupleD (aCons (eLc (iSeq (eVar 0)) (.nm 2) (wYes) (eBin ixXD (eVar 1) (eVar 2)) [2]) (aNil)))))
theorem wb__law_told_parts_v {env : SEnv} {De : DEnds} {Ee : SEX} : wb__law_told_parts env De Ee = (sSeq (sSet 1 (eDct0 true))
  (sSeq (sFor (iSeq (eVar 0)) (.nm 2) (b0b__law_told_parts))
  (sRet (eB tupleD (aCons (eLc (iSeq (eVar 0)) (.nm 2) (wYes) (eBin ixXD (eVar 1) (eVar 2)) [2]) (aNil)))))) env De Ee := rfl
def w__law_told_parts : WS := sAlt (wa__law_told_parts) (wb__law_told_parts)
def N__law_told_parts : List Str := ["marks", "seen", "mark"]
/-- _law_parting(source, n); slots: 0 source, 1 n, 2 c -/
def w__law_parting : WS := sRet (eCall fs__law_told_parts (aCons (eLc (iRg rg1D (aCons (eVar 1) (aNil))) (.nm 2) (wYes) (eCall fs__law_pick (aCons (eVar 0) (aCons (eVar 1) (aNil)))) [2]) (aNil)))
def N__law_parting : List Str := ["source", "n", "c"]
/-- is_finer(one, other); slots: 0 one, 1 other, 2 a, 3 b -/
def w_is_finer : WS := sRet (eBin eqD (eB lenXD (aCons (eB dictTD (aCons (eLc (iZs (eVar 0) (eVar 1)) (.tp [(.nm 2), (.nm 3)]) (wYes) (eTup (aCons (eTup (aCons (eVar 2) (aCons (eVar 3) (aNil)))) (aCons (eC (.bl true)) (aNil)))) [2, 3]) (aNil))) (aNil))) (eBin addD (eB maxX (aCons (eVar 0) (aNil))) (eC (.int 1))))
def N_is_finer : List Str := ["one", "other", "a", "b"]
/-- _law_is_finer(one, other); slots: 0 one, 1 other, 2 pairs, 3 pair, 4 part -/
def w__law_is_finer : WS := sSeq (sSet 2 (eB dictTD (aCons (eLc (iZn (eVar 0) (eVar 1)) (.nm 3) (wYes) (eTup (aCons (eVar 3) (aCons (eC (.int 0)) (aNil)))) [3]) (aNil))))
  (sRet (eBin eqD (eB lenXD (aCons (eVar 2) (aNil))) (eB lenXD (aCons (eB dictD (aCons (eLc (iSeq (eVar 0)) (.nm 4) (wYes) (eTup (aCons (eVar 4) (aCons (eC (.int 0)) (aNil)))) [4]) (aNil))) (aNil)))))
def N__law_is_finer : List Str := ["one", "other", "pairs", "pair", "part"]
/-- told_parts(marks); slots: 0 marks, 1 known, 2 mark -/
def b0a_told_parts : WS := sSetd 1 (eVar 2) (eB lenXD (aCons (eVar 1) (aNil)))
theorem b0a_told_parts_v {env : SEnv} {De : DEnds} {Ee : SEX} : b0a_told_parts env De Ee = (sSetd 1 (eVar 2) (eB lenXD (aCons (eVar 1) (aNil)))) env De Ee := rfl
def wa_told_parts : WS := sSeq (sSet 1 (eDct0 false))
  (sSeq (sFor (iSeq (eVar 0)) (.nm 2) (b0a_told_parts))
  (sRet (eB tupleD (aCons (eLc (iSeq (eVar 0)) (.nm 2) (wYes) (eBin ixXD (eVar 1) (eVar 2)) [2]) (aNil)))))
theorem wa_told_parts_v {env : SEnv} {De : DEnds} {Ee : SEX} : wa_told_parts env De Ee = (sSeq (sSet 1 (eDct0 false))
  (sSeq (sFor (iSeq (eVar 0)) (.nm 2) (b0a_told_parts))
  (sRet (eB tupleD (aCons (eLc (iSeq (eVar 0)) (.nm 2) (wYes) (eBin ixXD (eVar 1) (eVar 2)) [2]) (aNil)))))) env De Ee := rfl
def b0b_told_parts : WS := sSetd 1 (eVar 2) (eB lenXD (aCons (eVar 1) (aNil)))
theorem b0b_told_parts_v {env : SEnv} {De : DEnds} {Ee : SEX} : b0b_told_parts env De Ee = (sSetd 1 (eVar 2) (eB lenXD (aCons (eVar 1) (aNil)))) env De Ee := rfl
def wb_told_parts : WS := sSeq (sSet 1 (eDct0 true))
  (sSeq (sFor (iSeq (eVar 0)) (.nm 2) (b0b_told_parts))
  (sRet (eB tupleD (aCons (eLc (iSeq (eVar 0)) (.nm 2) (wYes) (eBin ixXD (eVar 1) (eVar 2)) [2]) (aNil)))))
theorem wb_told_parts_v {env : SEnv} {De : DEnds} {Ee : SEX} : wb_told_parts env De Ee = (sSeq (sSet 1 (eDct0 true))
  (sSeq (sFor (iSeq (eVar 0)) (.nm 2) (b0b_told_parts))
  (sRet (eB tupleD (aCons (eLc (iSeq (eVar 0)) (.nm 2) (wYes) (eBin ixXD (eVar 1) (eVar 2)) [2]) (aNil)))))) env De Ee := rfl
def w_told_parts : WS := sAlt (wa_told_parts) (wb_told_parts)
def N_told_parts : List Str := ["marks", "known", "mark"]
/-- ends_by_parts(frame, parting, crossing); slots: 0 frame, 1 parting, 2 crossing, 3 found, 4 end -/
def b0_ends_by_parts : WS := sAugIx 3 (fI fun i j => .int (i + j)) (eBin ixD (eVar 1) (eCall fs_leads_to (aCons (eVar 0) (aCons (eVar 4) (aNil))))) (eC (.int 1))
theorem b0_ends_by_parts_v {env : SEnv} {De : DEnds} {Ee : SEX} : b0_ends_by_parts env De Ee = (sAugIx 3 (fI fun i j => .int (i + j)) (eBin ixD (eVar 1) (eCall fs_leads_to (aCons (eVar 0) (aCons (eVar 4) (aNil))))) (eC (.int 1))) env De Ee := rfl
def w_ends_by_parts : WS := sSeq (sSet 3 (eBin mulA (eLst (aCons (eC (.int 0)) (aNil))) (eBin addD (eB maxX (aCons (eVar 1) (aNil))) (eC (.int 1)))))
  (sSeq (sFor (iSeq (eBin ixD (eCall fs_standing_ends (aCons (eVar 0) (aNil))) (eVar 2))) (.nm 4) (b0_ends_by_parts))
  (sRet (eB tupleD (aCons (eVar 3) (aNil)))))
def N_ends_by_parts : List Str := ["frame", "parting", "crossing", "found", "end"]
/-- _law_by_parts(frame, parting, crossing); slots: 0 frame, 1 parting, 2 crossing, 3 led, 4 end, 5 part -/
def w__law_by_parts : WS := sSeq (sSet 3 (eLc (iSeq (eBin ixD (eCall fs__law_standing (aCons (eVar 0) (aNil))) (eVar 2))) (.nm 4) (wYes) (eBin ixD (eVar 1) (eCall fs__law_leads (aCons (eVar 0) (aCons (eVar 4) (aNil))))) [4]))
  (sRet (eB tupleD (aCons (eLc (iRg rg1D (aCons (eBin addD (eB maxX (aCons (eVar 1) (aNil))) (eC (.int 1))) (aNil))) (.nm 5) (wYes) (eCount (eVar 3) (eVar 5)) [5]) (aNil))))
def N__law_by_parts : List Str := ["frame", "parting", "crossing", "led", "end", "part"]
/-- _law_of(source, some); slots: 0 source, 1 some -/
def w__law_of : WS := sRet (eBin ixD (eVar 1) (eCall fs__law_pick (aCons (eVar 0) (aCons (eB lenD (aCons (eVar 1) (aNil))) (aNil)))))
def N__law_of : List Str := ["source", "some"]
/-- is_parting_row(frame, value); slots: 0 frame, 1 value, 2 one -/
def w_is_parting_row : WS := sSeq (sIf (wOr (wNot (tTru (eIsi .tuple (eVar 1)))) (tBl (eBin neD (eB lenD (aCons (eVar 1) (aNil))) (eBin ixD (eVar 0) (eC (.int 0)))))) (sRet (eC (.bl false))) (sNil))
  (sSeq (sIf (wNot (tTru (eB allD (aCons (eLc (iSeq (eVar 1)) (.nm 2) (wYes) (eAnd (eIsi .int (eVar 2)) (eNot (eIsi .bool (eVar 2)))) [2]) (aNil))))) (sRet (eC (.bl false))) (sNil))
  (sRet (eBin eqD (eVar 1) (eCall fs_told_parts (aCons (eVar 1) (aNil))))))
def N_is_parting_row : List Str := ["frame", "value", "one"]
/-- _law_is_int(value); slots: 0 value -/
def w__law_is_int : WS := sRet (eAnd (eIsi .int (eVar 0)) (eNot (eIsi .bool (eVar 0))))
def N__law_is_int : List Str := ["value"]
/-- _law_is_row(n, value); slots: 0 n, 1 value, 2 x -/
def w__law_is_row : WS := sSeq (sIf (wOr (wNot (tTru (eIsi .tuple (eVar 1)))) (wOr (tBl (eBin neD (eB lenD (aCons (eVar 1) (aNil))) (eVar 0))) (tBl (eBin ne0D (eLc (iSeq (eVar 1)) (.nm 2) (wNot (tTru (eCall fs__law_is_int (aCons (eVar 2) (aNil))))) (eVar 2) [2]) (eLst (aNil)))))) (sRet (eC (.bl false))) (sNil))
  (sRet (eBin eqD (eVar 1) (eCall fs__law_told_parts (aCons (eVar 1) (aNil)))))
def N__law_is_row : List Str := ["n", "value", "x"]
/-- law(script); slots: 0 script, 1 source, 2 lap, 3 frame, 4 n, 5 kept, 6 end, 7 one, 8 other, 9 rough, 10 first, 11 second, 12 marks, 13 c, 14 k, 15 odd, 16 values, 17 value, 18 here, 19 late, 20 told, 21 shown, 22 part -/
def b0_law : WS := sSeq (sSet 18 (eLc (iRg rg1D (aCons (eVar 4) (aNil))) (.nm 13) (tBl (eBin (inXD false) (eVar 6) (eBin ixD (eCall fs__law_standing (aCons (eVar 3) (aNil))) (eVar 13)))) (eVar 13) [13]))
  (sSeq (sSet 19 (eIf (tBl (eBin eqD (eBin subD (eVar 6) (eBin mulA (eBin fdivWD (eVar 6) (eC (.int 2))) (eC (.int 2)))) (eC (.int 0)))) (eBin addD (eVar 6) (eC (.int 1))) (eBin subD (eVar 6) (eC (.int 1)))))
  (sSeq (sSet 20 (eLst (aCons (eCall fs_back_end (aCons (eVar 6) (aNil))) (aCons (eCall fs_stands_at (aCons (eVar 3) (aCons (eVar 6) (aNil)))) (aCons (eCall fs_leads_to (aCons (eVar 3) (aCons (eVar 6) (aNil)))) (aNil))))))
  (sIf (tBl (eBin neD (eB reprD (aCons (eVar 20) (aNil))) (eB reprD (aCons (eLst (aCons (eVar 19) (aCons (eBin ixD (eVar 18) (eC (.int 0))) (aCons (eCall fs__law_leads (aCons (eVar 3) (aCons (eVar 6) (aNil)))) (aNil))))) (aNil))))) (sRet (eC (.bl false))) (sNil))))
theorem b0_law_v {env : SEnv} {De : DEnds} {Ee : SEX} : b0_law env De Ee = (sSeq (sSet 18 (eLc (iRg rg1D (aCons (eVar 4) (aNil))) (.nm 13) (tBl (eBin (inXD false) (eVar 6) (eBin ixD (eCall fs__law_standing (aCons (eVar 3) (aNil))) (eVar 13)))) (eVar 13) [13]))
  (sSeq (sSet 19 (eIf (tBl (eBin eqD (eBin subD (eVar 6) (eBin mulA (eBin fdivWD (eVar 6) (eC (.int 2))) (eC (.int 2)))) (eC (.int 0)))) (eBin addD (eVar 6) (eC (.int 1))) (eBin subD (eVar 6) (eC (.int 1)))))
  (sSeq (sSet 20 (eLst (aCons (eCall fs_back_end (aCons (eVar 6) (aNil))) (aCons (eCall fs_stands_at (aCons (eVar 3) (aCons (eVar 6) (aNil)))) (aCons (eCall fs_leads_to (aCons (eVar 3) (aCons (eVar 6) (aNil)))) (aNil))))))
  (sIf (tBl (eBin neD (eB reprD (aCons (eVar 20) (aNil))) (eB reprD (aCons (eLst (aCons (eVar 19) (aCons (eBin ixD (eVar 18) (eC (.int 0))) (aCons (eCall fs__law_leads (aCons (eVar 3) (aCons (eVar 6) (aNil)))) (aNil))))) (aNil))))) (sRet (eC (.bl false))) (sNil))))) env De Ee := rfl
def b1_law : WS := sIf (tBl (eBin neD (eB reprD (aCons (eCall fs_is_finer (aCons (eVar 10) (aCons (eVar 11) (aNil)))) (aNil))) (eB reprD (aCons (eCall fs__law_is_finer (aCons (eVar 10) (aCons (eVar 11) (aNil)))) (aNil))))) (sRet (eC (.bl false))) (sNil)
theorem b1_law_v {env : SEnv} {De : DEnds} {Ee : SEX} : b1_law env De Ee = (sIf (tBl (eBin neD (eB reprD (aCons (eCall fs_is_finer (aCons (eVar 10) (aCons (eVar 11) (aNil)))) (aNil))) (eB reprD (aCons (eCall fs__law_is_finer (aCons (eVar 10) (aCons (eVar 11) (aNil)))) (aNil))))) (sRet (eC (.bl false))) (sNil)) env De Ee := rfl
def b2_law : WS := sIf (tBl (eBin neD (eB reprD (aCons (eCall fs_ends_by_parts (aCons (eVar 3) (aCons (eVar 7) (aCons (eVar 13) (aNil))))) (aNil))) (eB reprD (aCons (eCall fs__law_by_parts (aCons (eVar 3) (aCons (eVar 7) (aCons (eVar 13) (aNil))))) (aNil))))) (sRet (eC (.bl false))) (sNil)
theorem b2_law_v {env : SEnv} {De : DEnds} {Ee : SEX} : b2_law env De Ee = (sIf (tBl (eBin neD (eB reprD (aCons (eCall fs_ends_by_parts (aCons (eVar 3) (aCons (eVar 7) (aCons (eVar 13) (aNil))))) (aNil))) (eB reprD (aCons (eCall fs__law_by_parts (aCons (eVar 3) (aCons (eVar 7) (aCons (eVar 13) (aNil))))) (aNil))))) (sRet (eC (.bl false))) (sNil)) env De Ee := rfl
def b3_law : WS := sSeq (sSet 21 (eB reprD (aCons (eVar 17) (aNil))))
  (sIf (wOr (tBl (eBin neD (eB reprD (aCons (eCall fs_is_parting_row (aCons (eVar 3) (aCons (eVar 17) (aNil)))) (aNil))) (eB reprD (aCons (eCall fs__law_is_row (aCons (eVar 4) (aCons (eVar 17) (aNil)))) (aNil))))) (tBl (eBin neD (eB reprD (aCons (eVar 17) (aNil))) (eVar 21)))) (sRet (eC (.bl false))) (sNil))
theorem b3_law_v {env : SEnv} {De : DEnds} {Ee : SEX} : b3_law env De Ee = (sSeq (sSet 21 (eB reprD (aCons (eVar 17) (aNil))))
  (sIf (wOr (tBl (eBin neD (eB reprD (aCons (eCall fs_is_parting_row (aCons (eVar 3) (aCons (eVar 17) (aNil)))) (aNil))) (eB reprD (aCons (eCall fs__law_is_row (aCons (eVar 4) (aCons (eVar 17) (aNil)))) (aNil))))) (tBl (eBin neD (eB reprD (aCons (eVar 17) (aNil))) (eVar 21)))) (sRet (eC (.bl false))) (sNil))) env De Ee := rfl
def r119_law : WS := sSeq (sFrz [12, 16] (sFor (iSeq (eBin addD (eVar 16) (eLst (aCons (eB tupleD (aCons (eVar 12) (aNil))) (aCons (eBin mulA (eTup (aCons (eC (.int 0)) (aNil))) (eVar 4)) (aCons (eTupRg (rg1 (eVar 4))) (aCons (eC (.str "0")) (aCons (eDct0 false) (aNil))))))))) (.nm 17) (b3_law)))
  (sIf (tBl (eBin neD (eB reprD (aCons (eVar 3) (aNil))) (eVar 5))) (sRet (eC (.bl false))) (sNil))
theorem r119_law_v {env : SEnv} {De : DEnds} {Ee : SEX} : r119_law env De Ee = (sSeq (sFrz [12, 16] (sFor (iSeq (eBin addD (eVar 16) (eLst (aCons (eB tupleD (aCons (eVar 12) (aNil))) (aCons (eBin mulA (eTup (aCons (eC (.int 0)) (aNil))) (eVar 4)) (aCons (eTupRg (rg1 (eVar 4))) (aCons (eC (.str "0")) (aCons (eDct0 false) (aNil))))))))) (.nm 17) (b3_law)))
  (sIf (tBl (eBin neD (eB reprD (aCons (eVar 3) (aNil))) (eVar 5))) (sRet (eC (.bl false))) (sNil))) env De Ee := rfl
def r116_law : WS := sSeq (sSet 14 (eCall fs__law_pick (aCons (eVar 1) (aCons (eVar 4) (aNil)))))
  (sSeq (sSet 15 (eCall fs__law_of (aCons (eVar 1) (aCons (eLst (aCons (eC .non) (aCons (eC (.bl true)) (aCons (eUn negD (eC (.int 1))) (aCons (eVar 4) (aCons (eC (.int 0)) (aCons (eC (.int 1)) (aCons (eC (.str "0")) (aCons (eTup (aNil)) (aCons (eTup (aCons (eC (.int 0)) (aNil))) (aCons (eBin powD (eC (.int 10)) (eC (.int 20))) (aNil)))))))))))) (aNil)))))
  (sSeq (sSet 16 (eLst (aCons (eVar 7) (aCons (eUn revD (eVar 7)) (aCons (eB listD (aCons (eVar 7) (aNil))) (aCons (eSl (eVar 7) (oSo (eC (.int 1))) (oNo)) (aCons (eBin addD (eVar 7) (eTup (aCons (eC (.int 0)) (aNil)))) (aCons (eBin addD (eBin addD (eSl (eVar 7) (oNo) (oSo (eVar 14))) (eTup (aCons (eVar 15) (aNil)))) (eSl (eVar 7) (oSo (eBin addD (eVar 14) (eC (.int 1)))) (oNo))) (aCons (eBin mulA (eTup (aCons (eC (.int 1)) (aNil))) (eVar 4)) (aCons (eC .non) (aCons (eTup (aNil)) (aCons (eC (.int 0)) (aNil)))))))))))))
  (r119_law)))
theorem r116_law_v {env : SEnv} {De : DEnds} {Ee : SEX} : r116_law env De Ee = (sSeq (sSet 14 (eCall fs__law_pick (aCons (eVar 1) (aCons (eVar 4) (aNil)))))
  (sSeq (sSet 15 (eCall fs__law_of (aCons (eVar 1) (aCons (eLst (aCons (eC .non) (aCons (eC (.bl true)) (aCons (eUn negD (eC (.int 1))) (aCons (eVar 4) (aCons (eC (.int 0)) (aCons (eC (.int 1)) (aCons (eC (.str "0")) (aCons (eTup (aNil)) (aCons (eTup (aCons (eC (.int 0)) (aNil))) (aCons (eBin powD (eC (.int 10)) (eC (.int 20))) (aNil)))))))))))) (aNil)))))
  (sSeq (sSet 16 (eLst (aCons (eVar 7) (aCons (eUn revD (eVar 7)) (aCons (eB listD (aCons (eVar 7) (aNil))) (aCons (eSl (eVar 7) (oSo (eC (.int 1))) (oNo)) (aCons (eBin addD (eVar 7) (eTup (aCons (eC (.int 0)) (aNil)))) (aCons (eBin addD (eBin addD (eSl (eVar 7) (oNo) (oSo (eVar 14))) (eTup (aCons (eVar 15) (aNil)))) (eSl (eVar 7) (oSo (eBin addD (eVar 14) (eC (.int 1)))) (oNo))) (aCons (eBin mulA (eTup (aCons (eC (.int 1)) (aNil))) (eVar 4)) (aCons (eC .non) (aCons (eTup (aNil)) (aCons (eC (.int 0)) (aNil)))))))))))))
  (r119_law)))) env De Ee := rfl
def r113_law : WS := sSeq (sForR (iRg rg1D (aCons (eVar 4) (aNil))) (.nm 13) (b2_law))
  (r116_law)
theorem r113_law_v {env : SEnv} {De : DEnds} {Ee : SEX} : r113_law env De Ee = (sSeq (sForR (iRg rg1D (aCons (eVar 4) (aNil))) (.nm 13) (b2_law))
  (r116_law)) env De Ee := rfl
def r110_law : WS := sSeq (sSet 12 (eLc (iRg rg1D (aCons (eVar 4) (aNil))) (.nm 13) (wYes) (eBin subD (eCall fs__law_pick (aCons (eVar 1) (aCons (eC (.int 7)) (aNil)))) (eC (.int 3))) [13]))
  (sSeq (sIf (tBl (eBin neD (eB reprD (aCons (eLst (aCons (eCall fs_told_parts (aCons (eVar 12) (aNil))) (aCons (eCall fs_told_parts (aCons (eB tupleD (aCons (eVar 12) (aNil))) (aNil))) (aNil)))) (aNil))) (eB reprD (aCons (eBin mulA (eLst (aCons (eCall fs__law_told_parts (aCons (eVar 12) (aNil))) (aNil))) (eC (.int 2))) (aNil))))) (sRet (eC (.bl false))) (sNil))
  (r113_law))
theorem r110_law_v {env : SEnv} {De : DEnds} {Ee : SEX} : r110_law env De Ee = (sSeq (sSet 12 (eLc (iRg rg1D (aCons (eVar 4) (aNil))) (.nm 13) (wYes) (eBin subD (eCall fs__law_pick (aCons (eVar 1) (aCons (eC (.int 7)) (aNil)))) (eC (.int 3))) [13]))
  (sSeq (sIf (tBl (eBin neD (eB reprD (aCons (eLst (aCons (eCall fs_told_parts (aCons (eVar 12) (aNil))) (aCons (eCall fs_told_parts (aCons (eB tupleD (aCons (eVar 12) (aNil))) (aNil))) (aNil)))) (aNil))) (eB reprD (aCons (eBin mulA (eLst (aCons (eCall fs__law_told_parts (aCons (eVar 12) (aNil))) (aNil))) (eC (.int 2))) (aNil))))) (sRet (eC (.bl false))) (sNil))
  (r113_law))) env De Ee := rfl
def r107_law : WS := sSeq (sFor (iSeq (eTup (aCons (eTup (aCons (eVar 7) (aCons (eVar 8) (aNil)))) (aCons (eTup (aCons (eVar 8) (aCons (eVar 7) (aNil)))) (aCons (eTup (aCons (eVar 7) (aCons (eVar 9) (aNil)))) (aCons (eTup (aCons (eVar 7) (aCons (eVar 7) (aNil)))) (aCons (eTup (aCons (eVar 9) (aCons (eBin mulA (eTup (aCons (eC (.int 0)) (aNil))) (eVar 4)) (aNil)))) (aNil)))))))) (.tp [(.nm 10), (.nm 11)]) (b1_law))
  (r110_law)
theorem r107_law_v {env : SEnv} {De : DEnds} {Ee : SEX} : r107_law env De Ee = (sSeq (sFor (iSeq (eTup (aCons (eTup (aCons (eVar 7) (aCons (eVar 8) (aNil)))) (aCons (eTup (aCons (eVar 8) (aCons (eVar 7) (aNil)))) (aCons (eTup (aCons (eVar 7) (aCons (eVar 9) (aNil)))) (aCons (eTup (aCons (eVar 7) (aCons (eVar 7) (aNil)))) (aCons (eTup (aCons (eVar 9) (aCons (eBin mulA (eTup (aCons (eC (.int 0)) (aNil))) (eVar 4)) (aNil)))) (aNil)))))))) (.tp [(.nm 10), (.nm 11)]) (b1_law))
  (r110_law)) env De Ee := rfl
def r106_law : WS := sSeq (sSet 9 (eB tupleD (aCons (eLc (iSeq (eVar 7)) (.nm 22) (wYes) (eB min2D (aCons (eVar 22) (aCons (eC (.int 1)) (aNil)))) [22]) (aNil))))
  (r107_law)
theorem r106_law_v {env : SEnv} {De : DEnds} {Ee : SEX} : r106_law env De Ee = (sSeq (sSet 9 (eB tupleD (aCons (eLc (iSeq (eVar 7)) (.nm 22) (wYes) (eB min2D (aCons (eVar 22) (aCons (eC (.int 1)) (aNil)))) [22]) (aNil))))
  (r107_law)) env De Ee := rfl
def r105_law : WS := sSeq (sPar [7, 8] (aCons (eCall fs__law_parting (aCons (eVar 1) (aCons (eVar 4) (aNil)))) (aCons (eCall fs__law_parting (aCons (eVar 1) (aCons (eVar 4) (aNil)))) (aNil))))
  (r106_law)
theorem r105_law_v {env : SEnv} {De : DEnds} {Ee : SEX} : r105_law env De Ee = (sSeq (sPar [7, 8] (aCons (eCall fs__law_parting (aCons (eVar 1) (aCons (eVar 4) (aNil)))) (aCons (eCall fs__law_parting (aCons (eVar 1) (aCons (eVar 4) (aNil)))) (aNil))))
  (r106_law)) env De Ee := rfl
def r99_law : WS := sSeq (sForR (iRg rg1D (aCons (eBin mulA (eC (.int 2)) (eB lenD (aCons (eBin ixD (eVar 3) (eC (.int 1))) (aNil)))) (aNil))) (.nm 6) (b0_law))
  (r105_law)
theorem r99_law_v {env : SEnv} {De : DEnds} {Ee : SEX} : r99_law env De Ee = (sSeq (sForR (iRg rg1D (aCons (eBin mulA (eC (.int 2)) (eB lenD (aCons (eBin ixD (eVar 3) (eC (.int 1))) (aNil)))) (aNil))) (.nm 6) (b0_law))
  (r105_law)) env De Ee := rfl
def r97_law : WS := sSeq (sIf (tBl (eBin neD (eB reprD (aCons (eCall fs_standing_ends (aCons (eVar 3) (aNil))) (aNil))) (eB reprD (aCons (eCall fs__law_standing (aCons (eVar 3) (aNil))) (aNil))))) (sRet (eC (.bl false))) (sNil))
  (r99_law)
theorem r97_law_v {env : SEnv} {De : DEnds} {Ee : SEX} : r97_law env De Ee = (sSeq (sIf (tBl (eBin neD (eB reprD (aCons (eCall fs_standing_ends (aCons (eVar 3) (aNil))) (aNil))) (eB reprD (aCons (eCall fs__law_standing (aCons (eVar 3) (aNil))) (aNil))))) (sRet (eC (.bl false))) (sNil))
  (r99_law)) env De Ee := rfl
def b4_law : WS := sSeq (sSet 3 (eCall fs__law_frame (aCons (eVar 1) (aCons (eBin ixD (eLst (aCons (eC (.int 3)) (aCons (eC (.int 5)) (aCons (eC (.int 8)) (aCons (eC (.int 10)) (aNil)))))) (eVar 2)) (aCons (eBin ixD (eLst (aCons (eC (.int 4)) (aCons (eC (.int 7)) (aCons (eC (.int 14)) (aCons (eC (.int 14)) (aNil)))))) (eVar 2)) (aNil))))))
  (sSeq (sPar [4, 5] (aCons (eBin ixD (eVar 3) (eC (.int 0))) (aCons (eB reprD (aCons (eVar 3) (aNil))) (aNil))))
  (r97_law))
theorem b4_law_v {env : SEnv} {De : DEnds} {Ee : SEX} : b4_law env De Ee = (sSeq (sSet 3 (eCall fs__law_frame (aCons (eVar 1) (aCons (eBin ixD (eLst (aCons (eC (.int 3)) (aCons (eC (.int 5)) (aCons (eC (.int 8)) (aCons (eC (.int 10)) (aNil)))))) (eVar 2)) (aCons (eBin ixD (eLst (aCons (eC (.int 4)) (aCons (eC (.int 7)) (aCons (eC (.int 14)) (aCons (eC (.int 14)) (aNil)))))) (eVar 2)) (aNil))))))
  (sSeq (sPar [4, 5] (aCons (eBin ixD (eVar 3) (eC (.int 0))) (aCons (eB reprD (aCons (eVar 3) (aNil))) (aNil))))
  (r97_law))) env De Ee := rfl
def w_law : WS := sSeq (sSet 1 (eCall fs__law_source (aCons (eVar 0) (aNil))))
  (sSeq (sForR (iRg rg1D (aCons (eC (.int 4)) (aNil))) (.nm 2) (b4_law))
  (sRet (eBin eqD (eCall fs_told_parts (aCons (eLst (aCons (eC (.int 5)) (aCons (eC (.int 3)) (aCons (eC (.int 5)) (aNil))))) (aNil))) (eTup (aCons (eC (.int 0)) (aCons (eC (.int 1)) (aCons (eC (.int 0)) (aNil))))))))
def N_law : List Str := ["script", "source", "lap", "frame", "n", "kept", "end", "one", "other", "rough", "first", "second", "marks", "c", "k", "odd", "values", "value", "here", "late", "told", "shown", "part"]
theorem run__law_mixed : ∀ ds Q E, fs__law_mixed ds Q E → w__law_mixed (startD N__law_mixed ds) { nx := fun _ => Q (.val .non), rt := Q } (fun x _ => E x) := by
  have key : ∀ (xs : List D) (a : D) (Q : O → Prop) (Ee : SEX), xs.length ≤ 100000 → (∀ r : List D, r.Perm xs → Q (.lst (r.map .val))) → (sRetPop 2 3 (iRg rg1D (aCons (eB lenD (aCons (eVar 2) (aNil))) (aNil))) (eCall fs__law_pick (aCons (eVar 0) (aCons (eB lenD (aCons (eVar 2) (aNil))) (aNil))))) [some (.val .src), some (.val a), some (.lst (xs.map .val)), none] { nx := fun _ => Q (.val .non), rt := Q } Ee := by
    intro xs a Q Ee hl hq
    refine ⟨xs, rfl, rfl, by decide, ?_⟩
    simp [view_some]
    refine ⟨in62_of (by omega) (by omega), popL_mix (fun ds R hd hR => ?_) _ [] xs (by rw [rng_I]; simp) (by simp; omega) fun r hr => hq r (by simpa using hr)⟩
    simp
    have := log9 (n := (ds.length : Int)) (by omega) (by omega)
    exact ⟨by simpa using this, hR⟩
  rintro _ Q E ⟨xs, rfl | rfl, hn, hl, hq⟩
  · simp [w__law_mixed, N__law_mixed, cleans_vals, hn]
    exact key xs _ Q _ hl hq
  · simp [w__law_mixed, N__law_mixed, cleans_vals, hn]
    exact key xs _ Q _ hl hq
theorem run__law_frame : ∀ ds Q E, fs__law_frame ds Q E → w__law_frame (startD N__law_frame ds) { nx := fun _ => Q (.val .non), rt := Q } (fun x _ => E x) := by
  rintro _ Q E ⟨m, k, rfl, m0, m1, k0, k1, hq⟩
  unfold w__law_frame
  apply seq_all fun e => ∃ (n w : Int) (c5 c6 c7 : Option O), 1 ≤ n ∧ n ≤ m ∧ e = [some (.val (.src)), some (.val (.int m)), some (.val (.int k)), some (.val (.int n)), some (.val (.int w)), c5, c6, c7]
  · intro D' hD
    simp [N__law_frame]
    refine ⟨log9 (by omega) (by omega), fun r r0 r1 => ⟨by decide, fun w w0 w1 => hD _ ⟨1 + r, w, _, _, _, by omega, by omega, rfl⟩⟩⟩
  rintro _ ⟨n, w, c5, c6, c7, n0, n1, rfl⟩
  apply seq_to (env' := [some (.val (.src)), some (.val (.int m)), some (.val (.int k)), some (.val (.int n)), some (.val (.int w)), some (Ow ([] : List (Int × Int))), c6, c7])
  · intro D' hD
    simp
    exact hD
  apply seq_all fun e => ∃ (rs : List (Int × Int)) (c6 c7 : Option O), RdsOk n rs ∧ rs.length ≤ 10000 ∧ e = [some (.val (.src)), some (.val (.int m)), some (.val (.int k)), some (.val (.int n)), some (.val (.int w)), some (Ow rs), c6, c7]
  · intro D' hD
    simp [rng_I]
    split
    · refine ⟨in62_of (by omega) (by omega), lcD_any (α := Int) (β := Int × Int) (fun p => (0 ≤ p.1 ∧ p.1 < n) ∧ (0 ≤ p.2 ∧ p.2 < n)) (rngI 0 n) [] (by simp) (fun a ha R hR => ?_) (by simp; rw [sizeLine_eq]; omega) fun r os h2 h3 e1 e2 e3 e4 e5 => ?_⟩
      · rw [mem_rngI] at ha
        simp
        split
        · exact ⟨by decide, hR (a, a + 1) (by constructor <;> constructor <;> dsimp only <;> omega)⟩
        · exact ⟨by decide, hR (a, 0) (by constructor <;> constructor <;> dsimp only <;> omega)⟩
      · simp only [List.length_nil, rngI_length] at h2
        refine ⟨e5 inferInstance, ?_⟩
        rw [e1]
        exact hD _ ⟨r, _, _, h3, by omega, rfl⟩
    · exact hD _ ⟨[], _, _, fun p hp => by simp at hp, by simp, rfl⟩
  rintro _ ⟨rs, c6, c7, ho, hl, rfl⟩
  apply seq_all fun e => ∃ (rs : List (Int × Int)) (c6 c7 : Option O), RdsOk n rs ∧ rs.length ≤ 10000 ∧ e = [some (.val (.src)), some (.val (.int m)), some (.val (.int k)), some (.val (.int n)), some (.val (.int w)), some (Ow rs), c6, c7]
  · intro D' hD
    simp [rng_I]
    split
    · refine ⟨in62_of (by decide) (by decide), in62_of (by omega) (by omega), lcD_any (α := Int) (β := Int × Int) (fun p => (0 ≤ p.1 ∧ p.1 < n) ∧ (0 ≤ p.2 ∧ p.2 < n)) (rngI 1 n) [] (by simp) (fun a ha R hR => ?_) (by simp; rw [sizeLine_eq]; omega) fun r os h2 h3 e1 e2 e3 e4 e5 => ?_⟩
      · rw [mem_rngI] at ha
        simp
        refine ⟨log9 (by omega) (by omega), fun r r0 r1 => ⟨by decide, hR (r, a) (by constructor <;> constructor <;> dsimp only <;> omega)⟩⟩
      · simp only [List.length_nil, rngI_length] at h2
        refine ⟨e5 inferInstance, ?_⟩
        rw [e1]
        exact hD _ ⟨r, _, _, h3, by omega, rfl⟩
    · exact hD _ ⟨rs, _, _, ho, hl, rfl⟩
  clear ho hl
  rintro _ ⟨rs, c6, c7, ho, hl, rfl⟩
  apply seq_all fun e => ∃ (rs : List (Int × Int)) (c6 c7 : Option O), RdsOk n rs ∧ rs.length ≤ 20000 ∧ e = [some (.val (.src)), some (.val (.int m)), some (.val (.int k)), some (.val (.int n)), some (.val (.int w)), some (Ow rs), c6, c7]
  · intro D' hD
    simp [rng_I]
    refine ⟨log9 (by omega) (by omega), fun r r0 r1 => ⟨in62_of (by omega) (by omega), ?_⟩⟩
    refine loop_inv (fun l e => ∃ (rs : List (Int × Int)) (c6 c7 : Option O), RdsOk n rs ∧ rs.length + l.length ≤ 20000 ∧ e = [some (.val (.src)), some (.val (.int m)), some (.val (.int k)), some (.val (.int n)), some (.val (.int w)), some (Ow rs), c6, c7]) ?_ ?_ (rngI 0 r) _ ⟨rs, c6, c7, ho, by rw [rngI_length]; omega, rfl⟩
    · rintro a rest _ ⟨qs, c6, c7, hq1, hq2, rfl⟩
      simp only [List.length_cons] at hq2
      refine ⟨[some (.val (.src)), some (.val (.int m)), some (.val (.int k)), some (.val (.int n)), some (.val (.int w)), some (Ow qs), some (.val (.int a)), c7], by simp, fun N hN => ?_⟩
      unfold b0__law_frame
      rw [app_Ow qs rfl]
      simp
      refine ⟨log9 (by omega) (by omega), fun x x0 x1 => ⟨log9 (by omega) (by omega), fun y y0 y1 => ⟨by decide, szt (by omega), hN _ ⟨qs ++ [(x, y)], _, _, hq1.snoc (by omega) (by omega), by simp; omega, rfl⟩⟩⟩⟩
    · rintro _ ⟨qs, c6, c7, hq1, hq2, rfl⟩
      exact hD _ ⟨qs, _, _, hq1, by simp at hq2; omega, rfl⟩
  clear ho hl
  rintro _ ⟨rs, c6, c7, ho, hl, rfl⟩
  simp
  rw [cut_lo rs k0]
  refine law_mixed_L (by rw [List.length_take]; omega) fun r hr => ?_
  simp
  refine ⟨by decide, hq n r n0 n1 (ho.sub fun p hp => List.mem_of_mem_take (hr.mem_iff.mp hp)) ?_⟩
  rw [hr.length_eq, List.length_take]
  omega
theorem loop_standing {De : DEnds} {Ee : SEX} {f : D} : ∀ (rs : List (Int × Int)) (k : Int) (ls : List (List Int)) (c2 c3 c4 c5 : Option O), RdsOk ls.length rs → 0 ≤ k → (∀ r ∈ ls, r.length + 2 * rs.length ≤ 1000000) →
    (∀ c2 c3 c4 c5, De.nx [some (.val (f)), some (OO (stdF k rs ls)), c2, c3, c4, c5]) → loopD (.tp [.nm 2, .tp [.nm 3, .nm 4]]) b0_standing_ends De Ee ((enumI k rs).map Enc.enc) [some (.val (f)), some (OO ls), c2, c3, c4, c5]
  | [], k, ls, c2, c3, c4, c5, _, _, _, h => h c2 c3 c4 c5
  | p :: rs, k, ls, c2, c3, c4, c5, ho, hk, hl, h => by
    have h1 := ho p (List.mem_cons_self ..)
    simp only [enumI, List.map_cons]
    rw [loopD_cons]
    refine ⟨[some (.val (f)), some (OO ls), some (.val (.int k)), some (.val (.int p.1)), some (.val (.int p.2)), c5], by simp, ?_⟩
    rw [b0_standing_ends_v]
    simp only [List.length_cons] at hl
    apply seq_to (env' := [some (.val (f)), some (OO (ls.modify p.1.toNat (· ++ [2 * k]))), some (.val (.int k)), some (.val (.int p.1)), some (.val (.int p.2)), c5])
    · intro D' hD'
      exact appK_OO (ls := ls) (c := p.1) (x := 2 * k) rfl h1.1.1 h1.1.2 (fun r hr => szt (by have := hl r hr; omega)) (fun Q E q => by simpa using q) (fun Q E q => by simp; exact ⟨.inl (.inl (by decide)), q⟩) hD'
    have hl2 : ∀ r ∈ ls.modify p.1.toNat (· ++ [2 * k]), r.length + 2 * rs.length + 1 ≤ 1000000 := fun r hr => by
      have := mem_modify hr
      rcases this with q | ⟨r', q, rfl⟩
      · have := hl r q
        omega
      · have := hl r' q
        simp
        omega
    refine appK_OO (ls := ls.modify p.1.toNat (· ++ [2 * k])) (c := p.2) (x := 2 * k + 1) rfl h1.2.1 (by rw [List.length_modify]; exact h1.2.2) (fun r hr => szt (by have := hl2 r hr; omega)) (fun Q E q => by simpa using q) (fun Q E q => by simp; exact ⟨.inl (.inl (by decide)), q⟩) ?_
    refine loop_standing rs (k + 1) _ _ _ _ _ (by simp only [List.length_modify]; exact fun q hq => ho q (List.mem_cons_of_mem _ hq)) (by omega) (fun r hr => ?_) h
    rcases mem_modify hr with q | ⟨r', q, rfl⟩
    · have := hl2 r q
      omega
    · have := hl2 r' q
      simp
      omega
theorem run_standing_ends : ∀ ds Q E, fs_standing_ends ds Q E → w_standing_ends (startD N_standing_ends ds) { nx := fun _ => Q (.val .non), rt := Q } (fun x _ => E x) := by
  rintro _ Q E ⟨n, rs, rfl, h, h0, h1, h2, hq⟩
  simp [w_standing_ends, N_standing_ends, rng_I]
  refine ⟨in62_of (by omega) (by omega), lcD_told (fun _ => true) (fun _ => .lst []) _ [] (fun d hd R R' h => ?_) (by simp; rw [sizeLine_eq]; omega) ?_⟩
  · obtain ⟨x, _, rfl⟩ := List.mem_map.mp hd
    simpa using h
  have e : O.lst ([] ++ (((rngI 0 n).map Enc.enc).filter fun _ => true).map fun _ => O.lst []) = OO (List.replicate n.toNat []) := by
    unfold OO
    rw [List.nil_append, filter_tt, List.map_map, List.map_replicate]
    congr 1
    rw [List.eq_replicate_iff]
    refine ⟨by simp, fun x hx => ?_⟩
    obtain ⟨y, _, rfl⟩ := List.mem_map.mp hx
    rfl
  refine ⟨?_, _, rfl, ?_⟩
  · have := OO_clean (List.replicate n.toNat [])
    rw [← e] at this
    simpa using this
  · rw [e, itemsD_T, enumF_enc]
    refine loop_standing rs 0 _ _ _ _ _ (by rw [List.length_replicate, show ((n.toNat : Nat) : Int) = n by omega]; exact h) (by decide) (fun r hr => by rw [(List.mem_replicate.mp hr).2]; simp; omega) fun c2 c3 c4 c5 => ?_
    simp
    exact hq
theorem loop_law_standing {De : DEnds} {Ee : SEX} {f : D} : ∀ (rs : List (Int × Int)) (k : Int) (ls : List (List Int)) (c2 c3 c4 c5 : Option O), RdsOk ls.length rs → 0 ≤ k → (∀ r ∈ ls, r.length + 2 * rs.length ≤ 1000000) →
    (∀ c2 c3 c4 c5, De.nx [some (.val (f)), some (OO (stdF k rs ls)), c2, c3, c4, c5]) → loopD (.tp [.nm 2, .tp [.nm 3, .nm 4]]) b0__law_standing De Ee ((enumI k rs).map Enc.enc) [some (.val (f)), some (OO ls), c2, c3, c4, c5]
  | [], k, ls, c2, c3, c4, c5, _, _, _, h => h c2 c3 c4 c5
  | p :: rs, k, ls, c2, c3, c4, c5, ho, hk, hl, h => by
    have h1 := ho p (List.mem_cons_self ..)
    simp only [enumI, List.map_cons]
    rw [loopD_cons]
    refine ⟨[some (.val (f)), some (OO ls), some (.val (.int k)), some (.val (.int p.1)), some (.val (.int p.2)), c5], by simp, ?_⟩
    rw [b0__law_standing_v]
    simp only [List.length_cons] at hl
    apply seq_to (env' := [some (.val (f)), some (OO (ls.modify p.1.toNat (· ++ [2 * k]))), some (.val (.int k)), some (.val (.int p.1)), some (.val (.int p.2)), c5])
    · intro D' hD'
      exact appK_OO (ls := ls) (c := p.1) (x := 2 * k) rfl h1.1.1 h1.1.2 (fun r hr => szt (by have := hl r hr; omega)) (fun Q E q => by simpa using q) (fun Q E q => by simp; exact ⟨.inl (.inl (by decide)), q⟩) hD'
    have hl2 : ∀ r ∈ ls.modify p.1.toNat (· ++ [2 * k]), r.length + 2 * rs.length + 1 ≤ 1000000 := fun r hr => by
      have := mem_modify hr
      rcases this with q | ⟨r', q, rfl⟩
      · have := hl r q
        omega
      · have := hl r' q
        simp
        omega
    refine appK_OO (ls := ls.modify p.1.toNat (· ++ [2 * k])) (c := p.2) (x := 2 * k + 1) rfl h1.2.1 (by rw [List.length_modify]; exact h1.2.2) (fun r hr => szt (by have := hl2 r hr; omega)) (fun Q E q => by simpa using q) (fun Q E q => by simp; exact ⟨.inl (.inl (by decide)), q⟩) ?_
    refine loop_law_standing rs (k + 1) _ _ _ _ _ (by simp only [List.length_modify]; exact fun q hq => ho q (List.mem_cons_of_mem _ hq)) (by omega) (fun r hr => ?_) h
    rcases mem_modify hr with q | ⟨r', q, rfl⟩
    · have := hl2 r q
      omega
    · have := hl2 r' q
      simp
      omega
theorem run__law_standing : ∀ ds Q E, fs__law_standing ds Q E → w__law_standing (startD N__law_standing ds) { nx := fun _ => Q (.val .non), rt := Q } (fun x _ => E x) := by
  rintro _ Q E ⟨n, rs, rfl, h, h0, h1, h2, hq⟩
  simp [w__law_standing, N__law_standing, rng_I]
  refine ⟨in62_of (by omega) (by omega), lcD_told (fun _ => true) (fun _ => .lst []) _ [] (fun d hd R R' h => ?_) (by simp; rw [sizeLine_eq]; omega) ?_⟩
  · obtain ⟨x, _, rfl⟩ := List.mem_map.mp hd
    simpa using h
  have e : O.lst ([] ++ (((rngI 0 n).map Enc.enc).filter fun _ => true).map fun _ => O.lst []) = OO (List.replicate n.toNat []) := by
    unfold OO
    rw [List.nil_append, filter_tt, List.map_map, List.map_replicate]
    congr 1
    rw [List.eq_replicate_iff]
    refine ⟨by simp, fun x hx => ?_⟩
    obtain ⟨y, _, rfl⟩ := List.mem_map.mp hx
    rfl
  refine ⟨?_, _, rfl, ?_⟩
  · have := OO_clean (List.replicate n.toNat [])
    rw [← e] at this
    simpa using this
  · rw [e, itemsD_T, enumF_enc]
    refine loop_law_standing rs 0 _ _ _ _ _ (by rw [List.length_replicate, show ((n.toNat : Nat) : Int) = n by omega]; exact h) (by decide) (fun r hr => by rw [(List.mem_replicate.mp hr).2]; simp; omega) fun c2 c3 c4 c5 => ?_
    simp
    exact hq
theorem run_stands_at : ∀ ds Q E, fs_stands_at ds Q E → w_stands_at (startD N_stands_at ds) { nx := fun _ => Q (.val .non), rt := Q } (fun x _ => E x) := by
  rintro _ Q E ⟨n, e, c, rs, rfl, h0, h, hq⟩
  unfold atE at h
  simp [w_stands_at, N_stands_at, Int.fmod_eq_emod_of_nonneg]
  refine ⟨T rs, atI_one _ _ _, by decide, ?_⟩
  rw [ixD_T, atI_pos rs (by omega)]
  cases hp : rs[(e / 2).toNat]? with
  | none => rw [hp] at h; simp at h
  | some p =>
    rw [hp] at h
    simp at h
    simp
    rcases (show e % 2 = 0 ∨ e % 2 = 1 by omega) with z | z
    · rw [z] at h ⊢
      simp at h
      subst h
      exact ⟨_, atI_zero _ _, hq⟩
    · rw [z] at h ⊢
      simp at h
      subst h
      exact ⟨_, atI_one _ _ _, hq⟩
theorem run_back_end : ∀ ds Q E, fs_back_end ds Q E → w_back_end (startD N_back_end ds) { nx := fun _ => Q (.val .non), rt := Q } (fun x _ => E x) := by
  rintro _ Q E ⟨e, rfl, hq⟩
  unfold bkE at hq
  simp [w_back_end, N_back_end, Int.fmod_eq_emod_of_nonneg]
  exact ⟨.inl (.inl (by decide)), hq⟩
theorem run_leads_to : ∀ ds Q E, fs_leads_to ds Q E → w_leads_to (startD N_leads_to ds) { nx := fun _ => Q (.val .non), rt := Q } (fun x _ => E x) := by
  rintro _ Q E ⟨n, e, c, rs, rfl, h0, h, hq⟩
  simp [w_leads_to, N_leads_to]
  exact stands_at_of (by unfold bkE; omega) h hq
theorem run__law_leads : ∀ ds Q E, fs__law_leads ds Q E → w__law_leads (startD N__law_leads ds) { nx := fun _ => Q (.val .non), rt := Q } (fun x _ => E x) := by
  rintro _ Q E ⟨n, e, c, rs, rfl, h0, h, hq⟩
  unfold toE atE at h
  simp [w__law_leads, N__law_leads]
  refine ⟨T rs, atI_one _ _ _, by decide, ?_⟩
  rw [ixD_T, atI_pos rs (by omega)]
  rw [show bkE e / 2 = e / 2 by unfold bkE; omega] at h
  cases hp : rs[(e / 2).toNat]? with
  | none => rw [hp] at h; simp at h
  | some p =>
    rw [hp] at h
    simp at h
    simp
    refine ⟨by decide, .inl (.inr (by decide)), ?_⟩
    rcases (show e % 2 = 0 ∨ e % 2 = 1 by omega) with z | z
    · rw [show bkE e % 2 = 1 by unfold bkE; omega] at h
      rw [show 1 - (e - e / 2 * 2) = 1 by omega]
      simp at h
      subst h
      exact ⟨_, atI_one _ _ _, hq⟩
    · rw [show bkE e % 2 = 0 by unfold bkE; omega] at h
      rw [show 1 - (e - e / 2 * 2) = 0 by omega]
      simp at h
      subst h
      exact ⟨_, atI_zero _ _, hq⟩
theorem loopa_law_told_parts {De : DEnds} {Ee : SEX} {f : D} : ∀ (l fs : List Int) (c2 : Option O), fs.length + l.length ≤ 1000000 → (∀ c2, De.nx [some (.val (f)), some (.dct false ((fstA fs l).map Enc.enc) (idxs (fstA fs l).length)), c2]) →
    loopD (.nm 2) b0a__law_told_parts De Ee (l.map Enc.enc) [some (.val (f)), some (.dct false (fs.map Enc.enc) (idxs fs.length)), c2]
  | [], fs, c2, _, h => h c2
  | a :: l, fs, c2, hl, h => by
    simp only [List.length_cons] at hl
    rw [List.map_cons, loopD_cons]
    refine ⟨[some (.val (f)), some (.dct false (fs.map Enc.enc) (idxs fs.length)), some (.val (.int a))], by simp, ?_⟩
    unfold fstA at h
    by_cases q : a ∈ fs
    · rw [if_pos q] at h
      have ih := loopa_law_told_parts (De := De) (Ee := Ee) (f := f) l fs (some (.val (.int a))) (by omega) h
      have k := kd_old q
      unfold b0a__law_told_parts
      rw [sDput_v rfl]
      simp [kd_lookI, q]
      have k1 : putKs (fs.map Enc.enc) (.int a) = fs.map Enc.enc := k.1
      have k2 : putVs (fs.map Enc.enc) (idxs fs.length) (.int a) (O.val (.int ((idxD fs a : Nat) : Int))) = idxs fs.length := k.2
      rw [k1, k2]
      exact ⟨szt (by omega), ih⟩
    · rw [if_neg q] at h
      have ih := loopa_law_told_parts (De := De) (Ee := Ee) (f := f) l (fs ++ [a]) (some (.val (.int a))) (by simp; omega) h
      unfold b0a__law_told_parts
      rw [sDput_v rfl]
      have k := kd_new q
      simp [kd_lookI, q]
      have k1 : putKs (fs.map Enc.enc) (.int a) = (fs ++ [a]).map Enc.enc := k.1
      have k2 : putVs (fs.map Enc.enc) (idxs fs.length) (.int a) (O.val (.int ((fs.length : Nat) : Int))) = idxs (fs ++ [a]).length := k.2
      rw [k1, k2]
      exact ⟨szt (by omega), ih⟩
theorem keya_law_told_parts : ∀ (l : List Int) (f : D) (Q : O → Prop) (E : EX), l.length ≤ 1000000 → (∀ (R : List D → Prop), itemsD f R = R (l.map Enc.enc)) → Q (.val (T (tp l))) → wa__law_told_parts [some (.val f), none, none] { nx := fun _ => Q (.val .non), rt := Q } (fun x _ => E x) := by
    intro l f Q E hl hf hq
    simp [wa__law_told_parts, hf]
    refine loopa_law_told_parts l [] none (by simpa using hl) fun c2 => ?_
    simp [hf]
    refine lcD_typed (α := Int) (β := Int) (fun _ => true) (fun a => ((idxD (firsts l) a : Nat) : Int)) l [] (fun a ha R R' h => ?_) (by simp; rw [sizeLine_eq]; omega) fun os e1 e2 e3 e4 e5 => ?_
    · simp at h
      simp
      refine ⟨_, ?_, h⟩
      rw [posD_int, if_pos (show a ∈ fstA [] l from firsts_mem.mpr ha), idxs_ds]
      simp [firsts, idxD_lt (show a ∈ fstA [] l from firsts_mem.mpr ha)]
    · rw [e2]
      simpa [tp] using hq
theorem loopb_law_told_parts {De : DEnds} {Ee : SEX} {f : D} : ∀ (l fs : List Mk) (c2 : Option O), fs.length + l.length ≤ 1000000 → (∀ c2, De.nx [some (.val (f)), some (.dct true ((fstA fs l).map Enc.enc) (idxs (fstA fs l).length)), c2]) →
    loopD (.nm 2) b0b__law_told_parts De Ee (l.map Enc.enc) [some (.val (f)), some (.dct true (fs.map Enc.enc) (idxs fs.length)), c2]
  | [], fs, c2, _, h => h c2
  | a :: l, fs, c2, hl, h => by
    simp only [List.length_cons] at hl
    rw [List.map_cons, loopD_cons]
    refine ⟨[some (.val (f)), some (.dct true (fs.map Enc.enc) (idxs fs.length)), some (.val (.tup [.int a.1, T a.2]))], by simp, ?_⟩
    unfold fstA at h
    by_cases q : a ∈ fs
    · rw [if_pos q] at h
      have ih := loopb_law_told_parts (De := De) (Ee := Ee) (f := f) l fs (some (.val (.tup [.int a.1, T a.2]))) (by omega) h
      have k := kd_old q
      unfold b0b__law_told_parts
      rw [sDput_v rfl]
      simp [kd_lookP, q]
      have k1 : putKs (fs.map Enc.enc) (.tup [.int a.1, T a.2]) = fs.map Enc.enc := k.1
      have k2 : putVs (fs.map Enc.enc) (idxs fs.length) (.tup [.int a.1, T a.2]) (O.val (.int ((idxD fs a : Nat) : Int))) = idxs fs.length := k.2
      rw [k1, k2]
      exact ⟨szt (by omega), ih⟩
    · rw [if_neg q] at h
      have ih := loopb_law_told_parts (De := De) (Ee := Ee) (f := f) l (fs ++ [a]) (some (.val (.tup [.int a.1, T a.2]))) (by simp; omega) h
      unfold b0b__law_told_parts
      rw [sDput_v rfl]
      have k := kd_new q
      simp [kd_lookP, q]
      have k1 : putKs (fs.map Enc.enc) (.tup [.int a.1, T a.2]) = (fs ++ [a]).map Enc.enc := k.1
      have k2 : putVs (fs.map Enc.enc) (idxs fs.length) (.tup [.int a.1, T a.2]) (O.val (.int ((fs.length : Nat) : Int))) = idxs (fs ++ [a]).length := k.2
      rw [k1, k2]
      exact ⟨szt (by omega), ih⟩
theorem keyb_law_told_parts : ∀ (l : List Mk) (f : D) (Q : O → Prop) (E : EX), l.length ≤ 1000000 → (∀ (R : List D → Prop), itemsD f R = R (l.map Enc.enc)) → Q (.val (T (tp l))) → wb__law_told_parts [some (.val f), none, none] { nx := fun _ => Q (.val .non), rt := Q } (fun x _ => E x) := by
    intro l f Q E hl hf hq
    simp [wb__law_told_parts, hf]
    refine loopb_law_told_parts l [] none (by simpa using hl) fun c2 => ?_
    simp [hf]
    refine lcD_typed (α := Mk) (β := Int) (fun _ => true) (fun a => ((idxD (firsts l) a : Nat) : Int)) l [] (fun a ha R R' h => ?_) (by simp; rw [sizeLine_eq]; omega) fun os e1 e2 e3 e4 e5 => ?_
    · simp at h
      simp
      refine ⟨_, ?_, h⟩
      rw [posD_pr, if_pos (show a ∈ fstA [] l from firsts_mem.mpr ha), idxs_ds]
      simp [firsts, idxD_lt (show a ∈ fstA [] l from firsts_mem.mpr ha)]
    · rw [e2]
      simpa [tp] using hq
theorem run__law_told_parts : ∀ ds Q E, fs__law_told_parts ds Q E → w__law_told_parts (startD N__law_told_parts ds) { nx := fun _ => Q (.val .non), rt := Q } (fun x _ => E x) := by
  rintro _ Q E (⟨l, rfl | rfl, hl, hq⟩ | ⟨l, rfl | rfl, hl, hq⟩)
  · exact .inl (keya_law_told_parts l _ Q E hl (fun R => rfl) hq)
  · exact .inl (keya_law_told_parts l _ Q E hl (fun R => rfl) hq)
  · exact .inr (keyb_law_told_parts l _ Q E hl (fun R => rfl) hq)
  · exact .inr (keyb_law_told_parts l _ Q E hl (fun R => rfl) hq)
theorem run__law_parting : ∀ ds Q E, fs__law_parting ds Q E → w__law_parting (startD N__law_parting ds) { nx := fun _ => Q (.val .non), rt := Q } (fun x _ => E x) := by
  rintro _ Q E ⟨n, rfl, h0, h1, hq⟩
  simp [w__law_parting, N__law_parting, rng_I]
  refine ⟨in62_of (by omega) (by omega), lcD_any (α := Int) (β := Int) (fun _ => True) (rngI 0 n) [] (by simp) (fun a ha R hR => ?_) (by simp; rw [sizeLine_eq]; omega) fun r os h2 _ e1 e2 e3 e4 e5 => ?_⟩
  · simp
    exact ⟨log9 (by omega) (by omega), fun r _ _ => hR r trivial⟩
  · simp only [List.length_nil, rngI_length] at h2
    rw [e3]
    exact law_told_parts_ofL (by omega) (hq r (by omega))
theorem run_is_finer : ∀ ds Q E, fs_is_finer ds Q E → w_is_finer (startD N_is_finer ds) { nx := fun _ => Q (.val .non), rt := Q } (fun x _ => E x) := by
  rintro _ Q E ⟨a, b, rfl, h, hn, hl, h0, hm, hq⟩
  have hp := List.length_pos_iff.mpr hn
  simp [w_is_finer, N_is_finer, h]
  refine lcD_told (fun _ => true) (fun d => match d with | .tup [x, y] => .val (.tup [.tup [x, y], .bl true]) | _ => .val .non) _ [] (fun d hd R R' hR => ?_) (by simp; rw [sizeLine_eq]; omega) ?_
  · obtain ⟨p, _, rfl⟩ := List.mem_map.mp hd
    simp at hR
    simp
    exact ⟨by decide, hR⟩
  · simp only [List.nil_append, filter_tt]
    refine dctT_of (α := Int × Int) (l := a.zip b) (v := fun _ => .bl true) (fun p => by rw [en_prod]; exact keyT_prod p (by decide)) ?_ fun vs _ => ?_
    · rw [List.map_map, O.ds_map, List.map_map]
      rfl
    · simp
      refine ⟨by omega, fun m hm' hmx => ?_⟩
      have em := mxI_of (h0 m hm') hm' hmx
      subst em
      have : decide (((firsts (a.zip b)).length : Int) = mxI a + 1) = finB a b := by
        unfold finB
        rw [hm]
        by_cases q : (firsts (a.zip b)).length = (firsts a).length
        · simp [q]
        · have : ¬ ((firsts (a.zip b)).length : Int) = ((firsts a).length : Int) := by omega
          simp [q, this]
      rw [this]
      exact hq
theorem run__law_is_finer : ∀ ds Q E, fs__law_is_finer ds Q E → w__law_is_finer (startD N__law_is_finer ds) { nx := fun _ => Q (.val .non), rt := Q } (fun x _ => E x) := by
  rintro _ Q E ⟨a, b, rfl, h, hl, hq⟩
  simp [w__law_is_finer, N__law_is_finer]
  refine lcD_told (fun _ => true) (fun d => .val (.tup [d, .int 0])) _ [] (fun d hd R R' hR => ?_) (by simp; rw [sizeLine_eq]; omega) ?_
  · obtain ⟨p, _, rfl⟩ := List.mem_map.mp hd
    simp at hR
    simp
    exact ⟨by decide, hR⟩
  · simp only [List.nil_append, filter_tt]
    refine dctT_of (α := Int × Int) (l := a.zip b) (v := fun _ => .int 0) (fun p => by rw [en_prod]; exact keyT_prod p (by decide)) ?_ fun vs ev => ?_
    · rw [List.map_map, O.ds_map, List.map_map]
      rfl
    · simp
      refine ⟨?_, ?_⟩
      · rw [cleans_vals, ev]
        exact dct_noLst (fun _ => rfl) _
      refine lcD_told (fun _ => true) (fun d => .val (.tup [d, .int 0])) _ [] (fun d hd R R' hR => ?_) (by simp; rw [sizeLine_eq]; omega) ?_
      · obtain ⟨p, _, rfl⟩ := List.mem_map.mp hd
        simp at hR
        simp
        exact ⟨by decide, hR⟩
      · simp only [List.nil_append, filter_tt]
        refine dctF_of (α := Int) (l := a) (v := fun _ => .int 0) (fun p => rfl) ?_ fun vs ev => ?_
        · rw [List.map_map, O.ds_map, List.map_map]
          rfl
        · simp
          have : decide (((firsts (a.zip b)).length : Int) = ((firsts a).length : Int)) = finB a b := by
            unfold finB
            by_cases q : (firsts (a.zip b)).length = (firsts a).length
            · simp [q]
            · have : ¬ ((firsts (a.zip b)).length : Int) = ((firsts a).length : Int) := by omega
              simp [q, this]
          first
            | (rw [this]; exact hq)
            | (unfold finB at hq; exact hq)
theorem loopa_told_parts {De : DEnds} {Ee : SEX} {f : D} : ∀ (l fs : List Int) (c2 : Option O), fs.length + l.length ≤ 1000000 → (∀ c2, De.nx [some (.val (f)), some (.dct false ((fstA fs l).map Enc.enc) (idxs (fstA fs l).length)), c2]) →
    loopD (.nm 2) b0a_told_parts De Ee (l.map Enc.enc) [some (.val (f)), some (.dct false (fs.map Enc.enc) (idxs fs.length)), c2]
  | [], fs, c2, _, h => h c2
  | a :: l, fs, c2, hl, h => by
    simp only [List.length_cons] at hl
    rw [List.map_cons, loopD_cons]
    refine ⟨[some (.val (f)), some (.dct false (fs.map Enc.enc) (idxs fs.length)), some (.val (.int a))], by simp, ?_⟩
    unfold fstA at h
    by_cases q : a ∈ fs
    · rw [if_pos q] at h
      have ih := loopa_told_parts (De := De) (Ee := Ee) (f := f) l fs (some (.val (.int a))) (by omega) h
      unfold b0a_told_parts
      rw [sSetd_v rfl]
      simp [posD_int, q]
      exact ⟨szt (by omega), ih⟩
    · rw [if_neg q] at h
      have ih := loopa_told_parts (De := De) (Ee := Ee) (f := f) l (fs ++ [a]) (some (.val (.int a))) (by simp; omega) h
      rw [List.map_append, List.length_append, List.length_singleton, idxs_succ] at ih
      unfold b0a_told_parts
      rw [sSetd_v rfl]
      simp [posD_int, q]
      exact ⟨szt (by omega), ih⟩
theorem keya_told_parts : ∀ (l : List Int) (f : D) (Q : O → Prop) (E : EX), l.length ≤ 1000000 → (∀ (R : List D → Prop), itemsD f R = R (l.map Enc.enc)) → Q (.val (T (tp l))) → wa_told_parts [some (.val f), none, none] { nx := fun _ => Q (.val .non), rt := Q } (fun x _ => E x) := by
    intro l f Q E hl hf hq
    simp [wa_told_parts, hf]
    refine loopa_told_parts l [] none (by simpa using hl) fun c2 => ?_
    simp [hf]
    refine lcD_typed (α := Int) (β := Int) (fun _ => true) (fun a => ((idxD (firsts l) a : Nat) : Int)) l [] (fun a ha R R' h => ?_) (by simp; rw [sizeLine_eq]; omega) fun os e1 e2 e3 e4 e5 => ?_
    · simp at h
      simp
      refine ⟨_, ?_, h⟩
      rw [posD_int, if_pos (show a ∈ fstA [] l from firsts_mem.mpr ha), idxs_ds]
      simp [firsts, idxD_lt (show a ∈ fstA [] l from firsts_mem.mpr ha)]
    · rw [e2]
      simpa [tp] using hq
theorem loopb_told_parts {De : DEnds} {Ee : SEX} {f : D} : ∀ (l fs : List Mk) (c2 : Option O), fs.length + l.length ≤ 1000000 → (∀ c2, De.nx [some (.val (f)), some (.dct true ((fstA fs l).map Enc.enc) (idxs (fstA fs l).length)), c2]) →
    loopD (.nm 2) b0b_told_parts De Ee (l.map Enc.enc) [some (.val (f)), some (.dct true (fs.map Enc.enc) (idxs fs.length)), c2]
  | [], fs, c2, _, h => h c2
  | a :: l, fs, c2, hl, h => by
    simp only [List.length_cons] at hl
    rw [List.map_cons, loopD_cons]
    refine ⟨[some (.val (f)), some (.dct true (fs.map Enc.enc) (idxs fs.length)), some (.val (.tup [.int a.1, T a.2]))], by simp, ?_⟩
    unfold fstA at h
    by_cases q : a ∈ fs
    · rw [if_pos q] at h
      have ih := loopb_told_parts (De := De) (Ee := Ee) (f := f) l fs (some (.val (.tup [.int a.1, T a.2]))) (by omega) h
      unfold b0b_told_parts
      rw [sSetd_v rfl]
      simp [posD_pr, q]
      exact ⟨szt (by omega), ih⟩
    · rw [if_neg q] at h
      have ih := loopb_told_parts (De := De) (Ee := Ee) (f := f) l (fs ++ [a]) (some (.val (.tup [.int a.1, T a.2]))) (by simp; omega) h
      rw [List.map_append, List.length_append, List.length_singleton, idxs_succ] at ih
      unfold b0b_told_parts
      rw [sSetd_v rfl]
      simp [posD_pr, q]
      exact ⟨szt (by omega), ih⟩
theorem keyb_told_parts : ∀ (l : List Mk) (f : D) (Q : O → Prop) (E : EX), l.length ≤ 1000000 → (∀ (R : List D → Prop), itemsD f R = R (l.map Enc.enc)) → Q (.val (T (tp l))) → wb_told_parts [some (.val f), none, none] { nx := fun _ => Q (.val .non), rt := Q } (fun x _ => E x) := by
    intro l f Q E hl hf hq
    simp [wb_told_parts, hf]
    refine loopb_told_parts l [] none (by simpa using hl) fun c2 => ?_
    simp [hf]
    refine lcD_typed (α := Mk) (β := Int) (fun _ => true) (fun a => ((idxD (firsts l) a : Nat) : Int)) l [] (fun a ha R R' h => ?_) (by simp; rw [sizeLine_eq]; omega) fun os e1 e2 e3 e4 e5 => ?_
    · simp at h
      simp
      refine ⟨_, ?_, h⟩
      rw [posD_pr, if_pos (show a ∈ fstA [] l from firsts_mem.mpr ha), idxs_ds]
      simp [firsts, idxD_lt (show a ∈ fstA [] l from firsts_mem.mpr ha)]
    · rw [e2]
      simpa [tp] using hq
theorem run_told_parts : ∀ ds Q E, fs_told_parts ds Q E → w_told_parts (startD N_told_parts ds) { nx := fun _ => Q (.val .non), rt := Q } (fun x _ => E x) := by
  rintro _ Q E (⟨l, rfl | rfl, hl, hq⟩ | ⟨l, rfl | rfl, hl, hq⟩)
  · exact .inl (keya_told_parts l _ Q E hl (fun R => rfl) hq)
  · exact .inl (keya_told_parts l _ Q E hl (fun R => rfl) hq)
  · exact .inr (keyb_told_parts l _ Q E hl (fun R => rfl) hq)
  · exact .inr (keyb_told_parts l _ Q E hl (fun R => rfl) hq)
theorem run_ends_by_parts : ∀ ds Q E, fs_ends_by_parts ds Q E → w_ends_by_parts (startD N_ends_by_parts ds) { nx := fun _ => Q (.val .non), rt := Q } (fun x _ => E x) := by
  rintro _ Q E ⟨n, c, rs, pt, rfl, h, h1, h2, hp, c0, c1, hq⟩
  have hpl := hp.1
  have hm1 : mxI pt ≤ 1000 := mxI_le pt 1000 (by decide) fun x hx => (hp.2 x hx).2
  have hm0 := mxI_nn pt
  unfold w_ends_by_parts
  apply seq_to (env' := [some (.val (Fr n rs)), some (.val (T pt)), some (.val (.int c)), some (Ow (List.replicate (mxI pt + 1).toNat (0 : Int))), none])
  · intro D' hD
    simp [N_ends_by_parts]
    refine ⟨szl (by decide), by omega, fun m hm hmx => ?_⟩
    have em := mxI_of (hp.2 m hm).1 hm hmx
    subst em
    have e : O.lst (List.replicate (mxI pt + 1).toNat (O.val (.int 0))) = Ow (List.replicate (mxI pt + 1).toNat (0 : Int)) := by
      rw [Ow_def, List.map_replicate]; rfl
    have ec := clean_Ow (List.replicate (mxI pt + 1).toNat (0 : Int))
    rw [← e] at ec
    rw [e]
    exact ⟨⟨by omega, by omega, by rw [sizeLine_eq]; omega⟩, by simpa using ec, hD⟩
  have hrow : (c.toNat : Int) = c := by omega
  have hcl : c.toNat < (std n rs).length := by rw [std_len]; omega
  have hget : (std n rs).getD c.toNat [] = (std n rs)[c.toNat] := by simp [List.getD_eq_getElem?_getD, List.getElem?_eq_getElem hcl]
  apply seq_all fun e => ∃ c4 : Option O, e = [some (.val (Fr n rs)), some (.val (T pt)), some (.val (.int c)), some (Ow (byp n rs pt c.toNat)), c4]
  · intro D' hD
    simp
    refine standing_of h (by omega) h1 (by omega) ?_
    simp [atI_pos _ c0]
    refine ⟨_, List.getElem?_eq_getElem hcl, ?_⟩
    refine loop_inv (fun l e => ∃ (done : List Int) (c4 : Option O), done ++ l = (std n rs)[c.toNat] ∧ e = [some (.val (Fr n rs)), some (.val (T pt)), some (.val (.int c)), some (Ow (bumps (List.replicate (mxI pt + 1).toNat 0) (ledP rs pt done))), c4]) ?_ ?_ _ _ ⟨[], _, rfl, rfl⟩
    · rintro e rest _ ⟨done, c4, hd, rfl⟩
      refine ⟨[some (.val (Fr n rs)), some (.val (T pt)), some (.val (.int c)), some (Ow (bumps (List.replicate (mxI pt + 1).toNat 0) (ledP rs pt done))), some (.val (.int e))], by simp, fun N hN => ?_⟩
      have he : e ∈ (std n rs).getD c.toNat [] := by rw [hget, ← hd]; simp
      rw [std_mem h (by omega)] at he
      obtain ⟨d, x, t1, t2, t3, t4, t5, t6, t7⟩ := hp.led h he.1 he.2.1
      have hlen : (bumps (List.replicate (mxI pt + 1).toNat 0) (ledP rs pt done)).length = (mxI pt + 1).toNat := by rw [bumps_len, List.length_replicate]
      have hj : x.toNat < (bumps (List.replicate (mxI pt + 1).toNat 0) (ledP rs pt done)).length := by omega
      unfold b0_ends_by_parts
      rw [augIx_Ow _ rfl]
      simp
      refine leads_to_of he.1 t1 ?_
      simp [atI_pos pt t2, t4]
      refine ⟨x.toNat, ixN_pos t6 (by omega), _, List.getElem?_eq_getElem hj, ?_⟩
      refine hN _ ⟨done ++ [e], some (.val (.int e)), by simpa using hd, ?_⟩
      rw [set_modify (List.getElem?_eq_getElem hj), ← bumps_snoc]
      unfold ledP
      rw [List.map_append, List.map_cons, List.map_nil, ← t5]
    · rintro _ ⟨done, c4, hd, rfl⟩
      rw [List.append_nil] at hd
      have : bumps (List.replicate (mxI pt + 1).toNat 0) (ledP rs pt done) = byp n rs pt c.toNat := by
        rw [hd, ← hget, bumps_zero]
        · rfl
        · intro j hj
          obtain ⟨e, he, rfl⟩ := List.mem_map.mp hj
          rw [std_mem h (by omega)] at he
          obtain ⟨d, x, t1, t2, t3, t4, t5, t6, t7⟩ := hp.led h he.1 he.2.1
          rw [← t5]
          exact t6
      rw [this]
      exact hD _ ⟨_, rfl⟩
  rintro _ ⟨c4, rfl⟩
  simp
  exact hq
theorem run__law_by_parts : ∀ ds Q E, fs__law_by_parts ds Q E → w__law_by_parts (startD N__law_by_parts ds) { nx := fun _ => Q (.val .non), rt := Q } (fun x _ => E x) := by
  rintro _ Q E ⟨n, c, rs, pt, rfl, h, h1, h2, hp, c0, c1, hq⟩
  have hpl := hp.1
  have hm1 : mxI pt ≤ 1000 := mxI_le pt 1000 (by decide) fun x hx => (hp.2 x hx).2
  have hm0 := mxI_nn pt
  have hcl : c.toNat < (std n rs).length := by rw [std_len]; omega
  have hget : (std n rs).getD c.toNat [] = (std n rs)[c.toNat] := by simp [List.getD_eq_getElem?_getD, List.getElem?_eq_getElem hcl]
  unfold w__law_by_parts
  apply seq_to (env' := [some (.val (Fr n rs)), some (.val (T pt)), some (.val (.int c)), some (Ow (ledP rs pt ((std n rs).getD c.toNat []))), none, none])
  · intro D' hD
    simp [N__law_by_parts]
    refine law_standing_of h (by omega) h1 (by omega) ?_
    simp [atI_pos _ c0]
    refine ⟨_, List.getElem?_eq_getElem hcl, ?_⟩
    rw [← hget]
    refine lcD_typed (α := Int) (β := Int) (fun _ => true) (fun e => pt.getD ((toE rs e).getD 0).toNat 0) _ [] (fun e he R R' hR => ?_) (by have := std_row (n := n) (rs := rs) (c := c.toNat); simp only [List.length_nil]; rw [sizeLine_eq]; omega) fun os e1 e2 e3 e4 e5 => ?_
    · rw [std_mem h (by omega)] at he
      obtain ⟨d, x, t1, t2, t3, t4, t5, t6, t7⟩ := hp.led h he.1 he.2.1
      simp at hR
      simp
      refine law_leads_of he.1 t1 ?_
      simp [atI_pos pt t2, t4]
      rw [t5]
      simpa using hR
    · simp only [List.nil_append, filter_tt] at e1 e2 e3 e4 e5
      refine ⟨e5 inferInstance, ?_⟩
      rw [e1]
      exact hD
  simp [rng_I]
  refine ⟨by omega, fun m hm hmx => ⟨in62_of (by have := (hp.2 m hm).1; omega) (by have := (hp.2 m hm).2; omega), ?_⟩⟩
  have em := mxI_of (hp.2 m hm).1 hm hmx
  subst em
  refine lcD_typed (α := Int) (β := Int) (fun _ => true) (fun j => (((ledP rs pt ((std n rs).getD c.toNat [])).count j : Nat) : Int)) (rngI 0 (mxI pt + 1)) [] (fun j hj R R' hR => ?_) (by simp; rw [sizeLine_eq]; omega) fun os e1 e2 e3 e4 e5 => ?_
  · simp at hR
    simp [countP_int, okDs_enc (α := Int) _ (n := 7) (by decide)]
    exact hR
  · rw [e2]
    simp only [List.nil_append, filter_tt]
    have : (rngI 0 (mxI pt + 1)).map (fun j => (((ledP rs pt ((std n rs).getD c.toNat [])).count j : Nat) : Int)) = byp n rs pt c.toNat := by
      unfold rngI byp
      rw [List.map_map, Int.sub_zero]
      apply List.map_congr_left
      intro k _
      simp [Function.comp]
    rw [this]
    exact hq
theorem run__law_of : ∀ ds Q E, fs__law_of ds Q E → w__law_of (startD N__law_of ds) { nx := fun _ => Q (.val .non), rt := Q } (fun x _ => E x) := by
  rintro _ Q E ⟨xs, rfl, hn, hl, hq⟩
  have := List.length_pos_iff.mpr hn
  simp [w__law_of, N__law_of]
  refine ⟨log9 (n := (xs.length : Int)) (by omega) (by omega), fun r r0 r1 => ?_⟩
  have h : r.toNat < xs.length := by omega
  refine ⟨xs[r.toNat], ?_, hq _ (List.getElem_mem ..)⟩
  rw [atI_pos xs r0]
  exact List.getElem?_eq_getElem h
theorem run_is_parting_row : ∀ ds Q E, fs_is_parting_row ds Q E → w_is_parting_row (startD N_is_parting_row ds) { nx := fun _ => Q (.val .non), rt := Q } (fun x _ => E x) := by
  rintro _ Q E ⟨n, rs, v, rfl, h1, hq⟩
  by_cases h : ∃ ds, v = .tup ds
  · obtain ⟨ds, rfl⟩ := h
    unfold w_is_parting_row
    by_cases hl : (ds.length : Int) = n
    · apply seq_to (env' := [some (.val (Fr n rs)), some (.val (.tup ds)), none])
      · intro D' hD
        simp [N_is_parting_row, hl]
        exact hD
      simp
      refine lcD_told (fun _ => true) (fun d => .val (.bl (isIntD d))) ds [] ?_ (by simp; exact szl (by omega)) ?_
      · intro d _ R R' hR
        simp only [if_pos] at hR
        rcases isK_int_cases d with ⟨i, rfl⟩ | ⟨b, rfl⟩ | e
        · simp [isIntD] at hR ⊢
          exact hR
        · simp [isIntD] at hR ⊢
          exact hR
        · rw [isIntD_no e] at hR
          simp [e]
          exact hR
      · simp
        rw [allD_told]
        simp
        simp only [← List.all_eq_true]
        cases ha : ds.all isIntD with
        | false =>
          simp only [prow, hl, ha, decide_true, Bool.true_and, Bool.false_and] at hq
          simpa using hq
        | true =>
          simp only [prow, hl, ha, decide_true, Bool.true_and] at hq
          have e := intsV_T ha
          have ok : okDs 7 ds = true := by
            have := okE_T (intsV ds) (by decide)
            rw [← e] at this
            simpa using this
          simp [ok]
          rw [e]
          refine told_parts_of (by simp [intsV]; omega) ?_
          simp
          rw [show decide (intsV ds = tp (intsV ds)) = decide (tp (intsV ds) = intsV ds) from decide_eq_decide.mpr ⟨Eq.symm, Eq.symm⟩]
          exact hq
    · have e : prow n (.tup ds) = false := by simp [prow, hl]
      rw [e] at hq
      simp [N_is_parting_row, hl]
      exact hq
  · have hk := isK_tuple_no h
    rw [prow_no h] at hq
    simp [w_is_parting_row, N_is_parting_row, hk]
    exact hq
theorem run__law_is_int : ∀ ds Q E, fs__law_is_int ds Q E → w__law_is_int (startD N__law_is_int ds) { nx := fun _ => Q (.val .non), rt := Q } (fun x _ => E x) := by
  rintro _ Q E ⟨v, rfl, hq⟩
  rcases isK_int_cases v with ⟨i, rfl⟩ | ⟨b, rfl⟩ | hk
  · simp [w__law_is_int, N__law_is_int]
    exact hq
  · simp [w__law_is_int, N__law_is_int]
    exact hq
  · rw [isIntD_no hk] at hq
    simp [w__law_is_int, N__law_is_int, hk]
    exact hq
theorem run__law_is_row : ∀ ds Q E, fs__law_is_row ds Q E → w__law_is_row (startD N__law_is_row ds) { nx := fun _ => Q (.val .non), rt := Q } (fun x _ => E x) := by
  rintro _ Q E ⟨n, v, rfl, h1, hq⟩
  by_cases h : ∃ ds, v = .tup ds
  · obtain ⟨ds, rfl⟩ := h
    unfold w__law_is_row
    by_cases hl : (ds.length : Int) = n
    · rw [sSeq_v]
      simp [N__law_is_row, hl]
      refine lcD_told (fun d => !isIntD d) (fun d => .val d) ds [] ?_ (by simp; exact szl (by omega)) ?_
      · intro d _ R R' hR
        cases hd : isIntD d
        · simp [hd] at hR ⊢
          exact hR
        · simp [hd] at hR ⊢
          exact hR
      · simp [filter_nil]
        simp only [← List.all_eq_true]
        cases ha : ds.all isIntD with
        | false =>
          simp only [prow, hl, ha, decide_true, Bool.true_and, Bool.false_and] at hq
          simpa using hq
        | true =>
          simp only [prow, hl, ha, decide_true, Bool.true_and] at hq
          have e := intsV_T ha
          have ok : okDs 7 ds = true := by
            have := okE_T (intsV ds) (by decide)
            rw [← e] at this
            simpa using this
          simp [ok]
          rw [e]
          refine law_told_parts_of (by simp [intsV]; omega) ?_
          simp
          rw [show decide (intsV ds = tp (intsV ds)) = decide (tp (intsV ds) = intsV ds) from decide_eq_decide.mpr ⟨Eq.symm, Eq.symm⟩]
          exact hq
    · have e : prow n (.tup ds) = false := by simp [prow, hl]
      rw [e] at hq
      simp [N__law_is_row, hl]
      exact hq
  · have hk := isK_tuple_no h
    rw [prow_no h] at hq
    simp [w__law_is_row, N__law_is_row, hk]
    exact hq
theorem LLG {n : Int} {rs : List (Int × Int)} (h0 : 0 ≤ n) (h1 : n ≤ 100) (hr : RdsOk n rs) (h2 : rs.length ≤ 100) : Gd 2 1000000 (LL (std n rs)) := by
  have g : Gds 1 3000 ((std n rs).map L) := fun x hx => by
    obtain ⟨r, hr', rfl⟩ := List.mem_map.mp hx
    obtain ⟨c, hc, rfl⟩ := List.mem_iff_getElem.mp hr'
    rw [std_len] at hc
    have e : (std n rs)[c] = (std n rs).getD c [] := by simp [List.getD_eq_getElem?_getD, List.getElem?_eq_getElem (show c < (std n rs).length by rw [std_len]; exact hc)]
    rw [e]
    have hl := std_row (n := n) (rs := rs) (c := c)
    exact (Gd.L (k := 0) fun x hx => by
      rw [std_mem hr h0] at hx
      omega).mono (Nat.le_refl _) (by omega)
  have := Gd.lst g
  rw [List.length_map, std_len] at this
  refine this.mono (Nat.le_refl _) ?_
  have : n.toNat ≤ 100 := by omega
  have := Nat.mul_le_mul_right (3000 + 2) this
  omega
theorem vals_law {De : DEnds} {Ee : SEX} {ns : D} {n : Int} {rs : List (Int × Int)} (h1 : n ≤ 10) {c2 c6 c7 c8 c9 c10 c11 c12 c13 c14 c15 c16 c17 c18 c19 c20 c21 c22 : Option O}
    (hD : ∀ c2 c6 c7 c8 c9 c10 c11 c12 c13 c14 c15 c16 c17 c18 c19 c20 c21 c22 : Option O, De.nx [some (.val (ns)), some (.val (.src)), c2, some (.val (Fr n rs)), some (.val (.int n)), some (.val (.str (shown (Fr n rs)))), c6, c7, c8, c9, c10, c11, c12, c13, c14, c15, c16, c17, c18, c19, c20, c21, c22]) (ds : List D) (hds : ∀ d ∈ ds, Gd 4 1000000 d) : loopD (.nm 17) b3_law De Ee ds [some (.val (ns)), some (.val (.src)), c2, some (.val (Fr n rs)), some (.val (.int n)), some (.val (.str (shown (Fr n rs)))), c6, c7, c8, c9, c10, c11, c12, c13, c14, c15, c16, c17, c18, c19, c20, c21, c22] := by
  refine loop_any (fun e => ∃ c2 c6 c7 c8 c9 c10 c11 c12 c13 c14 c15 c16 c17 c18 c19 c20 c21 c22 : Option O, e = [some (.val (ns)), some (.val (.src)), c2, some (.val (Fr n rs)), some (.val (.int n)), some (.val (.str (shown (Fr n rs)))), c6, c7, c8, c9, c10, c11, c12, c13, c14, c15, c16, c17, c18, c19, c20, c21, c22]) (fun d => Gd 4 1000000 d) ?_ ?_ ds _ hds ⟨c2, c6, c7, c8, c9, c10, c11, c12, c13, c14, c15, c16, c17, c18, c19, c20, c21, c22, rfl⟩
  · rintro v _ g ⟨c2, c6, c7, c8, c9, c10, c11, c12, c13, c14, c15, c16, c17, c18, c19, c20, c21, c22, rfl⟩
    refine ⟨[some (.val (ns)), some (.val (.src)), c2, some (.val (Fr n rs)), some (.val (.int n)), some (.val (.str (shown (Fr n rs)))), c6, c7, c8, c9, c10, c11, c12, c13, c14, c15, c16, some (.val (v)), c18, c19, c20, c21, c22], by simp, fun N hN => ?_⟩
    obtain ⟨r1, r2, r3⟩ := g.rep (by decide) (by decide)
    simp [b3_law_v, r1, r2, r3]
    refine is_parting_row_of (by omega) ?_
    simp
    refine ⟨szl (by decide), law_is_row_of (by omega) ?_⟩
    simp [r1, r2, r3]
    exact ⟨szl (by decide), hN _ ⟨_, _, _, _, _, _, _, _, _, _, _, _, _, _, _, _, _, _, rfl⟩⟩
  · rintro _ ⟨c2, c6, c7, c8, c9, c10, c11, c12, c13, c14, c15, c16, c17, c18, c19, c20, c21, c22, rfl⟩
    exact hD _ _ _ _ _ _ _ _ _ _ _ _ _ _ _ _ _ _
theorem smallG {k : Nat} {l : List Int} (hl : l.length ≤ 20) (hs : ∀ x ∈ l, x.natAbs < 1000000000) : Gd (k + 1) 1000000 (T l) := (Gd.T (k := k) hs).mono (Nat.le_refl _) (by omega)
theorem tail_law {De : DEnds} {Ee : SEX} {ns : D} {n : Int} {rs : List (Int × Int)} {one marks : List Int} (h : RdsOk n rs) (h0 : 1 ≤ n) (h1 : n ≤ 10) (h2 : rs.length ≤ 14) (ho : Pc n one) (hm : marks.length = n.toNat ∧ ∀ x ∈ marks, x.natAbs ≤ 10) {c2 c6 c8 c9 c10 c11 c13 c14 c15 c16 c17 c18 c19 c20 c21 c22 : Option O}
    (hD : ∀ c2 c6 c7 c8 c9 c10 c11 c12 c13 c14 c15 c16 c17 c18 c19 c20 c21 c22 : Option O, De.nx [some (.val (ns)), some (.val (.src)), c2, some (.val (Fr n rs)), some (.val (.int n)), some (.val (.str (shown (Fr n rs)))), c6, c7, c8, c9, c10, c11, c12, c13, c14, c15, c16, c17, c18, c19, c20, c21, c22]) : r116_law [some (.val (ns)), some (.val (.src)), c2, some (.val (Fr n rs)), some (.val (.int n)), some (.val (.str (shown (Fr n rs)))), c6, some (.val (T one)), c8, c9, c10, c11, some (Ow marks), c13, c14, c15, c16, c17, c18, c19, c20, c21, c22] De Ee := by
  have lo := ho.ok.1
  have so : ∀ x ∈ one, x.natAbs < 1000000000 := fun x hx => by have := ho.ok.2 x hx; omega
  obtain ⟨r1, r2, r3⟩ := ((FrG h (by omega) (by omega)).mono (l := 3) (e := 600) (by decide) (by omega)).rep (by decide) (by decide)
  rw [r116_law_v]
  apply seq_all fun e => ∃ (k : Int) (c2 c6 c8 c9 c10 c11 c13 c15 c16 c17 c18 c19 c20 c21 c22 : Option O), 0 ≤ k ∧ k < n ∧ e = [some (.val (ns)), some (.val (.src)), c2, some (.val (Fr n rs)), some (.val (.int n)), some (.val (.str (shown (Fr n rs)))), c6, some (.val (T one)), c8, c9, c10, c11, some (Ow marks), c13, some (.val (.int k)), c15, c16, c17, c18, c19, c20, c21, c22]
  · intro D' hD
    simp
    exact ⟨log9 (by omega) (by omega), fun r r0 r1 => hD _ ⟨r, _, _, _, _, _, _, _, _, _, _, _, _, _, _, _, r0, by omega, rfl⟩⟩
  rintro _ ⟨k, c2, c6, c8, c9, c10, c11, c13, c15, c16, c17, c18, c19, c20, c21, c22, k0, k1, rfl⟩
  apply seq_all fun e => ∃ (o : D) (c2 c6 c8 c9 c10 c11 c13 c16 c17 c18 c19 c20 c21 c22 : Option O), Gd 2 3000 o ∧ noLst o = true ∧ e = [some (.val (ns)), some (.val (.src)), c2, some (.val (Fr n rs)), some (.val (.int n)), some (.val (.str (shown (Fr n rs)))), c6, some (.val (T one)), c8, c9, c10, c11, some (Ow marks), c13, some (.val (.int k)), some (.val (o)), c16, c17, c18, c19, c20, c21, c22]
  · intro D' hD
    simp [-law_of_v]
    refine ⟨szl (by decide), ⟨by decide, by decide, by decide⟩, szl (by decide), ?_⟩
    rw [law_of_v]
    refine ⟨by simp, by simp, fun x hx => ?_⟩
    have key : Gd 2 3000 x ∧ noLst x = true := by
      simp only [List.mem_cons, List.not_mem_nil, or_false] at hx
      rcases hx with rfl | rfl | rfl | rfl | rfl | rfl | rfl | rfl | rfl | rfl
      · exact ⟨⟨by decide +kernel, by decide +kernel, by decide +kernel⟩, by decide +kernel⟩
      · exact ⟨⟨by decide +kernel, by decide +kernel, by decide +kernel⟩, by decide +kernel⟩
      · exact ⟨⟨by decide +kernel, by decide +kernel, by decide +kernel⟩, by decide +kernel⟩
      · exact ⟨Gd.int (by omega) (by decide), rfl⟩
      · exact ⟨⟨by decide +kernel, by decide +kernel, by decide +kernel⟩, by decide +kernel⟩
      · exact ⟨⟨by decide +kernel, by decide +kernel, by decide +kernel⟩, by decide +kernel⟩
      · exact ⟨⟨by decide +kernel, by decide +kernel, by decide +kernel⟩, by decide +kernel⟩
      · exact ⟨⟨by decide +kernel, by decide +kernel, by decide +kernel⟩, by decide +kernel⟩
      · exact ⟨⟨by decide +kernel, by decide +kernel, by decide +kernel⟩, by decide +kernel⟩
      · exact ⟨⟨by decide +kernel, by decide +kernel, by decide +kernel⟩, by decide +kernel⟩
    simp [key.2]
    exact hD _ ⟨x, _, _, _, _, _, _, _, _, _, _, _, _, _, _, key.1, key.2, rfl⟩
  rintro _ ⟨o, c2, c6, c8, c9, c10, c11, c13, c16, c17, c18, c19, c20, c21, c22, go, lno, rfl⟩
  apply seq_all fun e => ∃ (os : List O) (c2 c6 c8 c9 c10 c11 c13 c14 c15 c17 c18 c19 c20 c21 c22 : Option O), (∀ d ∈ O.ds os, Gd 4 1000000 d) ∧ os.length ≤ 20 ∧ e = [some (.val (ns)), some (.val (.src)), c2, some (.val (Fr n rs)), some (.val (.int n)), some (.val (.str (shown (Fr n rs)))), c6, some (.val (T one)), c8, c9, c10, c11, some (Ow marks), c13, c14, c15, some (.lst os), c17, c18, c19, c20, c21, c22]
  · intro D' hD
    have c1 := cut_len one none (some k)
    have c3 := cut_len one (some (k + 1)) none
    have c4 := cut_len one (some 1) none
    have e0 : O.lst (one.map fun a => O.val (Enc.enc a)) = Ow one := rfl
    have t1 : T one = .tup (one.map Enc.enc) := rfl
    simp [rep_T, tup1]
    refine ⟨szl (by decide), szl (by omega), szl (by decide), ?_⟩
    rw [T_def (cut one none (some k)), addD_tup]
    refine ⟨szl (by simp; omega), ?_⟩
    simp only [O.d_val]
    rw [T_def (cut one (some (k + 1)) none), addD_tup]
    have gm : Gd 3 1000000 (.tup ((cut one none (some k)).map Enc.enc ++ [o] ++ (cut one (some (k + 1)) none).map Enc.enc)) := by
      have gi : ∀ (lo hi : Option Int), Gds 2 3000 ((cut one lo hi).map Enc.enc) := fun lo hi x hx => by
        obtain ⟨y, hy, rfl⟩ := List.mem_map.mp hx
        exact Gd.int (so y (cut_sub _ _ _ y hy)) (by decide)
      refine (Gd.tup (((gi none (some k)).app (Gds.cons go Gds.nil)).app (gi (some (k + 1)) none))).mono (Nat.le_refl 3) ?_
      simp
      omega
    refine ⟨szl (by simp; omega), szl (by decide), by omega, szl (by decide), ?_, hD _ ⟨_, _, _, _, _, _, _, _, _, _, _, _, _, _, _, _, fun d hd => ?_, by simp, rfl⟩⟩
    · show noLst (D.tup _) = true
      rw [noLst_tup, noLsts_iff]
      intro x hx
      rcases List.mem_append.mp hx with hx | hx
      · rcases List.mem_append.mp hx with hx | hx
        · obtain ⟨y, _, rfl⟩ := List.mem_map.mp hx
          rfl
        · rw [List.mem_singleton.mp hx]
          exact lno
      · obtain ⟨y, _, rfl⟩ := List.mem_map.mp hx
        rfl
    · simp only [O.ds_cons, O.d_val, Ow_d, O.ds_nil, List.mem_cons, List.not_mem_nil, or_false] at hd
      rcases hd with rfl | rfl | rfl | rfl | rfl | rfl | rfl | rfl | rfl | rfl
      · exact smallG (by omega) so
      · exact smallG (by rw [List.length_reverse]; omega) fun x hx => so x (List.mem_reverse.mp hx)
      · exact (Gd.L (k := 3) so).mono (Nat.le_refl _) (by omega)
      · exact smallG (by omega) fun x hx => so x (cut_sub _ _ _ x hx)
      · exact smallG (by simp; omega) fun x hx => by
          rcases List.mem_append.mp hx with h | h
          · exact so x h
          · simp at h; omega
      · exact gm.mono (by decide) (Nat.le_refl _)
      · exact smallG (by rw [List.length_replicate]; omega) fun x hx => by rw [(List.mem_replicate.mp hx).2]; decide
      · exact Gd.non (by decide)
      · exact ⟨by decide +kernel, by decide +kernel, by decide +kernel⟩
      · exact Gd.int (by decide) (by decide)
  rintro _ ⟨os, c2, c6, c8, c9, c10, c11, c13, c14, c15, c17, c18, c19, c20, c21, c22, hg, hol, rfl⟩
  rw [r119_law_v]
  apply seq_all fun e => ∃ c2 c6 c7 c8 c9 c10 c11 c12 c13 c14 c15 c16 c17 c18 c19 c20 c21 c22 : Option O, e = [some (.val (ns)), some (.val (.src)), c2, some (.val (Fr n rs)), some (.val (.int n)), some (.val (.str (shown (Fr n rs)))), c6, c7, c8, c9, c10, c11, c12, c13, c14, c15, c16, c17, c18, c19, c20, c21, c22]
  · intro D' hD
    simp [frz, rep_T, addD_lst, RgOk, -loopD_cons]
    refine ⟨szl (by decide), by omega, by omega, szl (by decide), szl (by rw [O.ds_length]; omega), ?_⟩
    refine vals_law h1 (fun c2 c6 c7 c8 c9 c10 c11 c12 c13 c14 c15 c16 c17 c18 c19 c20 c21 c22 => hD _ ⟨_, _, _, _, _, _, _, _, _, _, _, _, _, _, _, _, _, _, rfl⟩) _ fun d hd => ?_
    have e : O.ds (List.map O.val (O.ds os) ++ [O.val (T marks), O.val (T (List.replicate n.toNat (0 : Int))), O.val (T (rngI 0 n)), O.val (D.str "0"), O.val (D.dct false [] [])]) = O.ds os ++ [T marks, T (List.replicate n.toNat (0 : Int)), T (rngI 0 n), D.str "0", D.dct false [] []] := by
      rw [show ([O.val (T marks), O.val (T (List.replicate n.toNat (0 : Int))), O.val (T (rngI 0 n)), O.val (D.str "0"), O.val (D.dct false [] [])] : List O) = [T marks, T (List.replicate n.toNat (0 : Int)), T (rngI 0 n), D.str "0", D.dct false [] []].map O.val from rfl, ← List.map_append, ds_vals]
    rw [e] at hd
    rcases List.mem_append.mp hd with hd | hd
    · exact hg d hd
    · simp only [List.mem_cons, List.not_mem_nil, or_false] at hd
      rcases hd with rfl | rfl | rfl | rfl | rfl
      · exact smallG (by omega) fun x hx => by have := hm.2 x hx; omega
      · exact smallG (by rw [List.length_replicate]; omega) fun x hx => by rw [(List.mem_replicate.mp hx).2]; decide
      · exact smallG (by rw [rngI_length]; omega) fun x hx => by rw [mem_rngI] at hx; omega
      · exact ⟨by decide +kernel, by decide +kernel, by decide +kernel⟩
      · exact ⟨by decide +kernel, by decide +kernel, by decide +kernel⟩
  rintro _ ⟨c2, c6, c7, c8, c9, c10, c11, c12, c13, c14, c15, c16, c17, c18, c19, c20, c21, c22, rfl⟩
  simp at r1 r2 r3
  simp [r1, r2, r3]
  exact hD _ _ _ _ _ _ _ _ _ _ _ _ _ _ _ _ _ _
theorem marks_law {De : DEnds} {Ee : SEX} {ns : D} {n : Int} {rs : List (Int × Int)} {one : List Int} (h : RdsOk n rs) (h0 : 1 ≤ n) (h1 : n ≤ 10) (h2 : rs.length ≤ 14) (ho : Pc n one) {c2 c6 c8 c9 c10 c11 c12 c13 c14 c15 c16 c17 c18 c19 c20 c21 c22 : Option O}
    (hD : ∀ c2 c6 c7 c8 c9 c10 c11 c12 c13 c14 c15 c16 c17 c18 c19 c20 c21 c22 : Option O, De.nx [some (.val (ns)), some (.val (.src)), c2, some (.val (Fr n rs)), some (.val (.int n)), some (.val (.str (shown (Fr n rs)))), c6, c7, c8, c9, c10, c11, c12, c13, c14, c15, c16, c17, c18, c19, c20, c21, c22]) : r110_law [some (.val (ns)), some (.val (.src)), c2, some (.val (Fr n rs)), some (.val (.int n)), some (.val (.str (shown (Fr n rs)))), c6, some (.val (T one)), c8, c9, c10, c11, c12, c13, c14, c15, c16, c17, c18, c19, c20, c21, c22] De Ee := by
  have lo := ho.ok.1
  have hm0 := mxI_nn one
  have hmc := mxI_canon ho.ok ho.c (ho.ne h0)
  rw [r110_law_v]
  apply seq_all fun e => ∃ (marks : List Int) (c2 c6 c8 c9 c10 c11 c13 c14 c15 c16 c17 c18 c19 c20 c21 c22 : Option O), marks.length = n.toNat ∧ (∀ x ∈ marks, x.natAbs ≤ 10) ∧ e = [some (.val (ns)), some (.val (.src)), c2, some (.val (Fr n rs)), some (.val (.int n)), some (.val (.str (shown (Fr n rs)))), c6, some (.val (T one)), c8, c9, c10, c11, some (Ow marks), c13, c14, c15, c16, c17, c18, c19, c20, c21, c22]
  · intro D' hD
    simp [rng_I]
    refine ⟨in62_of (by omega) (by omega), lcD_any (α := Int) (β := Int) (fun x => x.natAbs ≤ 10) (rngI 0 n) [] (by simp) (fun a ha R hR => ?_) (by simp; rw [sizeLine_eq]; omega) fun r os h2 h3 e1 e2 e3 e4 e5 => ?_⟩
    · simp
      exact ⟨by decide, fun r _ _ => hR _ (by omega)⟩
    · simp only [List.length_nil, rngI_length] at h2
      refine ⟨e5 inferInstance, ?_⟩
      rw [e1]
      exact hD _ ⟨r, _, _, _, _, _, _, _, _, _, _, _, _, _, _, _, _, by omega, h3, rfl⟩
  rintro _ ⟨marks, c2, c6, c8, c9, c10, c11, c13, c14, c15, c16, c17, c18, c19, c20, c21, c22, ml, ms, rfl⟩
  have gm : Gd 1 1000000 (T (tp marks)) := smallG (by rw [tp_len]; omega) fun x hx => by
    have := tp_mem.mp hx
    have := firsts_len marks
    omega
  apply seq_to (env' := [some (.val (ns)), some (.val (.src)), c2, some (.val (Fr n rs)), some (.val (.int n)), some (.val (.str (shown (Fr n rs)))), c6, some (.val (T one)), c8, c9, c10, c11, some (Ow marks), c13, c14, c15, c16, c17, c18, c19, c20, c21, c22])
  · intro D' hD
    obtain ⟨r1, r2, r3⟩ := (Gd.lst (Gds.cons gm (Gds.cons gm Gds.nil))).rep (by decide) (by simp)
    simp at r1 r2 r3
    simp
    refine told_parts_ofL (by omega) (told_parts_of (by omega) ?_)
    simp [r1, r2, r3]
    refine ⟨szl (by decide), law_told_parts_ofL (by omega) ?_⟩
    simp [r1, r2, r3]
    exact ⟨szl (by decide), szl (by decide), hD⟩
  rw [r113_law_v]
  apply seq_all fun e => ∃ c2 c6 c8 c9 c10 c11 c13 c14 c15 c16 c17 c18 c19 c20 c21 c22 : Option O, e = [some (.val (ns)), some (.val (.src)), c2, some (.val (Fr n rs)), some (.val (.int n)), some (.val (.str (shown (Fr n rs)))), c6, some (.val (T one)), c8, c9, c10, c11, some (Ow marks), c13, c14, c15, c16, c17, c18, c19, c20, c21, c22]
  · intro D' hD
    simp [rng_I]
    refine ⟨in62_of (by omega) (by omega), ?_⟩
    refine loop_any (fun e => ∃ c2 c6 c8 c9 c10 c11 c13 c14 c15 c16 c17 c18 c19 c20 c21 c22 : Option O, e = [some (.val (ns)), some (.val (.src)), c2, some (.val (Fr n rs)), some (.val (.int n)), some (.val (.str (shown (Fr n rs)))), c6, some (.val (T one)), c8, c9, c10, c11, some (Ow marks), c13, c14, c15, c16, c17, c18, c19, c20, c21, c22]) (fun d => ∃ c : Int, d = .int c ∧ 0 ≤ c ∧ c < n) ?_ ?_ _ _ (fun d hd => ?_) ⟨_, _, _, _, _, _, _, _, _, _, _, _, _, _, _, _, rfl⟩
    · rintro _ _ ⟨c, rfl, c0, c1⟩ ⟨c2, c6, c8, c9, c10, c11, c13, c14, c15, c16, c17, c18, c19, c20, c21, c22, rfl⟩
      refine ⟨[some (.val (ns)), some (.val (.src)), c2, some (.val (Fr n rs)), some (.val (.int n)), some (.val (.str (shown (Fr n rs)))), c6, some (.val (T one)), c8, c9, c10, c11, some (Ow marks), some (.val (.int c)), c14, c15, c16, c17, c18, c19, c20, c21, c22], by simp, fun N hN => ?_⟩
      have gb : Gd 1 1000000 (T (byp n rs one c.toNat)) := smallG (by rw [byp_len]; omega) fun x hx => by have := byp_bd x hx; omega
      obtain ⟨r1, r2, r3⟩ := gb.rep (by decide) (by simp)
      simp [b2_law_v]
      refine ends_by_parts_of h (by omega) (by omega) ho.ok c0 c1 ?_
      simp [r1, r2, r3]
      refine law_by_parts_of h (by omega) (by omega) ho.ok c0 c1 ?_
      simp [r1, r2, r3]
      exact hN _ ⟨_, _, _, _, _, _, _, _, _, _, _, _, _, _, _, _, rfl⟩
    · rintro _ ⟨c2, c6, c8, c9, c10, c11, c13, c14, c15, c16, c17, c18, c19, c20, c21, c22, rfl⟩
      exact hD _ ⟨_, _, _, _, _, _, _, _, _, _, _, _, _, _, _, _, rfl⟩
    · obtain ⟨i, hi, rfl⟩ := List.mem_map.mp hd
      rw [mem_rngI] at hi
      exact ⟨i, rfl, hi.1, hi.2⟩
  rintro _ ⟨c2, c6, c8, c9, c10, c11, c13, c14, c15, c16, c17, c18, c19, c20, c21, c22, rfl⟩
  exact tail_law h h0 h1 h2 ho ⟨ml, ms⟩ hD
def FnOk2 (d : D) : Prop := ∃ a b : List Int, d = .tup [T a, T b] ∧ a.length = b.length ∧ a ≠ [] ∧ a.length ≤ 100 ∧ (∀ x ∈ a, 0 ≤ x) ∧ mxI a + 1 = (firsts a).length
theorem rough_ok {n : Int} {p : List Int} (h : Pc n p) (h0 : 1 ≤ n) : mxI (p.map fun x => min x 1) + 1 = (firsts (p.map fun x => min x 1)).length := by
  have hn := h.ne h0
  have z : (0 : Int) ∈ p := by
    have := (part_at (j := 0) h.c hn (by decide) (mxI_nn p)).1
    exact this
  have z' : (0 : Int) ∈ p.map fun x => min x 1 := List.mem_map.mpr ⟨0, z, rfl⟩
  have b : ∀ x ∈ p.map fun x => min x 1, x = 0 ∨ x = 1 := fun x hx => by
    obtain ⟨y, hy, rfl⟩ := List.mem_map.mp hx
    have := h.ok.2 y hy
    omega
  generalize p.map (fun x => min x 1) = r at *
  by_cases o : (1 : Int) ∈ r
  · have e : (1 : Int) = mxI r := mxI_of (by decide) o fun y hy => by have := b y hy; omega
    have l1 := nodup_le (a := firsts r) (b := [0, 1]) (firsts_nodup r) fun x hx => by have := b x (firsts_mem.mp hx); simp; exact this
    have l2 := nodup_le (a := [0, 1]) (b := firsts r) (by decide) fun x hx => by
      simp at hx
      rcases hx with rfl | rfl
      · exact firsts_mem.mpr z'
      · exact firsts_mem.mpr o
    simp at l1 l2
    omega
  · have e : (0 : Int) = mxI r := mxI_of (by decide) z' fun y hy => by
      rcases b y hy with q | q
      · omega
      · rw [q] at hy; exact absurd hy o
    have l1 := nodup_le (a := firsts r) (b := [0]) (firsts_nodup r) fun x hx => by
      have hx := firsts_mem.mp hx
      rcases b x hx with q | q
      · simp [q]
      · rw [q] at hx; exact absurd hx o
    have l2 := nodup_le (a := [0]) (b := firsts r) (by decide) fun x hx => by
      simp at hx
      rw [hx]
      exact firsts_mem.mpr z'
    simp at l1 l2
    omega
theorem Pc.fn {n : Int} {a b : List Int} (h : Pc n a) (h0 : 1 ≤ n) (h1 : n ≤ 100) (hl : a.length = b.length) : FnOk2 (.tup [T a, T b]) := by
  have l := h.ok.1
  refine ⟨a, b, rfl, hl, h.ne h0, by omega, fun x hx => (h.ok.2 x hx).1, ?_⟩
  have := mxI_tp (h.ne h0)
  rw [h.c] at this
  exact this
theorem fine3_law {De : DEnds} {Ee : SEX} {ns : D} {n : Int} {rs : List (Int × Int)} {one other rough : List Int} (q1 : rough.length = one.length) (q2 : rough ≠ []) (q3 : ∀ x ∈ rough, 0 ≤ x) (q4 : mxI rough + 1 = (firsts rough).length) (h : RdsOk n rs) (h0 : 1 ≤ n) (h1 : n ≤ 10) (h2 : rs.length ≤ 14) (p1 : Pc n one) (p2 : Pc n other) {c2 c6 c10 c11 c12 c13 c14 c15 c16 c17 c18 c19 c20 c21 c22 : Option O}
    (hD : ∀ c2 c6 c7 c8 c9 c10 c11 c12 c13 c14 c15 c16 c17 c18 c19 c20 c21 c22 : Option O, De.nx [some (.val (ns)), some (.val (.src)), c2, some (.val (Fr n rs)), some (.val (.int n)), some (.val (.str (shown (Fr n rs)))), c6, c7, c8, c9, c10, c11, c12, c13, c14, c15, c16, c17, c18, c19, c20, c21, c22]) : r107_law [some (.val (ns)), some (.val (.src)), c2, some (.val (Fr n rs)), some (.val (.int n)), some (.val (.str (shown (Fr n rs)))), c6, some (.val (T one)), some (.val (T other)), some (.val (T rough)), c10, c11, c12, c13, c14, c15, c16, c17, c18, c19, c20, c21, c22] De Ee := by
  rw [r107_law_v]
  have l1 := p1.ok.1
  have l2 := p2.ok.1
  apply seq_all fun e => ∃ c2 c6 c8 c9 c10 c11 c12 c13 c14 c15 c16 c17 c18 c19 c20 c21 c22 : Option O, e = [some (.val (ns)), some (.val (.src)), c2, some (.val (Fr n rs)), some (.val (.int n)), some (.val (.str (shown (Fr n rs)))), c6, some (.val (T one)), c8, c9, c10, c11, c12, c13, c14, c15, c16, c17, c18, c19, c20, c21, c22]
  · intro D' hD
    refine sFor_items [.tup [T one, T other], .tup [T other, T one], .tup [T one, T rough], .tup [T one, T one], .tup [T rough, T (List.replicate n.toNat (0 : Int))]] (fun R hR => ?_) ?_
    · simp -implicitDefEqProofs [rep_T]
      exact ⟨szl (by decide), szl (by decide), by omega, szl (by decide), szl (by decide), hR⟩
    refine loop_any (fun e => ∃ c2 c6 c8 c9 c10 c11 c12 c13 c14 c15 c16 c17 c18 c19 c20 c21 c22 : Option O, e = [some (.val (ns)), some (.val (.src)), c2, some (.val (Fr n rs)), some (.val (.int n)), some (.val (.str (shown (Fr n rs)))), c6, some (.val (T one)), c8, c9, c10, c11, c12, c13, c14, c15, c16, c17, c18, c19, c20, c21, c22]) FnOk2 ?_ ?_ _ _ (fun d hd => ?_) ⟨_, _, _, _, _, _, _, _, _, _, _, _, _, _, _, _, _, rfl⟩
    · rintro _ _ ⟨a, b, rfl, q1, q2, q3, q4, q5⟩ ⟨c2, c6, c8, c9, c10, c11, c12, c13, c14, c15, c16, c17, c18, c19, c20, c21, c22, rfl⟩
      refine ⟨[some (.val (ns)), some (.val (.src)), c2, some (.val (Fr n rs)), some (.val (.int n)), some (.val (.str (shown (Fr n rs)))), c6, some (.val (T one)), c8, c9, some (.val (T a)), some (.val (T b)), c12, c13, c14, c15, c16, c17, c18, c19, c20, c21, c22], by simp, fun N hN => ?_⟩
      simp [b1_law_v]
      refine is_finer_of q1 q2 (by omega) q4 q5 ?_
      simp
      refine ⟨szl (by decide), law_is_finer_of q1 (by omega) ?_⟩
      simp
      exact ⟨szl (by decide), hN _ ⟨_, _, _, _, _, _, _, _, _, _, _, _, _, _, _, _, _, rfl⟩⟩
    · rintro _ ⟨c2, c6, c8, c9, c10, c11, c12, c13, c14, c15, c16, c17, c18, c19, c20, c21, c22, rfl⟩
      exact hD _ ⟨_, _, _, _, _, _, _, _, _, _, _, _, _, _, _, _, _, rfl⟩
    · simp only [List.mem_cons, List.not_mem_nil, or_false] at hd
      rcases hd with rfl | rfl | rfl | rfl | rfl
      · exact p1.fn h0 (by omega) (by omega)
      · exact p2.fn h0 (by omega) (by omega)
      · exact p1.fn h0 (by omega) q1.symm
      · exact p1.fn h0 (by omega) rfl
      · exact ⟨_, _, rfl, by rw [List.length_replicate]; omega, q2, by omega, q3, q4⟩
  rintro _ ⟨c2, c6, c8, c9, c10, c11, c12, c13, c14, c15, c16, c17, c18, c19, c20, c21, c22, rfl⟩
  exact marks_law h h0 h1 h2 p1 hD
theorem fine2_law {De : DEnds} {Ee : SEX} {ns : D} {n : Int} {rs : List (Int × Int)} {one other : List Int} (h : RdsOk n rs) (h0 : 1 ≤ n) (h1 : n ≤ 10) (h2 : rs.length ≤ 14) (p1 : Pc n one) (p2 : Pc n other) {c2 c6 c9 c10 c11 c12 c13 c14 c15 c16 c17 c18 c19 c20 c21 c22 : Option O}
    (hD : ∀ c2 c6 c7 c8 c9 c10 c11 c12 c13 c14 c15 c16 c17 c18 c19 c20 c21 c22 : Option O, De.nx [some (.val (ns)), some (.val (.src)), c2, some (.val (Fr n rs)), some (.val (.int n)), some (.val (.str (shown (Fr n rs)))), c6, c7, c8, c9, c10, c11, c12, c13, c14, c15, c16, c17, c18, c19, c20, c21, c22]) : r106_law [some (.val (ns)), some (.val (.src)), c2, some (.val (Fr n rs)), some (.val (.int n)), some (.val (.str (shown (Fr n rs)))), c6, some (.val (T one)), some (.val (T other)), c9, c10, c11, c12, c13, c14, c15, c16, c17, c18, c19, c20, c21, c22] De Ee := by
  rw [r106_law_v]
  have l1 := p1.ok.1
  have l2 := p2.ok.1
  apply seq_all fun e => ∃ (c2 c6 c10 c11 c12 c13 c14 c15 c16 c17 c18 c19 c20 c21 c22 : Option O), e = [some (.val (ns)), some (.val (.src)), c2, some (.val (Fr n rs)), some (.val (.int n)), some (.val (.str (shown (Fr n rs)))), c6, some (.val (T one)), some (.val (T other)), some (.val (T (one.map fun x => min x 1))), c10, c11, c12, c13, c14, c15, c16, c17, c18, c19, c20, c21, c22]
  · intro D' hD
    simp
    refine lcD_typed (α := Int) (β := Int) (fun _ => true) (fun x => min x 1) one [] (fun x hx R R' hR => ?_) (by simp; rw [sizeLine_eq]; omega) fun os e1 e2 e3 e4 e5 => ?_
    · simp at hR
      simp
      exact hR
    · rw [e2]
      simp only [List.nil_append, filter_tt]
      exact ⟨noLsts_of e4, hD _ ⟨_, _, _, _, _, _, _, _, _, _, _, _, _, _, _, rfl⟩⟩
  rintro _ ⟨c2, c6, c10, c11, c12, c13, c14, c15, c16, c17, c18, c19, c20, c21, c22, rfl⟩
  refine fine3_law (by simp) (by rw [ne_eq, List.map_eq_nil_iff]; exact p1.ne h0) (fun x hx => ?_) (rough_ok p1 h0) h h0 h1 h2 p1 p2 hD
  obtain ⟨y, hy, rfl⟩ := List.mem_map.mp hx
  have := p1.ok.2 y hy
  omega
theorem fine_law {De : DEnds} {Ee : SEX} {ns : D} {n : Int} {rs : List (Int × Int)} (h : RdsOk n rs) (h0 : 1 ≤ n) (h1 : n ≤ 10) (h2 : rs.length ≤ 14) {c2 c6 c7 c8 c9 c10 c11 c12 c13 c14 c15 c16 c17 c18 c19 c20 c21 c22 : Option O}
    (hD : ∀ c2 c6 c7 c8 c9 c10 c11 c12 c13 c14 c15 c16 c17 c18 c19 c20 c21 c22 : Option O, De.nx [some (.val (ns)), some (.val (.src)), c2, some (.val (Fr n rs)), some (.val (.int n)), some (.val (.str (shown (Fr n rs)))), c6, c7, c8, c9, c10, c11, c12, c13, c14, c15, c16, c17, c18, c19, c20, c21, c22]) : r105_law [some (.val (ns)), some (.val (.src)), c2, some (.val (Fr n rs)), some (.val (.int n)), some (.val (.str (shown (Fr n rs)))), c6, c7, c8, c9, c10, c11, c12, c13, c14, c15, c16, c17, c18, c19, c20, c21, c22] De Ee := by
  rw [r105_law_v]
  apply seq_all fun e => ∃ (one other : List Int) (c2 c6 c9 c10 c11 c12 c13 c14 c15 c16 c17 c18 c19 c20 c21 c22 : Option O), Pc n one ∧ Pc n other ∧ e = [some (.val (ns)), some (.val (.src)), c2, some (.val (Fr n rs)), some (.val (.int n)), some (.val (.str (shown (Fr n rs)))), c6, some (.val (T one)), some (.val (T other)), c9, c10, c11, c12, c13, c14, c15, c16, c17, c18, c19, c20, c21, c22]
  · intro D' hD
    simp
    refine law_parting_of (by omega) (by omega) fun l hl => law_parting_of (by omega) (by omega) fun l2 hl2 => ?_
    simp
    exact hD _ ⟨tp l, tp l2, _, _, _, _, _, _, _, _, _, _, _, _, _, _, _, _, ⟨tp_ok hl (by omega), tp_tp l⟩, ⟨tp_ok hl2 (by omega), tp_tp l2⟩, rfl⟩
  rintro _ ⟨one, other, c2, c6, c9, c10, c11, c12, c13, c14, c15, c16, c17, c18, c19, c20, c21, c22, p1, p2, rfl⟩
  exact fine2_law h h0 h1 h2 p1 p2 hD
theorem end_law {De : DEnds} {Ee : SEX} {ns : D} {n e : Int} {rs : List (Int × Int)} (h : RdsOk n rs) (h0 : 1 ≤ n) (h1 : n ≤ 10) (h2 : rs.length ≤ 14) (e0 : 0 ≤ e) (e1 : e < 2 * (rs.length : Int)) {c2 c7 c8 c9 c10 c11 c12 c13 c14 c15 c16 c17 c18 c19 c20 c21 c22 : Option O}
    (hN : ∀ c2 c6 c7 c8 c9 c10 c11 c12 c13 c14 c15 c16 c17 c18 c19 c20 c21 c22 : Option O, De.nx [some (.val (ns)), some (.val (.src)), c2, some (.val (Fr n rs)), some (.val (.int n)), some (.val (.str (shown (Fr n rs)))), c6, c7, c8, c9, c10, c11, c12, c13, c14, c15, c16, c17, c18, c19, c20, c21, c22]) : b0_law [some (.val (ns)), some (.val (.src)), c2, some (.val (Fr n rs)), some (.val (.int n)), some (.val (.str (shown (Fr n rs)))), some (.val (.int e)), c7, c8, c9, c10, c11, c12, c13, c14, c15, c16, c17, c18, c19, c20, c21, c22] De Ee := by
  obtain ⟨c, a1, a2, a3⟩ := atE_some h e0 e1
  obtain ⟨d, b1, b2, b3⟩ := toE_some h e0 e1
  rw [b0_law_v]
  apply seq_all fun ev => ∃ (H : List Int) (c2 c7 c8 c9 c10 c11 c12 c13 c14 c15 c16 c17 c19 c20 c21 c22 : Option O), H ≠ [] ∧ (∀ x ∈ H, x = c) ∧ ev = [some (.val (ns)), some (.val (.src)), c2, some (.val (Fr n rs)), some (.val (.int n)), some (.val (.str (shown (Fr n rs)))), some (.val (.int e)), c7, c8, c9, c10, c11, c12, c13, c14, c15, c16, c17, some (Ow H), c19, c20, c21, c22]
  · intro D' hD
    simp [rng_I]
    refine ⟨in62_of (by omega) (by omega), ?_⟩
    refine lcD_typed (α := Int) (β := Int) (fun x => decide (e ∈ (std n rs).getD x.toNat [])) (fun x => x) (rngI 0 n) [] (fun x hx R R' hR => ?_) (by simp; rw [sizeLine_eq]; omega) fun os e1 e2 e3 e4 e5 => ?_
    · rw [mem_rngI] at hx
      have hl : x.toNat < (std n rs).length := by rw [std_len]; omega
      have hget : (std n rs).getD x.toNat [] = (std n rs)[x.toNat] := by simp [List.getD_eq_getElem?_getD, List.getElem?_eq_getElem hl]
      rw [hget] at hR
      simp
      refine law_standing_of h (by omega) (by omega) (by omega) ?_
      simp [atI_pos _ hx.1]
      refine ⟨_, List.getElem?_eq_getElem hl, ?_⟩
      rw [inXD_LI]
      simp at hR ⊢
      exact hR
    · refine ⟨e5 inferInstance, ?_⟩
      rw [e1]
      refine hD _ ⟨_, _, _, _, _, _, _, _, _, _, _, _, _, _, _, _, _, ?_, ?_, rfl⟩
      · have : c ∈ ([] : List Int) ++ ((rngI 0 n).filter fun x => decide (e ∈ (std n rs).getD x.toNat [])).map fun x => x := by
          simp only [List.nil_append, List.map_id', List.mem_filter, mem_rngI, decide_eq_true_eq]
          refine ⟨⟨a2, a3⟩, (std_mem h (by omega)).mpr ⟨e0, by omega, by omega, ?_⟩⟩
          rw [a1, show ((c.toNat : Nat) : Int) = c by omega]
        exact List.ne_nil_of_mem this
      · intro x hx
        simp only [List.nil_append, List.map_id', List.mem_filter, mem_rngI, decide_eq_true_eq] at hx
        have := (std_mem h (by omega)).mp hx.2
        rw [a1] at this
        have := Option.some.inj this.2.2.2
        omega
  rintro _ ⟨H, c2, c7, c8, c9, c10, c11, c12, c13, c14, c15, c16, c17, c19, c20, c21, c22, hn, hc, rfl⟩
  apply seq_to (env' := [some (.val (ns)), some (.val (.src)), c2, some (.val (Fr n rs)), some (.val (.int n)), some (.val (.str (shown (Fr n rs)))), some (.val (.int e)), c7, c8, c9, c10, c11, c12, c13, c14, c15, c16, c17, some (Ow H), some (.val (.int (bkE e))), c20, c21, c22])
  · intro D' hD
    have : bkE e = if e - e / 2 * 2 = 0 then e + 1 else e - 1 := by
      unfold bkE
      split <;> omega
    simp
    refine ⟨by decide, .inl (.inr (by decide)), ?_⟩
    rw [this] at hD
    split
    · rw [if_pos (by assumption)] at hD
      exact hD
    · rw [if_neg (by assumption)] at hD
      exact hD
  obtain ⟨x, H', rfl⟩ : ∃ x H', H = x :: H' := by
    cases H with
    | nil => exact absurd rfl hn
    | cons x H' => exact ⟨x, H', rfl⟩
  have hx := hc x (by simp)
  subst hx
  have bk := bkE_range e0 e1
  obtain ⟨s1, s2, s3⟩ := (Gd.lst (k := 0) (c := 10) (ds := [.int (bkE e), .int x, .int d]) (Gds.cons (Gd.int (by omega) (by decide)) (Gds.cons (Gd.int (by omega) (by decide)) (Gds.cons (Gd.int (by omega) (by decide)) Gds.nil)))).rep (by decide) (by simp)
  simp at s1 s2 s3
  apply seq_to (env' := [some (.val (ns)), some (.val (.src)), c2, some (.val (Fr n rs)), some (.val (.int n)), some (.val (.str (shown (Fr n rs)))), some (.val (.int e)), c7, c8, c9, c10, c11, c12, c13, c14, c15, c16, c17, some (Ow (x :: H')), some (.val (.int (bkE e))), some (.lst [.val (.int (bkE e)), .val (.int x), .val (.int d)]), c21, c22])
  · intro D' hD
    simp
    refine stands_at_of e0 a1 (leads_to_of e0 b1 ?_)
    simp
    exact ⟨szl (by decide), hD⟩
  simp [s1, s2, s3]
  refine law_leads_of e0 b1 ?_
  simp [s1, s2, s3]
  exact ⟨szl (by decide), hN _ _ _ _ _ _ _ _ _ _ _ _ _ _ _ _ _ _⟩
theorem ends_law {De : DEnds} {Ee : SEX} {ns : D} {n : Int} {rs : List (Int × Int)} (h : RdsOk n rs) (h0 : 1 ≤ n) (h1 : n ≤ 10) (h2 : rs.length ≤ 14) {c2 c6 c7 c8 c9 c10 c11 c12 c13 c14 c15 c16 c17 c18 c19 c20 c21 c22 : Option O}
    (hD : ∀ c2 c6 c7 c8 c9 c10 c11 c12 c13 c14 c15 c16 c17 c18 c19 c20 c21 c22 : Option O, De.nx [some (.val (ns)), some (.val (.src)), c2, some (.val (Fr n rs)), some (.val (.int n)), some (.val (.str (shown (Fr n rs)))), c6, c7, c8, c9, c10, c11, c12, c13, c14, c15, c16, c17, c18, c19, c20, c21, c22]) : r97_law [some (.val (ns)), some (.val (.src)), c2, some (.val (Fr n rs)), some (.val (.int n)), some (.val (.str (shown (Fr n rs)))), c6, c7, c8, c9, c10, c11, c12, c13, c14, c15, c16, c17, c18, c19, c20, c21, c22] De Ee := by
  obtain ⟨r1, r2, r3⟩ := (LLG (by omega) (by omega) h (show rs.length ≤ 100 by omega)).rep (by decide) (by decide)
  rw [r97_law_v]
  apply seq_to (env' := [some (.val (ns)), some (.val (.src)), c2, some (.val (Fr n rs)), some (.val (.int n)), some (.val (.str (shown (Fr n rs)))), c6, c7, c8, c9, c10, c11, c12, c13, c14, c15, c16, c17, c18, c19, c20, c21, c22])
  · intro D' hD
    simp
    refine standing_of h (by omega) (by omega) (by omega) ?_
    simp [r1, r2, r3]
    refine law_standing_of h (by omega) (by omega) (by omega) ?_
    simp [r1, r2, r3]
    exact hD
  rw [r99_law_v]
  apply seq_all fun e => ∃ c2 c6 c7 c8 c9 c10 c11 c12 c13 c14 c15 c16 c17 c18 c19 c20 c21 c22 : Option O, e = [some (.val (ns)), some (.val (.src)), c2, some (.val (Fr n rs)), some (.val (.int n)), some (.val (.str (shown (Fr n rs)))), c6, c7, c8, c9, c10, c11, c12, c13, c14, c15, c16, c17, c18, c19, c20, c21, c22]
  · intro D' hD
    simp [rng_I, atI_1]
    refine ⟨.inl (.inl (by decide)), in62_of (by omega) (by omega), ?_⟩
    refine loop_any (fun e => ∃ c2 c6 c7 c8 c9 c10 c11 c12 c13 c14 c15 c16 c17 c18 c19 c20 c21 c22 : Option O, e = [some (.val (ns)), some (.val (.src)), c2, some (.val (Fr n rs)), some (.val (.int n)), some (.val (.str (shown (Fr n rs)))), c6, c7, c8, c9, c10, c11, c12, c13, c14, c15, c16, c17, c18, c19, c20, c21, c22]) (fun d => ∃ e : Int, d = .int e ∧ 0 ≤ e ∧ e < 2 * (rs.length : Int)) ?_ ?_ _ _ (fun d hd => ?_) ⟨_, _, _, _, _, _, _, _, _, _, _, _, _, _, _, _, _, _, rfl⟩
    · rintro _ _ ⟨e, rfl, e0, e1⟩ ⟨c2, c6, c7, c8, c9, c10, c11, c12, c13, c14, c15, c16, c17, c18, c19, c20, c21, c22, rfl⟩
      refine ⟨[some (.val (ns)), some (.val (.src)), c2, some (.val (Fr n rs)), some (.val (.int n)), some (.val (.str (shown (Fr n rs)))), some (.val (.int e)), c7, c8, c9, c10, c11, c12, c13, c14, c15, c16, c17, c18, c19, c20, c21, c22], by simp, fun N hN => ?_⟩
      exact end_law h h0 h1 h2 e0 e1 fun c2 c6 c7 c8 c9 c10 c11 c12 c13 c14 c15 c16 c17 c18 c19 c20 c21 c22 => hN _ ⟨_, _, _, _, _, _, _, _, _, _, _, _, _, _, _, _, _, _, rfl⟩
    · rintro _ ⟨c2, c6, c7, c8, c9, c10, c11, c12, c13, c14, c15, c16, c17, c18, c19, c20, c21, c22, rfl⟩
      exact hD _ ⟨_, _, _, _, _, _, _, _, _, _, _, _, _, _, _, _, _, _, rfl⟩
    · obtain ⟨i, hi, rfl⟩ := List.mem_map.mp hd
      rw [mem_rngI] at hi
      exact ⟨i, rfl, hi.1, by omega⟩
  rintro _ ⟨c2, c6, c7, c8, c9, c10, c11, c12, c13, c14, c15, c16, c17, c18, c19, c20, c21, c22, rfl⟩
  exact fine_law h h0 h1 h2 hD
theorem run_law : ∀ ds Q E, fs_law ds Q E → w_law (startD N_law ds) { nx := fun _ => Q (.val .non), rt := Q } (fun x _ => E x) := by
  rintro _ Q E ⟨ns, rfl, hl, hq⟩
  unfold w_law
  apply seq_to (env' := [some (.val (.scr ns)), some (.val (.src)), none, none, none, none, none, none, none, none, none, none, none, none, none, none, none, none, none, none, none, none, none])
  · intro D' hD
    simp [N_law]
    exact ⟨by rw [sizeLine_eq]; omega, hD⟩
  apply seq_all fun e => ∃ c2 c3 c4 c5 c6 c7 c8 c9 c10 c11 c12 c13 c14 c15 c16 c17 c18 c19 c20 c21 c22 : Option O, e = [some (.val (.scr ns)), some (.val (.src)), c2, c3, c4, c5, c6, c7, c8, c9, c10, c11, c12, c13, c14, c15, c16, c17, c18, c19, c20, c21, c22]
  · intro D' hD
    simp [rng_I]
    refine ⟨in62_of (by decide) (by decide), ?_⟩
    refine loop_any (fun e => ∃ c2 c3 c4 c5 c6 c7 c8 c9 c10 c11 c12 c13 c14 c15 c16 c17 c18 c19 c20 c21 c22 : Option O, e = [some (.val (.scr ns)), some (.val (.src)), c2, c3, c4, c5, c6, c7, c8, c9, c10, c11, c12, c13, c14, c15, c16, c17, c18, c19, c20, c21, c22]) (fun d => ∃ i : Int, d = .int i ∧ 0 ≤ i ∧ i < 4) ?_ ?_ _ _ (fun d hd => ?_) ⟨_, _, _, _, _, _, _, _, _, _, _, _, _, _, _, _, _, _, _, _, _, rfl⟩
    · rintro _ _ ⟨i, rfl, i0, i1⟩ ⟨c2, c3, c4, c5, c6, c7, c8, c9, c10, c11, c12, c13, c14, c15, c16, c17, c18, c19, c20, c21, c22, rfl⟩
      refine ⟨[some (.val (.scr ns)), some (.val (.src)), some (.val (.int i)), c3, c4, c5, c6, c7, c8, c9, c10, c11, c12, c13, c14, c15, c16, c17, c18, c19, c20, c21, c22], by simp, fun N hN => ?_⟩
      rw [b4_law_v]
      apply seq_all fun e => ∃ (n : Int) (rs : List (Int × Int)) (c2 c4 c5 c6 c7 c8 c9 c10 c11 c12 c13 c14 c15 c16 c17 c18 c19 c20 c21 c22 : Option O), 1 ≤ n ∧ n ≤ 10 ∧ RdsOk n rs ∧ rs.length ≤ 14 ∧ e = [some (.val (.scr ns)), some (.val (.src)), c2, some (.val (Fr n rs)), c4, c5, c6, c7, c8, c9, c10, c11, c12, c13, c14, c15, c16, c17, c18, c19, c20, c21, c22]
      · intro D' hD
        obtain ⟨m, q, m0, m1, q0, q1, e1, e2⟩ : ∃ m q : Int, 1 ≤ m ∧ m ≤ 10 ∧ 0 ≤ q ∧ q ≤ 14 ∧ atI [D.int 3, D.int 5, D.int 8, D.int 10] i = some (.int m) ∧ atI [D.int 4, D.int 7, D.int 14, D.int 14] i = some (.int q) := by
          have : i = 0 ∨ i = 1 ∨ i = 2 ∨ i = 3 := by omega
          rcases this with rfl | rfl | rfl | rfl <;> exact ⟨_, _, by decide, by decide, by decide, by decide, rfl, rfl⟩
        simp [e1, e2]
        refine ⟨szl (by decide), law_frame_of m0 (by omega) q0 (by omega) fun n rs n0 n1 ho hl => ?_⟩
        simp
        exact hD _ ⟨n, rs, _, _, _, _, _, _, _, _, _, _, _, _, _, _, _, _, _, _, _, _, n0, by omega, ho, by omega, rfl⟩
      rintro _ ⟨n, rs, c2, c4, c5, c6, c7, c8, c9, c10, c11, c12, c13, c14, c15, c16, c17, c18, c19, c20, c21, c22, n0, n1, ho, hlr, rfl⟩
      have gf := (FrG ho (by omega) (by omega)).mono (l := 3) (e := 600) (by decide) (by omega)
      obtain ⟨r1, r2, r3⟩ := gf.rep (by decide) (by decide)
      apply seq_to (env' := [some (.val (.scr ns)), some (.val (.src)), c2, some (.val (Fr n rs)), some (.val (.int n)), some (.val (.str (shown (Fr n rs)))), c6, c7, c8, c9, c10, c11, c12, c13, c14, c15, c16, c17, c18, c19, c20, c21, c22])
      · intro D' hD
        simp at r1 r2 r3
        simp [r1, r2, r3, atI_1]
        exact hD
      exact ends_law ho n0 n1 hlr fun c2 c6 c7 c8 c9 c10 c11 c12 c13 c14 c15 c16 c17 c18 c19 c20 c21 c22 => hN _ ⟨_, _, _, _, _, _, _, _, _, _, _, _, _, _, _, _, _, _, _, _, _, rfl⟩
    · rintro _ ⟨c2, c3, c4, c5, c6, c7, c8, c9, c10, c11, c12, c13, c14, c15, c16, c17, c18, c19, c20, c21, c22, rfl⟩
      exact hD _ ⟨_, _, _, _, _, _, _, _, _, _, _, _, _, _, _, _, _, _, _, _, _, rfl⟩
    · obtain ⟨i, hi, rfl⟩ := List.mem_map.mp hd
      rw [mem_rngI] at hi
      exact ⟨i, rfl, hi.1, by omega⟩
  rintro _ ⟨c2, c3, c4, c5, c6, c7, c8, c9, c10, c11, c12, c13, c14, c15, c16, c17, c18, c19, c20, c21, c22, rfl⟩
  have e1 : D.lst [.int 5, .int 3, .int 5] = L [(5 : Int), 3, 5] := rfl
  have e2 : D.tup [.int 0, .int 1, .int 0] = T [(0 : Int), 1, 0] := rfl
  simp [e1, e2]
  refine ⟨szl (by decide), told_parts_ofL (by decide) ?_⟩
  have : tp [(5 : Int), 3, 5] = [0, 1, 0] := by decide
  rw [this]
  simp
  exact ⟨szl (by decide), hq⟩
theorem law_true (ns : List Int) (h : ns.length ≤ 63) : fs_law [.scr ns] (fun o => o = .val (.bl true)) (fun _ => False) := ⟨ns, rfl, h, rfl⟩
def top (i : Nat) : Stmt := PySem.Challenge.pw_covernets_k16_partings_and_ends.main.body.getD i (.Pass ⟨0, 0, 0, 0⟩)
theorem sc__law_source : FnScope ["script", "mixed", "cell"] ["script"] (defScope (top 10)) := ⟨rfl, rfl, rfl, by decide +kernel, rfl, by decide +kernel, by decide +kernel⟩
theorem sc__law_pick : FnScope ["source", "many", "left", "mixed"] ["source", "many"] (defScope (top 11)) := ⟨rfl, rfl, rfl, by decide +kernel, rfl, by decide +kernel, by decide +kernel⟩
theorem sc__law_mixed : FnScope N__law_mixed ["source", "things"] (defScope (top 13)) := ⟨rfl, rfl, rfl, by decide +kernel, rfl, by decide +kernel, by decide +kernel⟩
theorem sc__law_frame : FnScope N__law_frame ["source", "most", "roads"] (defScope (top 14)) := ⟨rfl, rfl, rfl, by decide +kernel, rfl, by decide +kernel, by decide +kernel⟩
theorem sc_standing_ends : FnScope N_standing_ends ["frame"] (defScope (top 1)) := ⟨rfl, rfl, rfl, by decide +kernel, rfl, by decide +kernel, by decide +kernel⟩
theorem sc__law_standing : FnScope N__law_standing ["frame"] (defScope (top 16)) := ⟨rfl, rfl, rfl, by decide +kernel, rfl, by decide +kernel, by decide +kernel⟩
theorem sc_stands_at : FnScope N_stands_at ["frame", "end"] (defScope (top 3)) := ⟨rfl, rfl, rfl, by decide +kernel, rfl, by decide +kernel, by decide +kernel⟩
theorem sc_back_end : FnScope N_back_end ["end"] (defScope (top 2)) := ⟨rfl, rfl, rfl, by decide +kernel, rfl, by decide +kernel, by decide +kernel⟩
theorem sc_leads_to : FnScope N_leads_to ["frame", "end"] (defScope (top 4)) := ⟨rfl, rfl, rfl, by decide +kernel, rfl, by decide +kernel, by decide +kernel⟩
theorem sc__law_leads : FnScope N__law_leads ["frame", "end"] (defScope (top 15)) := ⟨rfl, rfl, rfl, by decide +kernel, rfl, by decide +kernel, by decide +kernel⟩
theorem sc__law_told_parts : FnScope N__law_told_parts ["marks"] (defScope (top 17)) := ⟨rfl, rfl, rfl, by decide +kernel, rfl, by decide +kernel, by decide +kernel⟩
theorem sc__law_parting : FnScope N__law_parting ["source", "n"] (defScope (top 20)) := ⟨rfl, rfl, rfl, by decide +kernel, rfl, by decide +kernel, by decide +kernel⟩
theorem sc_is_finer : FnScope N_is_finer ["one", "other"] (defScope (top 7)) := ⟨rfl, rfl, rfl, by decide +kernel, rfl, by decide +kernel, by decide +kernel⟩
theorem sc__law_is_finer : FnScope N__law_is_finer ["one", "other"] (defScope (top 19)) := ⟨rfl, rfl, rfl, by decide +kernel, rfl, by decide +kernel, by decide +kernel⟩
theorem sc_told_parts : FnScope N_told_parts ["marks"] (defScope (top 5)) := ⟨rfl, rfl, rfl, by decide +kernel, rfl, by decide +kernel, by decide +kernel⟩
theorem sc_ends_by_parts : FnScope N_ends_by_parts ["frame", "parting", "crossing"] (defScope (top 8)) := ⟨rfl, rfl, rfl, by decide +kernel, rfl, by decide +kernel, by decide +kernel⟩
theorem sc__law_by_parts : FnScope N__law_by_parts ["frame", "parting", "crossing"] (defScope (top 18)) := ⟨rfl, rfl, rfl, by decide +kernel, rfl, by decide +kernel, by decide +kernel⟩
theorem sc__law_of : FnScope N__law_of ["source", "some"] (defScope (top 12)) := ⟨rfl, rfl, rfl, by decide +kernel, rfl, by decide +kernel, by decide +kernel⟩
theorem sc_is_parting_row : FnScope N_is_parting_row ["frame", "value"] (defScope (top 6)) := ⟨rfl, rfl, rfl, by decide +kernel, rfl, by decide +kernel, by decide +kernel⟩
theorem sc__law_is_int : FnScope N__law_is_int ["value"] (defScope (top 21)) := ⟨rfl, rfl, rfl, by decide +kernel, rfl, by decide +kernel, by decide +kernel⟩
theorem sc__law_is_row : FnScope N__law_is_row ["n", "value"] (defScope (top 22)) := ⟨rfl, rfl, rfl, by decide +kernel, rfl, by decide +kernel, by decide +kernel⟩
theorem sc_law : FnScope N_law ["script"] (defScope (top 23)) := ⟨rfl, rfl, rfl, by decide +kernel, rfl, by decide +kernel, by decide +kernel⟩
section
variable {P : Program} {w : World} {K : PySem.W.Frag} {mg : Str → Option Value} {base : Heap} {f : Addr} {fd : FuncData}
theorem fn__law_source (F : FunD K "_law_source" "_law_source" (defArgs (top 10)) (defBody (top 10)) (defScope (top 10)) [] [] f fd) (hm : mg "_law_source" = some (.ref f)) (m_int : mg "int" = none) (m_abs : mg "abs" = none) : Fn P w K mg base 1 "_law_source" ["script"] fSrc :=
  fn_hand F hm (F.bindsN fun _ _ _ _ _ _ us hl => match us, hl with | [_], _ => rfl) sc__law_source (fun ds Q E h => by obtain ⟨_, rfl, _⟩ := h; rfl) (fun cdv A outer s H E G =>
    pss_cons (ps_set (i := 1) sc__law_source.nd rfl (Or.inl rfl) pe_int)
    (pss_cons (ps_for passes_cx rfl (pi_list (pv 0)) (pg_name (i := 2) sc__law_source.nd rfl (Or.inl rfl))
      (pss_one (ps_set (i := 1) sc__law_source.nd rfl (Or.inl rfl) (pe_op op_mod (pe_callTy call_int1 rfl m_int bt_int (pa_cons (pe_op op_add (pe_op op_add (pe_op op_mul (pv 1) pe_int) (pe_op op_mul (pv 2) pe_int)) pe_int) pa_nil)) pe_int))))
    (pss_one (ps_ret (pe_disp (pps_cons pe_str (pe_revA (pe_lc (own := [("cell", 2)]) (g := gName 2) (tt := tYes) rfl sc__law_source.nd (pi_list (pv 0)) (blkOk_by (N := ["script", "mixed", "cell"]) (sc := defScope (top 10)) (by decide +kernel)) (fun _ _ _ _ _ => pg_name (i := 2) sc__law_source.nd rfl (Or.inl rfl)) (fun _ _ _ _ _ => pts_nil) (fun _ _ _ _ _ => pe_callB call_abs (by rfl) m_abs bt_abs (pa_cons (pv 2) pa_nil))))
      (pps_cons pe_str pe_int (pps_cons pe_str (pv 1) (pps_cons pe_str pe_int pps_nil)))) rfl rfl (by decide) (by decide)))))) src_run src_lift
theorem fn__law_pick (F : FunD K "_law_pick" "_law_pick" (defArgs (top 11)) (defBody (top 11)) (defScope (top 11)) [] [] f fd) (hm : mg "_law_pick" = some (.ref f)) (m_int : mg "int" = none) (m_max : mg "max" = none) (m_len : mg "len" = none) : Fn P w K mg base 1 "_law_pick" ["source", "many"] fPick :=
  fn_hand F hm (F.bindsN fun _ _ _ _ _ _ us hl => match us, hl with | [_, _], _ => rfl) sc__law_pick (fun ds Q E h => by obtain ⟨_, rfl, _⟩ := h; rfl) (fun cdv A outer s H E G => by
    have hu := Nat.lt_of_le_of_lt (Nat.add_le_add_left (show 1 ≤ 64 by decide) _) G.room.units
    have nsl : ∀ {z : Str} {j : Nat} {p : Pos}, NoSl (.Constant (.str z) j p) := fun _ _ => rfl
    have gs : ∀ {z : Str} {p p1 p2 : Pos} {j : Nat}, PE (cxOf (L2.CX P w) P w K mg base ["source", "many", "left", "mixed"] "_law_pick" (defScope (top 11)) f cdv A outer s H E) (.Subscript (.Name "source" p) (.Constant (.str z) j p1) p2) (gS z) := pe_dget hu (pv 0) pe_str nsl
    exact pss_cons (ps_while passes_cx (PW.pt (pw_and (pt_cmpR op_gt (pv 1) pe_int (nomark _)) (pw_and (pt_cmpR op_lt gs pe_int (nomark _)) (pw_and1 (pt_cmpR op_gt (pe_callB call_len rfl m_len bt_len (pa_cons gs pa_nil)) pe_int (nomark _))))))
        (pss_one (ps_dput hu (pv 0) pe_str (pe_bm0 PySem.F.plainAttrs_list PySem.F.slot_list_pop PySem.F.type_list_pop mt_pop gs) rfl)))
      (pss_cons (ps_set (i := 2) sc__law_pick.nd rfl (Or.inl rfl) gs)
      (pss_cons (ps_if (PW.pt (pw_or (pt_cmpR op_lt (pv 1) pe_int (nomark _)) (pw_or1 (pt_cmpR op_gt (pv 2) pe_int (nomark _)))))
        (pss_cons (ps_dput hu (pv 0) pe_str (pe_op op_fdivW (pv 2) (pe_callB (call_max2 rfl) rfl m_max bt_max (pa_cons pe_int (pa_cons (pv 1) pa_nil)))) rfl)
          (pss_one (ps_ret (pe_op op_mod (pe_callTy call_int1 rfl m_int bt_int (pa_cons (pv 2) pa_nil)) (pe_callB (call_max2 rfl) rfl m_max bt_max (pa_cons pe_int (pa_cons (pv 1) pa_nil))))))) pss_nil)
      (pss_cons (ps_dput hu (pv 0) pe_str (pe_op op_add gs pe_int) rfl)
      (pss_cons (ps_set (i := 3) sc__law_pick.nd rfl (Or.inl rfl) (pe_op op_mod (pe_callTy call_int1 rfl m_int bt_int (pa_cons (pe_op op_add gs (pe_op op_mul gs pe_int)) pa_nil)) pe_int))
      (pss_cons (ps_set (i := 3) sc__law_pick.nd rfl (Or.inl rfl) (pe_op op_mod (pe_callTy call_int1 rfl m_int bt_int (pa_cons (pe_op op_add (pe_op op_mul (pv 3) (pv 3)) (pe_op op_mul gs pe_int)) pa_nil)) pe_int))
      (pss_cons (ps_dput hu (pv 0) pe_str (pv 3) rfl)
      (pss_one (ps_ret (pe_op op_mod (pe_callTy call_int1 rfl m_int bt_int (pa_cons (pe_op op_fdivW (pv 3) pe_int) pa_nil)) (pv 1))))))))))) pick_run pick_lift
theorem fn__law_mixed (F : FunD K "_law_mixed" "_law_mixed" (defArgs (top 13)) (defBody (top 13)) (defScope (top 13)) [] [] f fd) (hm : mg "_law_mixed" = some (.ref f)) (c__law_pick : Fn P w K mg base 1 "_law_pick" ["source", "many"] fs__law_pick) (m_len : mg "len" = none) (m_list : mg "list" = none) (m_range : mg "range" = none) : Fn P w K mg base 2 "_law_mixed" ["source", "things"] fs__law_mixed :=
  fn_mk (k := 1) F hm (F.bindsN fun _ _ _ _ _ _ us hl => match us, hl with | [_, _], _ => rfl) sc__law_mixed len__law_mixed (fun cdv A outer s H E G =>
    (show DSs _ _ (defBody (top 13)) w__law_mixed from dss_cons (ds_set (i := 2) sc__law_mixed.nd (de_ty call_list_of cd_list m_list bt_list (da_cons (dv 1) (da_nil))))
    (dss_one ((by refine ds_retPop (i := 2) (v := 3) (own := [("lap", 3)]) G.calm sc__law_mixed.nd ?_ ?_ ?_ ?_ ?_ ?_ ?_ ?_ ?_; exact di_range1r m_range (da_cons (de_blt call_lenD' cd_len m_len bt_len (da_cons (dv 2) (da_nil))) (da_nil)); exact (blkOk_by (N := N__law_mixed) (sc := defScope (top 13)) (by decide +kernel)); exact rfl; exact (fun _ _ _ _ _ => pg_name (i := 3) sc__law_mixed.nd rfl (Or.inl rfl)); exact (fun _ _ _ _ _ => de_call (c__law_pick.mono (by decide)) G.blk takesF (da_cons (dv 0) (da_cons (de_blt call_lenD' cd_len m_len bt_len (da_cons (dv 2) (da_nil))) (da_nil)))); exact (fun _ _ _ _ _ => pv 2); exact (fun _ _ _ _ _ => ⟨rfl, rfl, rfl, rfl⟩); exact (fun _ _ _ _ _ => rfl); exact (fun _ _ _ _ _ => rfl)))))) run__law_mixed
theorem fn__law_frame (F : FunD K "_law_frame" "_law_frame" (defArgs (top 14)) (defBody (top 14)) (defScope (top 14)) [] [] f fd) (hm : mg "_law_frame" = some (.ref f)) (c__law_pick : Fn P w K mg base 1 "_law_pick" ["source", "many"] fs__law_pick) (c__law_mixed : Fn P w K mg base 2 "_law_mixed" ["source", "things"] fs__law_mixed) (m_range : mg "range" = none) (m_tuple : mg "tuple" = none) : Fn P w K mg base 3 "_law_frame" ["source", "most", "roads"] fs__law_frame :=
  fn_mk (k := 2) F hm (F.bindsN fun _ _ _ _ _ _ us hl => match us, hl with | [_, _, _], _ => rfl) sc__law_frame len__law_frame (fun cdv A outer s H E G =>
    (show DSs _ _ (defBody (top 14)) w__law_frame from dss_cons (ds_parT (is := [3, 4]) G.calm (da_cons (de_bin op_addD od_add (de_int) (de_call (c__law_pick.mono (by decide)) G takes_cx (da_cons (dv 0) (da_cons (dv 1) (da_nil))))) (da_cons (de_call (c__law_pick.mono (by decide)) G takes_cx (da_cons (dv 0) (da_cons (de_int) (da_nil)))) (da_nil))) (dgs_cons (dg_nm 3 sc__law_frame.nd) (dgs_cons (dg_nm 4 sc__law_frame.nd) dgs_nil)))
    (dss_cons (ds_set (i := 5) sc__law_frame.nd (de_lst (da_nil)))
    (dss_cons (ds_if (dt_cmp (op_eqD G.room.units) od_eq (dv 4) (de_int) (nomark _)) (dss_one (ds_setLc (own := [("k", 7)]) G.calm sc__law_frame.nd (di_range1 m_range (da_cons (dv 3) (da_nil))) (blkOk_by (N := N__law_frame) (sc := defScope (top 14)) (by decide +kernel)) (fun _ _ _ _ _ => (dg_nm 7 sc__law_frame.nd)) (fun _ _ _ _ _ => dts_nil) (fun _ _ _ _ _ => de_tup (da_cons (dv 7) (da_cons (de_if (dt_cmp op_lt od_lt (de_bin op_addD od_add (dv 7) (de_int)) (dv 3) (nomark _)) (de_bin op_addD od_add (dv 7) (de_int)) (de_int)) (da_nil)))) (sw_true rfl rfl rfl (by decide +kernel)))) (dss_nil))
    (dss_cons (ds_if (dt_cmp (op_eqD G.room.units) od_eq (dv 4) (de_int) (nomark _)) (dss_one (ds_setLc (own := [("k", 7)]) G.calm sc__law_frame.nd (di_range2 m_range (da_cons (de_int) (da_cons (dv 3) (da_nil)))) (blkOk_by (N := N__law_frame) (sc := defScope (top 14)) (by decide +kernel)) (fun _ _ _ _ _ => (dg_nm 7 sc__law_frame.nd)) (fun _ _ _ _ _ => dts_nil) (fun _ _ _ _ _ => de_tup (da_cons (de_call (c__law_pick.mono (by decide)) G.blk takesF (da_cons (dv 0) (da_cons (dv 7) (da_nil)))) (da_cons (dv 7) (da_nil)))) (sw_true rfl rfl rfl (by decide +kernel)))) (dss_nil))
    (dss_cons (ds_forR passes_cx G.calm (di_range1r m_range (da_cons (de_call (c__law_pick.mono (by decide)) G takes_cx (da_cons (dv 0) (da_cons (de_bin op_addD od_add (dv 2) (de_int)) (da_nil)))) (da_nil))) (dg_nm 6 sc__law_frame.nd) (dss_one (ds_app (i := 5) (de_tup (da_cons (de_call (c__law_pick.mono (by decide)) G takes_cx (da_cons (dv 0) (da_cons (dv 3) (da_nil)))) (da_cons (de_call (c__law_pick.mono (by decide)) G takes_cx (da_cons (dv 0) (da_cons (dv 3) (da_nil)))) (da_nil)))))))
    (dss_one (ds_ret (de_tup (da_cons (dv 3) (da_cons (de_ty call_toT cd_tuple m_tuple bt_tuple (da_cons (de_call (c__law_mixed.mono (by decide)) G takes_cx (da_cons (dv 0) (da_cons (de_slice (dv 5) (do_no) (do_so (dv 2))) (da_nil)))) (da_nil))) (da_nil)))))))))))) run__law_frame
theorem fn_standing_ends (F : FunD K "standing_ends" "standing_ends" (defArgs (top 1)) (defBody (top 1)) (defScope (top 1)) [] [] f fd) (hm : mg "standing_ends" = some (.ref f)) (m_enumerate : mg "enumerate" = none) (m_range : mg "range" = none) : Fn P w K mg base 1 "standing_ends" ["frame"] fs_standing_ends :=
  fn_mk (k := 0) F hm (F.bindsN fun _ _ _ _ _ _ us hl => match us, hl with | [_], _ => rfl) sc_standing_ends len_standing_ends (fun cdv A outer s H E G =>
    (show DSs _ _ (defBody (top 1)) w_standing_ends from dss_cons (ds_setLc (own := [("crossing", 5)]) G.calm sc_standing_ends.nd (di_range1 m_range (da_cons (de_ix ix_seq od_ix (dv 0) (de_int)) (da_nil))) (blkOk_by (N := N_standing_ends) (sc := defScope (top 1)) (by decide +kernel)) (fun _ _ _ _ _ => (dg_nm 5 sc_standing_ends.nd)) (fun _ _ _ _ _ => dts_nil) (fun _ _ _ _ _ => de_lst (da_nil)) (sw_true rfl rfl rfl (by decide +kernel)))
    (dss_cons (ds_for passes_cx G.calm (di_enum m_enumerate (de_ix ix_seq od_ix (dv 0) (de_int))) (dg_tp G.calm (dgs_cons (dg_nm 2 sc_standing_ends.nd) (dgs_cons (dg_tp G.calm (dgs_cons (dg_nm 3 sc_standing_ends.nd) (dgs_cons (dg_nm 4 sc_standing_ends.nd) dgs_nil))) dgs_nil))) (dss_cons (ds_appK (i := 1) (u9 G) (dv 3) (de_bin op_mulA od_mulA (de_int) (dv 2)))
    (dss_one (ds_appK (i := 1) (u9 G) (dv 4) (de_bin op_addD od_add (de_bin op_mulA od_mulA (de_int) (dv 2)) (de_int))))))
    (dss_one (ds_ret (dv 1)))))) run_standing_ends
theorem fn__law_standing (F : FunD K "_law_standing" "_law_standing" (defArgs (top 16)) (defBody (top 16)) (defScope (top 16)) [] [] f fd) (hm : mg "_law_standing" = some (.ref f)) (m_enumerate : mg "enumerate" = none) (m_range : mg "range" = none) : Fn P w K mg base 1 "_law_standing" ["frame"] fs__law_standing :=
  fn_mk (k := 0) F hm (F.bindsN fun _ _ _ _ _ _ us hl => match us, hl with | [_], _ => rfl) sc__law_standing len__law_standing (fun cdv A outer s H E G =>
    (show DSs _ _ (defBody (top 16)) w__law_standing from dss_cons (ds_setLc (own := [("crossing", 5)]) G.calm sc__law_standing.nd (di_range1 m_range (da_cons (de_ix ix_seq od_ix (dv 0) (de_int)) (da_nil))) (blkOk_by (N := N__law_standing) (sc := defScope (top 16)) (by decide +kernel)) (fun _ _ _ _ _ => (dg_nm 5 sc__law_standing.nd)) (fun _ _ _ _ _ => dts_nil) (fun _ _ _ _ _ => de_lst (da_nil)) (sw_true rfl rfl rfl (by decide +kernel)))
    (dss_cons (ds_for passes_cx G.calm (di_enum m_enumerate (de_ix ix_seq od_ix (dv 0) (de_int))) (dg_tp G.calm (dgs_cons (dg_nm 2 sc__law_standing.nd) (dgs_cons (dg_tp G.calm (dgs_cons (dg_nm 3 sc__law_standing.nd) (dgs_cons (dg_nm 4 sc__law_standing.nd) dgs_nil))) dgs_nil))) (dss_cons (ds_appK (i := 1) (u9 G) (dv 3) (de_bin op_mulA od_mulA (de_int) (dv 2)))
    (dss_one (ds_appK (i := 1) (u9 G) (dv 4) (de_bin op_addD od_add (de_bin op_mulA od_mulA (de_int) (dv 2)) (de_int))))))
    (dss_one (ds_ret (dv 1)))))) run__law_standing
theorem fn_stands_at (F : FunD K "stands_at" "stands_at" (defArgs (top 3)) (defBody (top 3)) (defScope (top 3)) [] [] f fd) (hm : mg "stands_at" = some (.ref f)) : Fn P w K mg base 1 "stands_at" ["frame", "end"] fs_stands_at :=
  fn_mk (k := 0) F hm (F.bindsN fun _ _ _ _ _ _ us hl => match us, hl with | [_, _], _ => rfl) sc_stands_at len_stands_at (fun cdv A outer s H E G =>
    (show DSs _ _ (defBody (top 3)) w_stands_at from dss_one (ds_ret (de_ix ix_seq od_ix (de_ix ix_seq od_ix (de_ix ix_seq od_ix (dv 0) (de_int)) (de_bin op_fdivW od_fdivW (dv 1) (de_int))) (de_bin op_modN od_mod (dv 1) (de_int)))))) run_stands_at
theorem fn_back_end (F : FunD K "back_end" "back_end" (defArgs (top 2)) (defBody (top 2)) (defScope (top 2)) [] [] f fd) (hm : mg "back_end" = some (.ref f)) : Fn P w K mg base 1 "back_end" ["end"] fs_back_end :=
  fn_mk (k := 0) F hm (F.bindsN fun _ _ _ _ _ _ us hl => match us, hl with | [_], _ => rfl) sc_back_end len_back_end (fun cdv A outer s H E G =>
    (show DSs _ _ (defBody (top 2)) w_back_end from dss_one (ds_ret (de_bin op_sub od_sub (de_bin op_addD od_add (dv 0) (de_int)) (de_bin op_mulA od_mulA (de_int) (de_bin op_modN od_mod (dv 0) (de_int))))))) run_back_end
theorem fn_leads_to (F : FunD K "leads_to" "leads_to" (defArgs (top 4)) (defBody (top 4)) (defScope (top 4)) [] [] f fd) (hm : mg "leads_to" = some (.ref f)) (c_stands_at : Fn P w K mg base 1 "stands_at" ["frame", "end"] fs_stands_at) (c_back_end : Fn P w K mg base 1 "back_end" ["end"] fs_back_end) : Fn P w K mg base 2 "leads_to" ["frame", "end"] fs_leads_to :=
  fn_mk (k := 1) F hm (F.bindsN fun _ _ _ _ _ _ us hl => match us, hl with | [_, _], _ => rfl) sc_leads_to len_leads_to (fun cdv A outer s H E G =>
    (show DSs _ _ (defBody (top 4)) w_leads_to from dss_one (ds_ret (de_call (c_stands_at.mono (by decide)) G takes_cx (da_cons (dv 0) (da_cons (de_call (c_back_end.mono (by decide)) G takes_cx (da_cons (dv 1) (da_nil))) (da_nil))))))) run_leads_to
theorem fn__law_leads (F : FunD K "_law_leads" "_law_leads" (defArgs (top 15)) (defBody (top 15)) (defScope (top 15)) [] [] f fd) (hm : mg "_law_leads" = some (.ref f)) : Fn P w K mg base 1 "_law_leads" ["frame", "end"] fs__law_leads :=
  fn_mk (k := 0) F hm (F.bindsN fun _ _ _ _ _ _ us hl => match us, hl with | [_, _], _ => rfl) sc__law_leads len__law_leads (fun cdv A outer s H E G =>
    (show DSs _ _ (defBody (top 15)) w__law_leads from dss_one (ds_ret (de_ix ix_seq od_ix (de_ix ix_seq od_ix (de_ix ix_seq od_ix (dv 0) (de_int)) (de_bin op_fdivW od_fdivW (dv 1) (de_int))) (de_bin op_sub od_sub (de_int) (de_bin op_sub od_sub (dv 1) (de_bin op_mulA od_mulA (de_bin op_fdivW od_fdivW (dv 1) (de_int)) (de_int)))))))) run__law_leads
theorem fn__law_told_parts (F : FunD K "_law_told_parts" "_law_told_parts" (defArgs (top 17)) (defBody (top 17)) (defScope (top 17)) [] [] f fd) (hm : mg "_law_told_parts" = some (.ref f)) (m_len : mg "len" = none) (m_tuple : mg "tuple" = none) : Fn P w K mg base 1 "_law_told_parts" ["marks"] fs__law_told_parts :=
  fn_mk (k := 0) F hm (F.bindsN fun _ _ _ _ _ _ us hl => match us, hl with | [_], _ => rfl) sc__law_told_parts len__law_told_parts (fun cdv A outer s H E G =>
    (show DSs _ _ (defBody (top 17)) w__law_told_parts from dss_alt ((show DSs _ _ (defBody (top 17)) wa__law_told_parts from dss_cons (ds_set (i := 1) sc__law_told_parts.nd (de_dctF))
    (dss_cons (ds_for passes_cx G.calm (di_seq (dv 0)) (dg_nm 2 sc__law_told_parts.nd) (dss_one (ds_dput (i := 1) (u9 G) (de_get2 (u9 G) (dv 1) (dv 2) (de_blt call_lenX cd_lenX m_len bt_len (da_cons (dv 1) (da_nil)))) (dv 2))))
    (dss_one (ds_ret (de_ty call_toT cd_tuple m_tuple bt_tuple (da_cons (de_lc (own := [("mark", 2)]) G.calm sc__law_told_parts.nd (di_seq (dv 0)) (blkOk_by (N := N__law_told_parts) (sc := defScope (top 17)) (by decide +kernel)) (fun _ _ _ _ _ => (dg_nm 2 sc__law_told_parts.nd)) (fun _ _ _ _ _ => dts_nil) (fun _ _ _ _ _ => de_ix (ix_X (u9 G.blk)) od_ixX (dv 1) (dv 2))) (da_nil)))))))) ((show DSs _ _ (defBody (top 17)) wb__law_told_parts from dss_cons (ds_set (i := 1) sc__law_told_parts.nd (de_dctT))
    (dss_cons (ds_for passes_cx G.calm (di_seq (dv 0)) (dg_nm 2 sc__law_told_parts.nd) (dss_one (ds_dput (i := 1) (u9 G) (de_get2 (u9 G) (dv 1) (dv 2) (de_blt call_lenX cd_lenX m_len bt_len (da_cons (dv 1) (da_nil)))) (dv 2))))
    (dss_one (ds_ret (de_ty call_toT cd_tuple m_tuple bt_tuple (da_cons (de_lc (own := [("mark", 2)]) G.calm sc__law_told_parts.nd (di_seq (dv 0)) (blkOk_by (N := N__law_told_parts) (sc := defScope (top 17)) (by decide +kernel)) (fun _ _ _ _ _ => (dg_nm 2 sc__law_told_parts.nd)) (fun _ _ _ _ _ => dts_nil) (fun _ _ _ _ _ => de_ix (ix_X (u9 G.blk)) od_ixX (dv 1) (dv 2))) (da_nil)))))))))) run__law_told_parts
theorem fn__law_parting (F : FunD K "_law_parting" "_law_parting" (defArgs (top 20)) (defBody (top 20)) (defScope (top 20)) [] [] f fd) (hm : mg "_law_parting" = some (.ref f)) (c__law_told_parts : Fn P w K mg base 1 "_law_told_parts" ["marks"] fs__law_told_parts) (c__law_pick : Fn P w K mg base 1 "_law_pick" ["source", "many"] fs__law_pick) (m_range : mg "range" = none) : Fn P w K mg base 2 "_law_parting" ["source", "n"] fs__law_parting :=
  fn_mk (k := 1) F hm (F.bindsN fun _ _ _ _ _ _ us hl => match us, hl with | [_, _], _ => rfl) sc__law_parting len__law_parting (fun cdv A outer s H E G =>
    (show DSs _ _ (defBody (top 20)) w__law_parting from dss_one (ds_ret (de_call (c__law_told_parts.mono (by decide)) G takes_cx (da_cons (de_lc (own := [("c", 2)]) G.calm sc__law_parting.nd (di_range1 m_range (da_cons (dv 1) (da_nil))) (blkOk_by (N := N__law_parting) (sc := defScope (top 20)) (by decide +kernel)) (fun _ _ _ _ _ => (dg_nm 2 sc__law_parting.nd)) (fun _ _ _ _ _ => dts_nil) (fun _ _ _ _ _ => de_call (c__law_pick.mono (by decide)) G.blk takesF (da_cons (dv 0) (da_cons (dv 1) (da_nil))))) (da_nil)))))) run__law_parting
theorem fn_is_finer (F : FunD K "is_finer" "is_finer" (defArgs (top 7)) (defBody (top 7)) (defScope (top 7)) [] [] f fd) (hm : mg "is_finer" = some (.ref f)) (m_dict : mg "dict" = none) (m_len : mg "len" = none) (m_max : mg "max" = none) (m_zip : mg "zip" = none) : Fn P w K mg base 1 "is_finer" ["one", "other"] fs_is_finer :=
  fn_mk (k := 0) F hm (F.bindsN fun _ _ _ _ _ _ us hl => match us, hl with | [_, _], _ => rfl) sc_is_finer len_is_finer (fun cdv A outer s H E G =>
    (show DSs _ _ (defBody (top 7)) w_is_finer from dss_one (ds_ret (de_cmp (op_eqD G.room.units) od_eq (de_blt call_lenX cd_lenX m_len bt_len (da_cons (de_ty (call_dictN G.calm (u65 G)) cd_dictT m_dict bt_dict (da_cons (de_lc (own := [("a", 2), ("b", 3)]) G.calm sc_is_finer.nd (di_zs m_zip (dv 0) (dv 1)) (blkOk_by (N := N_is_finer) (sc := defScope (top 7)) (by decide +kernel)) (fun _ _ _ _ _ => (dg_tp G.calm (dgs_cons (dg_nm 2 sc_is_finer.nd) (dgs_cons (dg_nm 3 sc_is_finer.nd) dgs_nil)))) (fun _ _ _ _ _ => dts_nil) (fun _ _ _ _ _ => de_tup (da_cons (de_tup (da_cons (dv 2) (da_cons (dv 3) (da_nil)))) (da_cons (de_bl) (da_nil))))) (da_nil))) (da_nil))) (de_bin op_addD od_add (de_blt (call_maxT G.calm) cd_maxX m_max bt_max (da_cons (dv 0) (da_nil))) (de_int)) (nomark _))))) run_is_finer
theorem fn__law_is_finer (F : FunD K "_law_is_finer" "_law_is_finer" (defArgs (top 19)) (defBody (top 19)) (defScope (top 19)) [] [] f fd) (hm : mg "_law_is_finer" = some (.ref f)) (m_dict : mg "dict" = none) (m_len : mg "len" = none) (m_zip : mg "zip" = none) : Fn P w K mg base 1 "_law_is_finer" ["one", "other"] fs__law_is_finer :=
  fn_mk (k := 0) F hm (F.bindsN fun _ _ _ _ _ _ us hl => match us, hl with | [_, _], _ => rfl) sc__law_is_finer len__law_is_finer (fun cdv A outer s H E G =>
    (show DSs _ _ (defBody (top 19)) w__law_is_finer from dss_cons (ds_set (i := 2) sc__law_is_finer.nd (de_ty (call_dictN G.calm (u65 G)) cd_dictT m_dict bt_dict (da_cons (de_lc (own := [("pair", 3)]) G.calm sc__law_is_finer.nd (di_znm m_zip (dv 0) (dv 1)) (blkOk_by (N := N__law_is_finer) (sc := defScope (top 19)) (by decide +kernel)) (fun _ _ _ _ _ => (dg_nm 3 sc__law_is_finer.nd)) (fun _ _ _ _ _ => dts_nil) (fun _ _ _ _ _ => de_tup (da_cons (dv 3) (da_cons (de_int) (da_nil))))) (da_nil))))
    (dss_one (ds_ret (de_cmp (op_eqD G.room.units) od_eq (de_blt call_lenX cd_lenX m_len bt_len (da_cons (dv 2) (da_nil))) (de_blt call_lenX cd_lenX m_len bt_len (da_cons (de_ty (call_dictP G.calm) cd_dict m_dict bt_dict (da_cons (de_lc (own := [("part", 4)]) G.calm sc__law_is_finer.nd (di_seq (dv 0)) (blkOk_by (N := N__law_is_finer) (sc := defScope (top 19)) (by decide +kernel)) (fun _ _ _ _ _ => (dg_nm 4 sc__law_is_finer.nd)) (fun _ _ _ _ _ => dts_nil) (fun _ _ _ _ _ => de_tup (da_cons (dv 4) (da_cons (de_int) (da_nil))))) (da_nil))) (da_nil))) (nomark _)))))) run__law_is_finer
theorem fn_told_parts (F : FunD K "told_parts" "told_parts" (defArgs (top 5)) (defBody (top 5)) (defScope (top 5)) [] [] f fd) (hm : mg "told_parts" = some (.ref f)) (m_len : mg "len" = none) (m_tuple : mg "tuple" = none) : Fn P w K mg base 1 "told_parts" ["marks"] fs_told_parts :=
  fn_mk (k := 0) F hm (F.bindsN fun _ _ _ _ _ _ us hl => match us, hl with | [_], _ => rfl) sc_told_parts len_told_parts (fun cdv A outer s H E G =>
    (show DSs _ _ (defBody (top 5)) w_told_parts from dss_alt ((show DSs _ _ (defBody (top 5)) wa_told_parts from dss_cons (ds_set (i := 1) sc_told_parts.nd (de_dctF))
    (dss_cons (ds_for passes_cx G.calm (di_seq (dv 0)) (dg_nm 2 sc_told_parts.nd) (dss_one (ds_setd (i := 1) (u9 G) (dv 2) (de_blt call_lenX cd_lenX m_len bt_len (da_cons (dv 1) (da_nil))))))
    (dss_one (ds_ret (de_ty call_toT cd_tuple m_tuple bt_tuple (da_cons (de_lc (own := [("mark", 2)]) G.calm sc_told_parts.nd (di_seq (dv 0)) (blkOk_by (N := N_told_parts) (sc := defScope (top 5)) (by decide +kernel)) (fun _ _ _ _ _ => (dg_nm 2 sc_told_parts.nd)) (fun _ _ _ _ _ => dts_nil) (fun _ _ _ _ _ => de_ix (ix_X (u9 G.blk)) od_ixX (dv 1) (dv 2))) (da_nil)))))))) ((show DSs _ _ (defBody (top 5)) wb_told_parts from dss_cons (ds_set (i := 1) sc_told_parts.nd (de_dctT))
    (dss_cons (ds_for passes_cx G.calm (di_seq (dv 0)) (dg_nm 2 sc_told_parts.nd) (dss_one (ds_setd (i := 1) (u9 G) (dv 2) (de_blt call_lenX cd_lenX m_len bt_len (da_cons (dv 1) (da_nil))))))
    (dss_one (ds_ret (de_ty call_toT cd_tuple m_tuple bt_tuple (da_cons (de_lc (own := [("mark", 2)]) G.calm sc_told_parts.nd (di_seq (dv 0)) (blkOk_by (N := N_told_parts) (sc := defScope (top 5)) (by decide +kernel)) (fun _ _ _ _ _ => (dg_nm 2 sc_told_parts.nd)) (fun _ _ _ _ _ => dts_nil) (fun _ _ _ _ _ => de_ix (ix_X (u9 G.blk)) od_ixX (dv 1) (dv 2))) (da_nil)))))))))) run_told_parts
theorem fn_ends_by_parts (F : FunD K "ends_by_parts" "ends_by_parts" (defArgs (top 8)) (defBody (top 8)) (defScope (top 8)) [] [] f fd) (hm : mg "ends_by_parts" = some (.ref f)) (c_standing_ends : Fn P w K mg base 1 "standing_ends" ["frame"] fs_standing_ends) (c_leads_to : Fn P w K mg base 2 "leads_to" ["frame", "end"] fs_leads_to) (m_max : mg "max" = none) (m_tuple : mg "tuple" = none) : Fn P w K mg base 3 "ends_by_parts" ["frame", "parting", "crossing"] fs_ends_by_parts :=
  fn_mk (k := 2) F hm (F.bindsN fun _ _ _ _ _ _ us hl => match us, hl with | [_, _, _], _ => rfl) sc_ends_by_parts len_ends_by_parts (fun cdv A outer s H E G =>
    (show DSs _ _ (defBody (top 8)) w_ends_by_parts from dss_cons (ds_set (i := 3) sc_ends_by_parts.nd (de_bin op_mulA od_mulA (de_lst (da_cons (de_int) (da_nil))) (de_bin op_addD od_add (de_blt (call_maxT G.calm) cd_maxX m_max bt_max (da_cons (dv 1) (da_nil))) (de_int))))
    (dss_cons (ds_for passes_cx G.calm (di_seq (de_ix ix_seq od_ix (de_call (c_standing_ends.mono (by decide)) G takes_cx (da_cons (dv 0) (da_nil))) (dv 2))) (dg_nm 4 sc_ends_by_parts.nd) (dss_one (ds_augIx (i := 3) iop_add (od_I fun _ _ _ _ => .int _) (de_ix ix_seq od_ix (dv 1) (de_call (c_leads_to.mono (by decide)) G takes_cx (da_cons (dv 0) (da_cons (dv 4) (da_nil))))) (de_int))))
    (dss_one (ds_ret (de_ty call_toT cd_tuple m_tuple bt_tuple (da_cons (dv 3) (da_nil)))))))) run_ends_by_parts
theorem fn__law_by_parts (F : FunD K "_law_by_parts" "_law_by_parts" (defArgs (top 18)) (defBody (top 18)) (defScope (top 18)) [] [] f fd) (hm : mg "_law_by_parts" = some (.ref f)) (c__law_standing : Fn P w K mg base 1 "_law_standing" ["frame"] fs__law_standing) (c__law_leads : Fn P w K mg base 1 "_law_leads" ["frame", "end"] fs__law_leads) (m_max : mg "max" = none) (m_range : mg "range" = none) (m_tuple : mg "tuple" = none) : Fn P w K mg base 2 "_law_by_parts" ["frame", "parting", "crossing"] fs__law_by_parts :=
  fn_mk (k := 1) F hm (F.bindsN fun _ _ _ _ _ _ us hl => match us, hl with | [_, _, _], _ => rfl) sc__law_by_parts len__law_by_parts (fun cdv A outer s H E G =>
    (show DSs _ _ (defBody (top 18)) w__law_by_parts from dss_cons (ds_set (i := 3) sc__law_by_parts.nd (de_lc (own := [("end", 4)]) G.calm sc__law_by_parts.nd (di_seq (de_ix ix_seq od_ix (de_call (c__law_standing.mono (by decide)) G takes_cx (da_cons (dv 0) (da_nil))) (dv 2))) (blkOk_by (N := N__law_by_parts) (sc := defScope (top 18)) (by decide +kernel)) (fun _ _ _ _ _ => (dg_nm 4 sc__law_by_parts.nd)) (fun _ _ _ _ _ => dts_nil) (fun _ _ _ _ _ => de_ix ix_seq od_ix (dv 1) (de_call (c__law_leads.mono (by decide)) G.blk takesF (da_cons (dv 0) (da_cons (dv 4) (da_nil)))))))
    (dss_one (ds_ret (de_ty call_toT cd_tuple m_tuple bt_tuple (da_cons (de_lc (own := [("part", 5)]) G.calm sc__law_by_parts.nd (di_range1 m_range (da_cons (de_bin op_addD od_add (de_blt (call_maxT G.calm) cd_maxX m_max bt_max (da_cons (dv 1) (da_nil))) (de_int)) (da_nil))) (blkOk_by (N := N__law_by_parts) (sc := defScope (top 18)) (by decide +kernel)) (fun _ _ _ _ _ => (dg_nm 5 sc__law_by_parts.nd)) (fun _ _ _ _ _ => dts_nil) (fun _ _ _ _ _ => de_count (u65 G.blk) (dv 3) (dv 5))) (da_nil))))))) run__law_by_parts
theorem fn__law_of (F : FunD K "_law_of" "_law_of" (defArgs (top 12)) (defBody (top 12)) (defScope (top 12)) [] [] f fd) (hm : mg "_law_of" = some (.ref f)) (c__law_pick : Fn P w K mg base 1 "_law_pick" ["source", "many"] fs__law_pick) (m_len : mg "len" = none) : Fn P w K mg base 2 "_law_of" ["source", "some"] fs__law_of :=
  fn_mk (k := 1) F hm (F.bindsN fun _ _ _ _ _ _ us hl => match us, hl with | [_, _], _ => rfl) sc__law_of len__law_of (fun cdv A outer s H E G =>
    (show DSs _ _ (defBody (top 12)) w__law_of from dss_one (ds_ret (de_ix ix_seq od_ix (dv 1) (de_call (c__law_pick.mono (by decide)) G takes_cx (da_cons (dv 0) (da_cons (de_blt call_lenD' cd_len m_len bt_len (da_cons (dv 1) (da_nil))) (da_nil)))))))) run__law_of
theorem fn_is_parting_row (F : FunD K "is_parting_row" "is_parting_row" (defArgs (top 6)) (defBody (top 6)) (defScope (top 6)) [] [] f fd) (hm : mg "is_parting_row" = some (.ref f)) (c_told_parts : Fn P w K mg base 1 "told_parts" ["marks"] fs_told_parts) (m_all : mg "all" = none) (m_bool : mg "bool" = none) (m_int : mg "int" = none) (m_isinstance : mg "isinstance" = none) (m_len : mg "len" = none) (m_tuple : mg "tuple" = none) : Fn P w K mg base 2 "is_parting_row" ["frame", "value"] fs_is_parting_row :=
  fn_mk (k := 1) F hm (F.bindsN fun _ _ _ _ _ _ us hl => match us, hl with | [_, _], _ => rfl) sc_is_parting_row len_is_parting_row (fun cdv A outer s H E G =>
    (show DSs _ _ (defBody (top 6)) w_is_parting_row from dss_cons (ds_if (dt_w (dw_or (dt_not (dt_tru (de_isi .tuple m_isinstance m_tuple (by decide +kernel) (dv 1)))) (dw_or1 (dt_cmp (op_neD G.room.units) od_ne (de_blt call_lenD' cd_len m_len bt_len (da_cons (dv 1) (da_nil))) (de_ix ix_seq od_ix (dv 0) (de_int)) (nomark _))))) (dss_one (ds_ret (de_bl))) (dss_nil))
    (dss_cons (ds_if (dt_not (dt_tru (de_blt (cr_all G.calm) cd_all m_all bt_all (da_cons (de_lc (own := [("one", 2)]) G.calm sc_is_parting_row.nd (di_seq (dv 1)) (blkOk_by (N := N_is_parting_row) (sc := defScope (top 6)) (by decide +kernel)) (fun _ _ _ _ _ => (dg_nm 2 sc_is_parting_row.nd)) (fun _ _ _ _ _ => dts_nil) (fun _ _ _ _ _ => de_and (de_isi .int m_isinstance m_int (by decide +kernel) (dv 2)) (de_one (de_not (de_isi .bool m_isinstance m_bool (by decide +kernel) (dv 2)))))) (da_nil))))) (dss_one (ds_ret (de_bl))) (dss_nil))
    (dss_one (ds_ret (de_cmp (op_eqD G.room.units) od_eq (dv 1) (de_call (c_told_parts.mono (by decide)) G takes_cx (da_cons (dv 1) (da_nil))) (nomark _))))))) run_is_parting_row
theorem fn__law_is_int (F : FunD K "_law_is_int" "_law_is_int" (defArgs (top 21)) (defBody (top 21)) (defScope (top 21)) [] [] f fd) (hm : mg "_law_is_int" = some (.ref f)) (m_bool : mg "bool" = none) (m_int : mg "int" = none) (m_isinstance : mg "isinstance" = none) : Fn P w K mg base 1 "_law_is_int" ["value"] fs__law_is_int :=
  fn_mk (k := 0) F hm (F.bindsN fun _ _ _ _ _ _ us hl => match us, hl with | [_], _ => rfl) sc__law_is_int len__law_is_int (fun cdv A outer s H E G =>
    (show DSs _ _ (defBody (top 21)) w__law_is_int from dss_one (ds_ret (de_and (de_isi .int m_isinstance m_int (by decide +kernel) (dv 0)) (de_one (de_not (de_isi .bool m_isinstance m_bool (by decide +kernel) (dv 0)))))))) run__law_is_int
theorem fn__law_is_row (F : FunD K "_law_is_row" "_law_is_row" (defArgs (top 22)) (defBody (top 22)) (defScope (top 22)) [] [] f fd) (hm : mg "_law_is_row" = some (.ref f)) (c__law_is_int : Fn P w K mg base 1 "_law_is_int" ["value"] fs__law_is_int) (c__law_told_parts : Fn P w K mg base 1 "_law_told_parts" ["marks"] fs__law_told_parts) (m_isinstance : mg "isinstance" = none) (m_len : mg "len" = none) (m_tuple : mg "tuple" = none) : Fn P w K mg base 2 "_law_is_row" ["n", "value"] fs__law_is_row :=
  fn_mk (k := 1) F hm (F.bindsN fun _ _ _ _ _ _ us hl => match us, hl with | [_, _], _ => rfl) sc__law_is_row len__law_is_row (fun cdv A outer s H E G =>
    (show DSs _ _ (defBody (top 22)) w__law_is_row from dss_cons (ds_if (dt_w (dw_or (dt_not (dt_tru (de_isi .tuple m_isinstance m_tuple (by decide +kernel) (dv 1)))) (dw_or (dt_cmp (op_neD G.room.units) od_ne (de_blt call_lenD' cd_len m_len bt_len (da_cons (dv 1) (da_nil))) (dv 0) (nomark _)) (dw_or1 (dt_cmp (op_ne0 G.room.units) od_ne0 (de_lc (own := [("x", 2)]) G.calm sc__law_is_row.nd (di_seq (dv 1)) (blkOk_by (N := N__law_is_row) (sc := defScope (top 22)) (by decide +kernel)) (fun _ _ _ _ _ => (dg_nm 2 sc__law_is_row.nd)) (fun _ _ _ _ _ => dts_one (dt_not (dt_tru (de_call (c__law_is_int.mono (by decide)) G.blk takesF (da_cons (dv 2) (da_nil)))))) (fun _ _ _ _ _ => dv 2)) (de_lst (da_nil)) (nomark _)))))) (dss_one (ds_ret (de_bl))) (dss_nil))
    (dss_one (ds_ret (de_cmp (op_eqD G.room.units) od_eq (dv 1) (de_call (c__law_told_parts.mono (by decide)) G takes_cx (da_cons (dv 1) (da_nil))) (nomark _)))))) run__law_is_row
theorem fn_law (F : FunD K "law" "law" (defArgs (top 23)) (defBody (top 23)) (defScope (top 23)) [] [] f fd) (hm : mg "law" = some (.ref f)) (c__law_source : Fn P w K mg base 1 "_law_source" ["script"] fs__law_source) (c__law_frame : Fn P w K mg base 3 "_law_frame" ["source", "most", "roads"] fs__law_frame) (c_standing_ends : Fn P w K mg base 1 "standing_ends" ["frame"] fs_standing_ends) (c__law_standing : Fn P w K mg base 1 "_law_standing" ["frame"] fs__law_standing) (c_leads_to : Fn P w K mg base 2 "leads_to" ["frame", "end"] fs_leads_to) (c_stands_at : Fn P w K mg base 1 "stands_at" ["frame", "end"] fs_stands_at) (c_back_end : Fn P w K mg base 1 "back_end" ["end"] fs_back_end) (c__law_leads : Fn P w K mg base 1 "_law_leads" ["frame", "end"] fs__law_leads) (c__law_parting : Fn P w K mg base 2 "_law_parting" ["source", "n"] fs__law_parting) (c_is_finer : Fn P w K mg base 1 "is_finer" ["one", "other"] fs_is_finer) (c__law_is_finer : Fn P w K mg base 1 "_law_is_finer" ["one", "other"] fs__law_is_finer) (c__law_pick : Fn P w K mg base 1 "_law_pick" ["source", "many"] fs__law_pick) (c_told_parts : Fn P w K mg base 1 "told_parts" ["marks"] fs_told_parts) (c__law_told_parts : Fn P w K mg base 1 "_law_told_parts" ["marks"] fs__law_told_parts) (c_ends_by_parts : Fn P w K mg base 3 "ends_by_parts" ["frame", "parting", "crossing"] fs_ends_by_parts) (c__law_by_parts : Fn P w K mg base 2 "_law_by_parts" ["frame", "parting", "crossing"] fs__law_by_parts) (c__law_of : Fn P w K mg base 2 "_law_of" ["source", "some"] fs__law_of) (c_is_parting_row : Fn P w K mg base 2 "is_parting_row" ["frame", "value"] fs_is_parting_row) (c__law_is_row : Fn P w K mg base 2 "_law_is_row" ["n", "value"] fs__law_is_row) (m_len : mg "len" = none) (m_list : mg "list" = none) (m_min : mg "min" = none) (m_range : mg "range" = none) (m_repr : mg "repr" = none) (m_tuple : mg "tuple" = none) : FnG P w K mg base (L2.CX P w) 4 f fd ["script"] (lift mg K 1 fs_law) :=
  fng_mk (k := 3) F sc_law (fun cdv A outer s H E G =>
    (show DSs _ _ (defBody (top 23)) w_law from dss_cons (ds_set (i := 1) sc_law.nd (de_call (c__law_source.mono (by decide)) G takes_cx (da_cons (dv 0) (da_nil))))
    (dss_cons (ds_forR passes_cx G.calm (di_range1r m_range (da_cons (de_int) (da_nil))) (dg_nm 2 sc_law.nd) (dss_cons (ds_set (i := 3) sc_law.nd (de_call (c__law_frame.mono (by decide)) G takes_cx (da_cons (dv 1) (da_cons (de_ix ix_seq od_ix (de_lst (da_cons (de_int) (da_cons (de_int) (da_cons (de_int) (da_cons (de_int) (da_nil)))))) (dv 2)) (da_cons (de_ix ix_seq od_ix (de_lst (da_cons (de_int) (da_cons (de_int) (da_cons (de_int) (da_cons (de_int) (da_nil)))))) (dv 2)) (da_nil))))))
    (dss_cons (ds_par (i := 4) (j := 5) G.calm sc_law.nd (da_cons (de_ix ix_seq od_ix (dv 3) (de_int)) (da_cons (de_blt (call_reprD G) cd_repr m_repr bt_repr (da_cons (dv 3) (da_nil))) (da_nil))))
    (dss_cons (ds_if (dt_cmp (op_neD G.room.units) od_ne (de_blt (call_reprD G) cd_repr m_repr bt_repr (da_cons (de_call (c_standing_ends.mono (by decide)) G takes_cx (da_cons (dv 3) (da_nil))) (da_nil))) (de_blt (call_reprD G) cd_repr m_repr bt_repr (da_cons (de_call (c__law_standing.mono (by decide)) G takes_cx (da_cons (dv 3) (da_nil))) (da_nil))) (nomark _)) (dss_one (ds_ret (de_bl))) (dss_nil))
    (dss_cons (ds_forR passes_cx G.calm (di_range1r m_range (da_cons (de_bin op_mulA od_mulA (de_int) (de_blt call_lenD' cd_len m_len bt_len (da_cons (de_ix ix_seq od_ix (dv 3) (de_int)) (da_nil)))) (da_nil))) (dg_nm 6 sc_law.nd) (dss_cons (ds_setLc (own := [("c", 13)]) G.calm sc_law.nd (di_range1 m_range (da_cons (dv 4) (da_nil))) (blkOk_by (N := N_law) (sc := defScope (top 23)) (by decide +kernel)) (fun _ _ _ _ _ => (dg_nm 13 sc_law.nd)) (fun _ _ _ _ _ => dts_one (dt_cmp (op_inX (u65 G.blk)) (od_inX false) (dv 6) (de_ix ix_seq od_ix (de_call (c__law_standing.mono (by decide)) G.blk takesF (da_cons (dv 3) (da_nil))) (dv 13)) (by rfl))) (fun _ _ _ _ _ => dv 13) (sw_true rfl rfl rfl (by decide +kernel)))
    (dss_cons (ds_set (i := 19) sc_law.nd (de_if (dt_cmp (op_eqD G.room.units) od_eq (de_bin op_sub od_sub (dv 6) (de_bin op_mulA od_mulA (de_bin op_fdivW od_fdivW (dv 6) (de_int)) (de_int))) (de_int) (nomark _)) (de_bin op_addD od_add (dv 6) (de_int)) (de_bin op_sub od_sub (dv 6) (de_int))))
    (dss_cons (ds_set (i := 20) sc_law.nd (de_lst (da_cons (de_call (c_back_end.mono (by decide)) G takes_cx (da_cons (dv 6) (da_nil))) (da_cons (de_call (c_stands_at.mono (by decide)) G takes_cx (da_cons (dv 3) (da_cons (dv 6) (da_nil)))) (da_cons (de_call (c_leads_to.mono (by decide)) G takes_cx (da_cons (dv 3) (da_cons (dv 6) (da_nil)))) (da_nil))))))
    (dss_one (ds_if (dt_cmp (op_neD G.room.units) od_ne (de_blt (call_reprD G) cd_repr m_repr bt_repr (da_cons (dv 20) (da_nil))) (de_blt (call_reprD G) cd_repr m_repr bt_repr (da_cons (de_lst (da_cons (dv 19) (da_cons (de_ix ix_seq od_ix (dv 18) (de_int)) (da_cons (de_call (c__law_leads.mono (by decide)) G takes_cx (da_cons (dv 3) (da_cons (dv 6) (da_nil)))) (da_nil))))) (da_nil))) (nomark _)) (dss_one (ds_ret (de_bl))) (dss_nil)))))))
    (dss_cons (ds_par (i := 7) (j := 8) G.calm sc_law.nd (da_cons (de_call (c__law_parting.mono (by decide)) G takes_cx (da_cons (dv 1) (da_cons (dv 4) (da_nil)))) (da_cons (de_call (c__law_parting.mono (by decide)) G takes_cx (da_cons (dv 1) (da_cons (dv 4) (da_nil)))) (da_nil))))
    (dss_cons (ds_set (i := 9) sc_law.nd (de_ty call_toT cd_tuple m_tuple bt_tuple (da_cons (de_lc (own := [("part", 22)]) G.calm sc_law.nd (di_seq (dv 7)) (blkOk_by (N := N_law) (sc := defScope (top 23)) (by decide +kernel)) (fun _ _ _ _ _ => (dg_nm 22 sc_law.nd)) (fun _ _ _ _ _ => dts_nil) (fun _ _ _ _ _ => de_blt (call_min2 G.blk.calm) cd_min2 m_min bt_min (da_cons (dv 22) (da_cons (de_int) (da_nil))))) (da_nil))))
    (dss_cons (ds_for passes_cx G.calm (di_seq (de_tup (da_cons (de_tup (da_cons (dv 7) (da_cons (dv 8) (da_nil)))) (da_cons (de_tup (da_cons (dv 8) (da_cons (dv 7) (da_nil)))) (da_cons (de_tup (da_cons (dv 7) (da_cons (dv 9) (da_nil)))) (da_cons (de_tup (da_cons (dv 7) (da_cons (dv 7) (da_nil)))) (da_cons (de_tup (da_cons (dv 9) (da_cons (de_bin op_mulA od_mulA (de_tup (da_cons (de_int) (da_nil))) (dv 4)) (da_nil)))) (da_nil)))))))) (dg_tp G.calm (dgs_cons (dg_nm 10 sc_law.nd) (dgs_cons (dg_nm 11 sc_law.nd) dgs_nil))) (dss_one (ds_if (dt_cmp (op_neD G.room.units) od_ne (de_blt (call_reprD G) cd_repr m_repr bt_repr (da_cons (de_call (c_is_finer.mono (by decide)) G takes_cx (da_cons (dv 10) (da_cons (dv 11) (da_nil)))) (da_nil))) (de_blt (call_reprD G) cd_repr m_repr bt_repr (da_cons (de_call (c__law_is_finer.mono (by decide)) G takes_cx (da_cons (dv 10) (da_cons (dv 11) (da_nil)))) (da_nil))) (nomark _)) (dss_one (ds_ret (de_bl))) (dss_nil))))
    (dss_cons (ds_setLc (own := [("c", 13)]) G.calm sc_law.nd (di_range1 m_range (da_cons (dv 4) (da_nil))) (blkOk_by (N := N_law) (sc := defScope (top 23)) (by decide +kernel)) (fun _ _ _ _ _ => (dg_nm 13 sc_law.nd)) (fun _ _ _ _ _ => dts_nil) (fun _ _ _ _ _ => de_bin op_sub od_sub (de_call (c__law_pick.mono (by decide)) G.blk takesF (da_cons (dv 1) (da_cons (de_int) (da_nil)))) (de_int)) (sw_true rfl rfl rfl (by decide +kernel)))
    (dss_cons (ds_if (dt_cmp (op_neD G.room.units) od_ne (de_blt (call_reprD G) cd_repr m_repr bt_repr (da_cons (de_lst (da_cons (de_call (c_told_parts.mono (by decide)) G takes_cx (da_cons (dv 12) (da_nil))) (da_cons (de_call (c_told_parts.mono (by decide)) G takes_cx (da_cons (de_ty call_toT cd_tuple m_tuple bt_tuple (da_cons (dv 12) (da_nil))) (da_nil))) (da_nil)))) (da_nil))) (de_blt (call_reprD G) cd_repr m_repr bt_repr (da_cons (de_bin op_mulA od_mulA (de_lst (da_cons (de_call (c__law_told_parts.mono (by decide)) G takes_cx (da_cons (dv 12) (da_nil))) (da_nil))) (de_int)) (da_nil))) (nomark _)) (dss_one (ds_ret (de_bl))) (dss_nil))
    (dss_cons (ds_forR passes_cx G.calm (di_range1r m_range (da_cons (dv 4) (da_nil))) (dg_nm 13 sc_law.nd) (dss_one (ds_if (dt_cmp (op_neD G.room.units) od_ne (de_blt (call_reprD G) cd_repr m_repr bt_repr (da_cons (de_call (c_ends_by_parts.mono (by decide)) G takes_cx (da_cons (dv 3) (da_cons (dv 7) (da_cons (dv 13) (da_nil))))) (da_nil))) (de_blt (call_reprD G) cd_repr m_repr bt_repr (da_cons (de_call (c__law_by_parts.mono (by decide)) G takes_cx (da_cons (dv 3) (da_cons (dv 7) (da_cons (dv 13) (da_nil))))) (da_nil))) (nomark _)) (dss_one (ds_ret (de_bl))) (dss_nil))))
    (dss_cons (ds_set (i := 14) sc_law.nd (de_call (c__law_pick.mono (by decide)) G takes_cx (da_cons (dv 1) (da_cons (dv 4) (da_nil)))))
    (dss_cons (ds_set (i := 15) sc_law.nd (de_call (c__law_of.mono (by decide)) G takes_cx (da_cons (dv 1) (da_cons (de_lst (da_cons (de_non) (da_cons (de_bl) (da_cons (de_un un_neg ud_neg (de_int)) (da_cons (dv 4) (da_cons (de_int) (da_cons (de_int) (da_cons (de_str) (da_cons (de_tup (da_nil)) (da_cons (de_tup (da_cons (de_int) (da_nil))) (da_cons (de_bin op_pow od_pow (de_int) (de_int)) (da_nil)))))))))))) (da_nil)))))
    (dss_cons (ds_set (i := 16) sc_law.nd (de_lst (da_cons (dv 7) (da_cons (de_rev (dv 7)) (da_cons (de_ty call_list_of cd_list m_list bt_list (da_cons (dv 7) (da_nil))) (da_cons (de_slice (dv 7) (do_so (de_int)) (do_no)) (da_cons (de_bin op_addD od_add (dv 7) (de_tup (da_cons (de_int) (da_nil)))) (da_cons (de_bin op_addD od_add (de_bin op_addD od_add (de_slice (dv 7) (do_no) (do_so (dv 14))) (de_tup (da_cons (dv 15) (da_nil)))) (de_slice (dv 7) (do_so (de_bin op_addD od_add (dv 14) (de_int))) (do_no))) (da_cons (de_bin op_mulA od_mulA (de_tup (da_cons (de_int) (da_nil))) (dv 4)) (da_cons (de_non) (da_cons (de_tup (da_nil)) (da_cons (de_int) (da_nil)))))))))))))
    (dss_cons (ds_frz [12, 16] (ds_for passes_cx G.calm (di_seq (de_bin op_addD od_add (dv 16) (de_lst (da_cons (de_ty call_toT cd_tuple m_tuple bt_tuple (da_cons (dv 12) (da_nil))) (da_cons (de_bin op_mulA od_mulA (de_tup (da_cons (de_int) (da_nil))) (dv 4)) (da_cons (de_tupRg G.calm m_tuple (dr_1 m_range (dv 4))) (da_cons (de_str) (da_cons (de_dctF) (da_nil))))))))) (dg_nm 17 sc_law.nd) (dss_cons (ds_set (i := 21) sc_law.nd (de_blt (call_reprD G) cd_repr m_repr bt_repr (da_cons (dv 17) (da_nil))))
    (dss_one (ds_if (dt_w (dw_or (dt_cmp (op_neD G.room.units) od_ne (de_blt (call_reprD G) cd_repr m_repr bt_repr (da_cons (de_call (c_is_parting_row.mono (by decide)) G takes_cx (da_cons (dv 3) (da_cons (dv 17) (da_nil)))) (da_nil))) (de_blt (call_reprD G) cd_repr m_repr bt_repr (da_cons (de_call (c__law_is_row.mono (by decide)) G takes_cx (da_cons (dv 4) (da_cons (dv 17) (da_nil)))) (da_nil))) (nomark _)) (dw_or1 (dt_cmp (op_neD G.room.units) od_ne (de_blt (call_reprD G) cd_repr m_repr bt_repr (da_cons (dv 17) (da_nil))) (dv 21) (nomark _))))) (dss_one (ds_ret (de_bl))) (dss_nil))))))
    (dss_one (ds_if (dt_cmp (op_neD G.room.units) od_ne (de_blt (call_reprD G) cd_repr m_repr bt_repr (da_cons (dv 3) (da_nil))) (dv 5) (nomark _)) (dss_one (ds_ret (de_bl))) (dss_nil))))))))))))))))))
    (dss_one (ds_ret (de_cmp (op_eqD G.room.units) od_eq (de_call (c_told_parts.mono (by decide)) G takes_cx (da_cons (de_lst (da_cons (de_int) (da_cons (de_int) (da_cons (de_int) (da_nil))))) (da_nil))) (de_tup (da_cons (de_int) (da_cons (de_int) (da_cons (de_int) (da_nil))))) (nomark _))))))) run_law
end
abbrev FnP (x : Str) (st : Stmt) : He.DefD := ⟨(x, none), x, x, defArgs st, defBody st, defScope st, [], []⟩
def dd__law_source : He.DefD := FnP "_law_source" (top 10)
def dd__law_pick : He.DefD := FnP "_law_pick" (top 11)
def dd__law_mixed : He.DefD := FnP "_law_mixed" (top 13)
def dd__law_frame : He.DefD := FnP "_law_frame" (top 14)
def dd_standing_ends : He.DefD := FnP "standing_ends" (top 1)
def dd__law_standing : He.DefD := FnP "_law_standing" (top 16)
def dd_stands_at : He.DefD := FnP "stands_at" (top 3)
def dd_back_end : He.DefD := FnP "back_end" (top 2)
def dd_leads_to : He.DefD := FnP "leads_to" (top 4)
def dd__law_leads : He.DefD := FnP "_law_leads" (top 15)
def dd__law_told_parts : He.DefD := FnP "_law_told_parts" (top 17)
def dd__law_parting : He.DefD := FnP "_law_parting" (top 20)
def dd_is_finer : He.DefD := FnP "is_finer" (top 7)
def dd__law_is_finer : He.DefD := FnP "_law_is_finer" (top 19)
def dd_told_parts : He.DefD := FnP "told_parts" (top 5)
def dd_ends_by_parts : He.DefD := FnP "ends_by_parts" (top 8)
def dd__law_by_parts : He.DefD := FnP "_law_by_parts" (top 18)
def dd__law_of : He.DefD := FnP "_law_of" (top 12)
def dd_is_parting_row : He.DefD := FnP "is_parting_row" (top 6)
def dd__law_is_int : He.DefD := FnP "_law_is_int" (top 21)
def dd__law_is_row : He.DefD := FnP "_law_is_row" (top 22)
def dd_law : He.DefD := FnP "law" (top 23)
def fn : List He.DefD := [dd__law_source, dd__law_pick, dd__law_mixed, dd__law_frame, dd_standing_ends, dd__law_standing, dd_stands_at, dd_back_end, dd_leads_to, dd__law_leads, dd__law_told_parts, dd__law_parting, dd_is_finer, dd__law_is_finer, dd_told_parts, dd_ends_by_parts, dd__law_by_parts, dd__law_of, dd_is_parting_row, dd__law_is_int, dd__law_is_row, dd_law]
def fa : List He.Fa := [.glo "_law_source", .glo "_law_pick", .glo "_law_mixed", .glo "_law_frame", .glo "standing_ends", .glo "_law_standing", .glo "stands_at", .glo "back_end", .glo "leads_to", .glo "_law_leads", .glo "_law_told_parts", .glo "_law_parting", .glo "is_finer", .glo "_law_is_finer", .glo "told_parts", .glo "ends_by_parts", .glo "_law_by_parts", .glo "_law_of", .glo "is_parting_row", .glo "_law_is_int", .glo "_law_is_row", .glo "law", .free "abs", .free "all", .free "bool", .free "dict", .free "enumerate", .free "int", .free "isinstance", .free "len", .free "list", .free "max", .free "min", .free "range", .free "repr", .free "tuple", .free "zip"]
abbrev R : PySem.W.OpenRow := PySem.W.OpenLaw.row PySem.Challenge.rw_covernets_k16_partings_and_ends
abbrev hk : PySem.W.Hook := He.hookD 4 fa fn
def ob (s : PySem.W.SharedT) : He.AlD := He.obsDG 4 fa fn (HandSHeadRun.getT s)
theorem ob_eq (s : PySem.W.SharedT) : ob s = hk.obs s.abs := He.obsDG_eq (HandSHeadRun.getT_eq s)
def loose : List Str := (["standing_ends", "back_end", "stands_at", "leads_to", "told_parts", "is_parting_row", "is_finer", "ends_by_parts", "_law_source", "_law_pick", "_law_of", "_law_mixed", "_law_frame", "_law_leads", "_law_standing", "_law_told_parts", "_law_by_parts", "_law_is_finer", "_law_parting", "_law_is_int", "_law_is_row"] : List Str)
theorem run (w : World) : HandSHeadRun.RunEq R (PySem.W.view R.prog [23]) hk ob 4000 loose w := by
  intro os
  kernel_rfl
theorem facts {P : Program} {w : World} {K : PySem.W.Frag} {h : Heap} {mg : Str → Option Value} {f : Addr} (X : K.In h) (G : h.Ns mainGlobals mg) (hfa : mg ("law" : Str) = some (.ref f)) (c : He.SaysD fa fn K) :
    ∃ fd : FuncData, (∀ (s : Shared) (v : Value), BindsTo s fd ⟨[v], []⟩ [("script", v)]) ∧ ∀ base : Heap, K.In base → base.Ns mainGlobals mg → FnG P w K mg base (L2.CX P w) 4 f fd ["script"] (lift mg K 1 fs_law) := by
  obtain ⟨fd__law_source, F__law_source⟩ := c.def_ 0 (d := dd__law_source) rfl
  have hm__law_source := He.glo_ok X G (c.fact 0 (f := .glo "_law_source") rfl)
  obtain ⟨fd__law_pick, F__law_pick⟩ := c.def_ 1 (d := dd__law_pick) rfl
  have hm__law_pick := He.glo_ok X G (c.fact 1 (f := .glo "_law_pick") rfl)
  obtain ⟨fd__law_mixed, F__law_mixed⟩ := c.def_ 2 (d := dd__law_mixed) rfl
  have hm__law_mixed := He.glo_ok X G (c.fact 2 (f := .glo "_law_mixed") rfl)
  obtain ⟨fd__law_frame, F__law_frame⟩ := c.def_ 3 (d := dd__law_frame) rfl
  have hm__law_frame := He.glo_ok X G (c.fact 3 (f := .glo "_law_frame") rfl)
  obtain ⟨fd_standing_ends, F_standing_ends⟩ := c.def_ 4 (d := dd_standing_ends) rfl
  have hm_standing_ends := He.glo_ok X G (c.fact 4 (f := .glo "standing_ends") rfl)
  obtain ⟨fd__law_standing, F__law_standing⟩ := c.def_ 5 (d := dd__law_standing) rfl
  have hm__law_standing := He.glo_ok X G (c.fact 5 (f := .glo "_law_standing") rfl)
  obtain ⟨fd_stands_at, F_stands_at⟩ := c.def_ 6 (d := dd_stands_at) rfl
  have hm_stands_at := He.glo_ok X G (c.fact 6 (f := .glo "stands_at") rfl)
  obtain ⟨fd_back_end, F_back_end⟩ := c.def_ 7 (d := dd_back_end) rfl
  have hm_back_end := He.glo_ok X G (c.fact 7 (f := .glo "back_end") rfl)
  obtain ⟨fd_leads_to, F_leads_to⟩ := c.def_ 8 (d := dd_leads_to) rfl
  have hm_leads_to := He.glo_ok X G (c.fact 8 (f := .glo "leads_to") rfl)
  obtain ⟨fd__law_leads, F__law_leads⟩ := c.def_ 9 (d := dd__law_leads) rfl
  have hm__law_leads := He.glo_ok X G (c.fact 9 (f := .glo "_law_leads") rfl)
  obtain ⟨fd__law_told_parts, F__law_told_parts⟩ := c.def_ 10 (d := dd__law_told_parts) rfl
  have hm__law_told_parts := He.glo_ok X G (c.fact 10 (f := .glo "_law_told_parts") rfl)
  obtain ⟨fd__law_parting, F__law_parting⟩ := c.def_ 11 (d := dd__law_parting) rfl
  have hm__law_parting := He.glo_ok X G (c.fact 11 (f := .glo "_law_parting") rfl)
  obtain ⟨fd_is_finer, F_is_finer⟩ := c.def_ 12 (d := dd_is_finer) rfl
  have hm_is_finer := He.glo_ok X G (c.fact 12 (f := .glo "is_finer") rfl)
  obtain ⟨fd__law_is_finer, F__law_is_finer⟩ := c.def_ 13 (d := dd__law_is_finer) rfl
  have hm__law_is_finer := He.glo_ok X G (c.fact 13 (f := .glo "_law_is_finer") rfl)
  obtain ⟨fd_told_parts, F_told_parts⟩ := c.def_ 14 (d := dd_told_parts) rfl
  have hm_told_parts := He.glo_ok X G (c.fact 14 (f := .glo "told_parts") rfl)
  obtain ⟨fd_ends_by_parts, F_ends_by_parts⟩ := c.def_ 15 (d := dd_ends_by_parts) rfl
  have hm_ends_by_parts := He.glo_ok X G (c.fact 15 (f := .glo "ends_by_parts") rfl)
  obtain ⟨fd__law_by_parts, F__law_by_parts⟩ := c.def_ 16 (d := dd__law_by_parts) rfl
  have hm__law_by_parts := He.glo_ok X G (c.fact 16 (f := .glo "_law_by_parts") rfl)
  obtain ⟨fd__law_of, F__law_of⟩ := c.def_ 17 (d := dd__law_of) rfl
  have hm__law_of := He.glo_ok X G (c.fact 17 (f := .glo "_law_of") rfl)
  obtain ⟨fd_is_parting_row, F_is_parting_row⟩ := c.def_ 18 (d := dd_is_parting_row) rfl
  have hm_is_parting_row := He.glo_ok X G (c.fact 18 (f := .glo "is_parting_row") rfl)
  obtain ⟨fd__law_is_int, F__law_is_int⟩ := c.def_ 19 (d := dd__law_is_int) rfl
  have hm__law_is_int := He.glo_ok X G (c.fact 19 (f := .glo "_law_is_int") rfl)
  obtain ⟨fd__law_is_row, F__law_is_row⟩ := c.def_ 20 (d := dd__law_is_row) rfl
  have hm__law_is_row := He.glo_ok X G (c.fact 20 (f := .glo "_law_is_row") rfl)
  obtain ⟨fd_law, F_law⟩ := c.def_ 21 (d := dd_law) rfl
  have hm_law := He.glo_ok X G (c.fact 21 (f := .glo "law") rfl)
  have m_abs := He.free_ok X G (c.fact 22 (f := .free "abs") rfl)
  have m_all := He.free_ok X G (c.fact 23 (f := .free "all") rfl)
  have m_bool := He.free_ok X G (c.fact 24 (f := .free "bool") rfl)
  have m_dict := He.free_ok X G (c.fact 25 (f := .free "dict") rfl)
  have m_enumerate := He.free_ok X G (c.fact 26 (f := .free "enumerate") rfl)
  have m_int := He.free_ok X G (c.fact 27 (f := .free "int") rfl)
  have m_isinstance := He.free_ok X G (c.fact 28 (f := .free "isinstance") rfl)
  have m_len := He.free_ok X G (c.fact 29 (f := .free "len") rfl)
  have m_list := He.free_ok X G (c.fact 30 (f := .free "list") rfl)
  have m_max := He.free_ok X G (c.fact 31 (f := .free "max") rfl)
  have m_min := He.free_ok X G (c.fact 32 (f := .free "min") rfl)
  have m_range := He.free_ok X G (c.fact 33 (f := .free "range") rfl)
  have m_repr := He.free_ok X G (c.fact 34 (f := .free "repr") rfl)
  have m_tuple := He.free_ok X G (c.fact 35 (f := .free "tuple") rfl)
  have m_zip := He.free_ok X G (c.fact 36 (f := .free "zip") rfl)
  have e := hfa.symm.trans hm_law
  cases e
  have b := FunD.bindsA (ps := ["script"]) F_law fun _ _ _ _ _ _ us hl => match us, hl with | [_], _ => rfl
  refine ⟨fd_law, fun s v => b s [v] rfl, fun base _ _ => ?_⟩
  have c__law_source := fn__law_source (P := P) (w := w) (base := base) F__law_source hm__law_source m_int m_abs
  have c__law_pick := fn__law_pick (P := P) (w := w) (base := base) F__law_pick hm__law_pick m_int m_max m_len
  have c__law_mixed := fn__law_mixed (P := P) (w := w) (base := base) F__law_mixed hm__law_mixed c__law_pick m_len m_list m_range
  have c__law_frame := fn__law_frame (P := P) (w := w) (base := base) F__law_frame hm__law_frame c__law_pick c__law_mixed m_range m_tuple
  have c_standing_ends := fn_standing_ends (P := P) (w := w) (base := base) F_standing_ends hm_standing_ends m_enumerate m_range
  have c__law_standing := fn__law_standing (P := P) (w := w) (base := base) F__law_standing hm__law_standing m_enumerate m_range
  have c_stands_at := fn_stands_at (P := P) (w := w) (base := base) F_stands_at hm_stands_at 
  have c_back_end := fn_back_end (P := P) (w := w) (base := base) F_back_end hm_back_end 
  have c_leads_to := fn_leads_to (P := P) (w := w) (base := base) F_leads_to hm_leads_to c_stands_at c_back_end
  have c__law_leads := fn__law_leads (P := P) (w := w) (base := base) F__law_leads hm__law_leads 
  have c__law_told_parts := fn__law_told_parts (P := P) (w := w) (base := base) F__law_told_parts hm__law_told_parts m_len m_tuple
  have c__law_parting := fn__law_parting (P := P) (w := w) (base := base) F__law_parting hm__law_parting c__law_told_parts c__law_pick m_range
  have c_is_finer := fn_is_finer (P := P) (w := w) (base := base) F_is_finer hm_is_finer m_dict m_len m_max m_zip
  have c__law_is_finer := fn__law_is_finer (P := P) (w := w) (base := base) F__law_is_finer hm__law_is_finer m_dict m_len m_zip
  have c_told_parts := fn_told_parts (P := P) (w := w) (base := base) F_told_parts hm_told_parts m_len m_tuple
  have c_ends_by_parts := fn_ends_by_parts (P := P) (w := w) (base := base) F_ends_by_parts hm_ends_by_parts c_standing_ends c_leads_to m_max m_tuple
  have c__law_by_parts := fn__law_by_parts (P := P) (w := w) (base := base) F__law_by_parts hm__law_by_parts c__law_standing c__law_leads m_max m_range m_tuple
  have c__law_of := fn__law_of (P := P) (w := w) (base := base) F__law_of hm__law_of c__law_pick m_len
  have c_is_parting_row := fn_is_parting_row (P := P) (w := w) (base := base) F_is_parting_row hm_is_parting_row c_told_parts m_all m_bool m_int m_isinstance m_len m_tuple
  have c__law_is_int := fn__law_is_int (P := P) (w := w) (base := base) F__law_is_int hm__law_is_int m_bool m_int m_isinstance
  have c__law_is_row := fn__law_is_row (P := P) (w := w) (base := base) F__law_is_row hm__law_is_row c__law_is_int c__law_told_parts m_isinstance m_len m_tuple
  have c_law := fn_law (P := P) (w := w) (base := base) F_law hm_law c__law_source c__law_frame c_standing_ends c__law_standing c_leads_to c_stands_at c_back_end c__law_leads c__law_parting c_is_finer c__law_is_finer c__law_pick c_told_parts c__law_told_parts c_ends_by_parts c__law_by_parts c__law_of c_is_parting_row c__law_is_row m_len m_list m_min m_range m_repr m_tuple
  exact c_law
end DL
open PySem PySem.W PySem.Calls PyProof.Rows
theorem PySem.Challenge.cw_covernets_k16_partings_and_ends_holds : PySem.Challenge.rw_covernets_k16_partings_and_ends.Holds := by
  w_on; o_law
  refine HandSHeadRun.head_any (r := OpenLaw.row PySem.Challenge.rw_covernets_k16_partings_and_ends) (q := view (OpenLaw.row PySem.Challenge.rw_covernets_k16_partings_and_ends).prog [23]) (H := DL.hk) (ob := DL.ob) (M := 4000) (loose := DL.loose) (d := HandSHeadRun.topDef (OpenLaw.row PySem.Challenge.rw_covernets_k16_partings_and_ends).prog 23) (kwd := []) DL.ob_eq
    (by kernel_rfl) (fun s => by kernel_rfl) DL.run (by kernel_rfl) (by kernel_rfl) (by kernel_rfl) (by rfl) (by first | assumption | decide +kernel) (by decide +kernel) ⟨rfl, rfl, rfl, rfl, rfl, by decide +kernel⟩ ?hw ?hc
  case hw => w_witness2
  case hc =>
    refine DL.walk_D (l := PySem.Challenge.rw_covernets_k16_partings_and_ends) (n := 63) (k := 4) (x := "script") rfl (by decide) (by kernel_rfl) ⟨rfl, by decide, by decide⟩ ?F
    intro w mg fa h Y G hmg0
    obtain ⟨K, KX, c⟩ := Y
    have hmg : mg ("law" : PySem.Str) = some (.ref fa) := by
      have e : (HandSHeadRun.topDef (OpenLaw.row PySem.Challenge.rw_covernets_k16_partings_and_ends).prog 23).name = ("law" : PySem.Str) := by kernel_rfl
      rw [← e]
      exact hmg0
    obtain ⟨fd, hb, hF⟩ := DL.facts (P := (PySem.Challenge.rw_covernets_k16_partings_and_ends).prog) (w := w) KX G hmg c
    exact ⟨K, fd, DL.fs_law, KX, hb, fun ns hl => DL.law_true ns hl, hF⟩

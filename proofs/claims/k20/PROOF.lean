import PyProof.Rows.All
import Wide.All
import OpenK.AllK
import Wide.FinOn
import HandS.ForMost
import HandS.ForExc
import HandS.Wide
import HandS.Zip
import KE.GoesEnum
import HandS.TupMul
import HandS.IsInst
import HandS.Deep
import HandS.ExcInit
import HandS.ExcField
import HandS.TryMany
import KE.KExcIs
import HandS.ExcIs
import KE.KExcPX
import HandS.Star
import HandS.Dict
import HandS.Style
import HandS.DictComp
import HandS.WordsDict
import HandS.Small
import HandS.Flt
import HandS.Text
import HandS.Steps
import PyProof.StrOps2
import HandS.SortInts
import HandS.More
import HandS.Conv
import KE.KTupSum
import KE.KDictZip
import HandS.Iter
import PyProof.EnumMake
import PyProof.LayNew
import HandS.Set
import HandS.SetFor
import HandS.Strs
import HandS.Property
import HandS.ExcValue
import KE.SortData
import KE.DatumOrd
import HandS.Head0
import HandS.Head1
import HandS.Head2
import HandS.HeadEnd
import HandS.HeadHook1
import PySem.Challenge.RW_fewroots_k20_plane_trees_judged
set_option Elab.async false
set_option linter.all false
set_option maxRecDepth 100000
namespace L3
open PySem PySem.Spec L2

abbrev D := PyData
/-! ### what a value stands for, in the frozen part F of the heap -/
def kD : Key → D
  | .inl i => .int i
  | .inr x => .str x
/-- a tuple that stands as a tuple, or a constant of the module -/
def SqU (K : PySem.W.Frag) (F : Hp) (a : Addr) (xs : List V) : Prop := F a = some (.tup xs) ∨ SqT K (fun _ => none) a xs
theorem SqU.T {K : PySem.W.Frag} {F : Hp} {a : Addr} {xs : List V} (h : SqU K F a xs) : SqT K F a xs := by
  rcases h with h | (h | ⟨_, h⟩) | h
  · exact .inl (.inl h)
  · cases h
  · cases h
  · exact .inr h
mutual
inductive Rp (K : PySem.W.Frag) (F : Hp) : V → D → Prop
  | non : Rp K F .non .none
  | bl (b : Bool) : Rp K F (.bl b) (.bool b)
  | int (i : Int) : Rp K F (.int i) (.int i)
  | str (x : Str) : Rp K F (.str x) (.str x)
  | lst {a : Addr} {vs : List V} {ds : List D} : SqL K F a vs → RpA K F vs ds → Rp K F (.ref a) (.list ds)
  | tup {a : Addr} {vs : List V} {ds : List D} : SqU K F a vs → RpA K F vs ds → Rp K F (.ref a) (.tuple ds)
  | dct {a : Addr} {kvs : List (Key × V)} {es : List (D × D)} : F a = some (.dK kvs) → RpK K F kvs es → Rp K F (.ref a) (.dict es)
inductive RpA (K : PySem.W.Frag) (F : Hp) : List V → List D → Prop
  | nil : RpA K F [] []
  | cons {v : V} {vs : List V} {d : D} {ds : List D} : Rp K F v d → RpA K F vs ds → RpA K F (v :: vs) (d :: ds)
inductive RpK (K : PySem.W.Frag) (F : Hp) : List (Key × V) → List (D × D) → Prop
  | nil : RpK K F [] []
  | cons {k : Key} {v : V} {kvs : List (Key × V)} {d : D} {es : List (D × D)} : Rp K F v d → RpK K F kvs es → RpK K F ((k, v) :: kvs) ((kD k, d) :: es)
end
theorem sameU {K : PySem.W.Frag} {F F' : Hp} {a : Addr} {xs : List V} (e : Same F F') (h : SqU K F a xs) : SqU K F' a xs := by
  rcases h with h | h
  · exact .inl (e _ _ h)
  · exact .inr h
theorem sameT {K : PySem.W.Frag} {F F' : Hp} {a : Addr} {xs : List V} (e : Same F F') (h : SqU K F a xs) : SqT K F' a xs := (sameU e h).T
section
variable {K : PySem.W.Frag} {F F' : Hp}
mutual
theorem Rp.mono (e : Same F F') : ∀ {v : V} {d : D}, Rp K F v d → Rp K F' v d
  | _, _, .non => .non
  | _, _, .bl b => .bl b
  | _, _, .int i => .int i
  | _, _, .str x => .str x
  | _, _, .lst h r => .lst (e.seq h) (RpA.mono e r)
  | _, _, .tup h r => .tup (sameU e h) (RpA.mono e r)
  | _, _, .dct h r => .dct (e _ _ h) (RpK.mono e r)
theorem RpA.mono (e : Same F F') : ∀ {vs : List V} {ds : List D}, RpA K F vs ds → RpA K F' vs ds
  | _, _, .nil => .nil
  | _, _, .cons h r => .cons (Rp.mono e h) (RpA.mono e r)
theorem RpK.mono (e : Same F F') : ∀ {vs : List (Key × V)} {ds : List (D × D)}, RpK K F vs ds → RpK K F' vs ds
  | _, _, .nil => .nil
  | _, _, .cons h r => .cons (Rp.mono e h) (RpK.mono e r)
end
theorem RpA.length : ∀ {vs : List V} {ds : List D}, RpA K F vs ds → vs.length = ds.length
  | _, _, .nil => rfl
  | _, _, .cons _ r => by rw [List.length_cons, List.length_cons, RpA.length r]
theorem RpA.get : ∀ {vs : List V} {ds : List D} {i : Nat} {d : D}, RpA K F vs ds → ds[i]? = some d → ∃ v, vs[i]? = some v ∧ Rp K F v d
  | _, _, _, _, .nil, e => by simp at e
  | _, _, 0, _, .cons h _, e => by
    simp only [List.getElem?_cons_zero, Option.some.injEq] at e
    subst e
    exact ⟨_, rfl, h⟩
  | _, _, i + 1, _, .cons _ r, e => by
    rw [List.getElem?_cons_succ] at e
    obtain ⟨v, h1, h2⟩ := RpA.get r e
    exact ⟨v, by rw [List.getElem?_cons_succ]; exact h1, h2⟩
theorem RpA.getV : ∀ {vs : List V} {ds : List D} {i : Nat} {v : V}, RpA K F vs ds → vs[i]? = some v → ∃ d, ds[i]? = some d ∧ Rp K F v d
  | _, _, _, _, .nil, e => by simp at e
  | _, _, 0, _, .cons h _, e => by
    simp only [List.getElem?_cons_zero, Option.some.injEq] at e
    subst e
    exact ⟨_, rfl, h⟩
  | _, _, i + 1, _, .cons _ r, e => by
    rw [List.getElem?_cons_succ] at e
    obtain ⟨v, h1, h2⟩ := RpA.getV r e
    exact ⟨v, by rw [List.getElem?_cons_succ]; exact h1, h2⟩
theorem RpA.append : ∀ {vs ws : List V} {ds es : List D}, RpA K F vs ds → RpA K F ws es → RpA K F (vs ++ ws) (ds ++ es)
  | _, _, _, _, .nil, s => s
  | _, _, _, _, .cons h r, s => .cons h (RpA.append r s)
theorem RpA.take : ∀ {vs : List V} {ds : List D} (n : Nat), RpA K F vs ds → RpA K F (vs.take n) (ds.take n)
  | _, _, 0, _ => .nil
  | _, _, _ + 1, .nil => .nil
  | _, _, n + 1, .cons h r => .cons h (RpA.take n r)
theorem RpA.drop : ∀ {vs : List V} {ds : List D} (n : Nat), RpA K F vs ds → RpA K F (vs.drop n) (ds.drop n)
  | _, _, 0, r => r
  | _, _, _ + 1, .nil => .nil
  | _, _, n + 1, .cons _ r => RpA.drop n r
theorem RpA.set : ∀ {vs : List V} {ds : List D} (i : Nat) {v : V} {d : D}, Rp K F v d → RpA K F vs ds → RpA K F (vs.set i v) (ds.set i d)
  | _, _, _, _, _, _, .nil => .nil
  | _, _, 0, _, _, q, .cons _ r => .cons q r
  | _, _, i + 1, _, _, q, .cons h r => .cons h (RpA.set i q r)
theorem RpA.reverse {vs : List V} {ds : List D} (h : RpA K F vs ds) : RpA K F vs.reverse ds.reverse := by
  induction vs generalizing ds with
  | nil => cases h; exact .nil
  | cons v vs ih =>
    cases h with
    | cons h r =>
      rw [List.reverse_cons, List.reverse_cons]
      exact RpA.append (ih r) (.cons h .nil)
theorem RpA.rep {vs : List V} {ds : List D} (h : RpA K F vs ds) : ∀ k : Nat, RpA K F (List.replicate k vs).flatten (List.replicate k ds).flatten
  | 0 => .nil
  | k + 1 => by
    rw [List.replicate_succ, List.replicate_succ, List.flatten_cons, List.flatten_cons]
    exact RpA.append h (RpA.rep h k)
theorem RpA.eraseIdx : ∀ {vs : List V} {ds : List D} (i : Nat), RpA K F vs ds → RpA K F (vs.eraseIdx i) (ds.eraseIdx i)
  | _, _, _, .nil => .nil
  | _, _, 0, .cons _ r => r
  | _, _, i + 1, .cons h r => .cons h (RpA.eraseIdx i r)
theorem RpA.dropLast {vs : List V} {ds : List D} (h : RpA K F vs ds) : RpA K F vs.dropLast ds.dropLast := by
  rw [List.dropLast_eq_take, List.dropLast_eq_take, h.length]
  exact h.take _
theorem RpA.ints : ∀ {ns : List Int} {vs : List V}, RpA K F vs (ns.map PyData.int) → vs = ns.map V.int
  | [], _, h => by cases h; rfl
  | n :: ns, _, h => by
    cases h with
    | cons h r =>
      cases h
      rw [RpA.ints r]
      rfl
theorem RpA.bools : ∀ {ns : List Bool} {vs : List V}, RpA K F vs (ns.map PyData.bool) → vs = ns.map V.bl
  | [], _, h => by cases h; rfl
  | n :: ns, _, h => by
    cases h with
    | cons h r =>
      cases h
      rw [RpA.bools r]
      rfl
theorem RpA.strs : ∀ {ns : List Str} {vs : List V}, RpA K F vs (ns.map PyData.str) → vs = ns.map V.str
  | [], _, h => by cases h; rfl
  | n :: ns, _, h => by
    cases h with
    | cons h r =>
      cases h
      rw [RpA.strs r]
      rfl
theorem RpA.of_ints : ∀ (ns : List Int), RpA K F (ns.map V.int) (ns.map PyData.int)
  | [] => .nil
  | n :: ns => .cons (.int n) (RpA.of_ints ns)
theorem RpA.of_strs : ∀ (ns : List Str), RpA K F (ns.map V.str) (ns.map PyData.str)
  | [] => .nil
  | n :: ns => .cons (.str n) (RpA.of_strs ns)
mutual
theorem Rp.dp : ∀ {d : D} {v : V}, Rp K F v d → d.canLay0 = true → Dp K F v d
  | .none, _, h, _ => by cases h; exact .non
  | .bool b, _, h, _ => by cases h; exact .bl b
  | .int i, _, h, _ => by cases h; exact .int i
  | .str x, _, h, _ => by cases h; exact .str x
  | .list ds, _, h, c => by
    cases h with
    | lst h r => exact .lst h (RpA.dp r (by simpa [PyData.canLay0] using c))
  | .tuple ds, _, h, c => by
    cases h with
    | tup h r => exact .tup h.T (RpA.dp r (by simpa [PyData.canLay0] using c))
  | .dict es, _, h, c => by simp [PyData.canLay0] at c
theorem RpA.dp : ∀ {ds : List D} {vs : List V}, RpA K F vs ds → PyData.canLayAll0 ds = true → DpAll K F vs ds
  | [], _, h, _ => by cases h; exact .nil
  | d :: ds, _, h, c => by
    cases h with
    | cons h r =>
      have c' : d.canLay0 = true ∧ PyData.canLayAll0 ds = true := by simpa [PyData.canLayAll0] using c
      exact .cons (Rp.dp h c'.1) (RpA.dp r c'.2)
end
end

/-! ### cells: frozen data, or an object of one's own -/
inductive Cl where
  | fz (d : D)
  | lst (ds : List D)
  | dct (es : List (Key × D))
  | dtt (es : List (List Key × D))
  | dlk (es : List (Key × D))
  | dlt (es : List (List Key × D))
  | bx (d : D) (es : List (Key × D))
  | ins (c : Str) (fs : List (Str × D))
  | exn (c : Str) (fs : List (Str × D))
  | nst (dss : List (List D)) (od : Option D)
abbrev Cl.i (n : Int) : Cl := .fz (.int n)
abbrev Cl.b (n : Bool) : Cl := .fz (.bool n)
abbrev Cl.t (ns : List D) : Cl := .fz (.tuple ns)

inductive RpKs (K : PySem.W.Frag) (F : Hp) {κ : Type} : List (κ × V) → List (κ × D) → Prop
  | nil : RpKs K F [] []
  | cons {k : κ} {v : V} {kvs : List (κ × V)} {d : D} {es : List (κ × D)} : Rp K F v d → RpKs K F kvs es → RpKs K F ((k, v) :: kvs) ((k, d) :: es)
theorem RpKs.mono {K : PySem.W.Frag} {F F' : Hp} {κ : Type} (e : Same F F') : ∀ {vs : List (κ × V)} {ds : List (κ × D)}, RpKs K F vs ds → RpKs K F' vs ds
  | _, _, .nil => .nil
  | _, _, .cons h r => .cons (Rp.mono e h) (RpKs.mono e r)

/-- an exception object, kept: its class, its dict -/
def ExT (cls : Value) (d : Option Addr) (a : Addr) : HO := .ext fun h => ∃ (oe : Obj) (vs : Array Value), h.get? a = some oe ∧ Zc cls d oe ∧ oe.data = .fields vs
/-! ### lists of one's own, in a list -/
inductive OwL (K : PySem.W.Frag) (F H : Hp) : List V → List (List D) → List Addr → Prop
  | nil : OwL K F H [] [] []
  | cons {m : Addr} {vs ms : List V} {ds : List D} {dss : List (List D)} {A : List Addr} : H m = some (.lst vs) → F m = none → RpA K F vs ds → OwL K F H ms dss A → OwL K F H (.ref m :: ms) (ds :: dss) (m :: A)
section
variable {K : PySem.W.Frag} {F F' H H' : Hp}
theorem OwL.mono (e : Same F F') : ∀ {ms : List V} {dss : List (List D)} {A : List Addr}, OwL K F H ms dss A → (∀ a ∈ A, F' a = none ∧ H' a = H a) → OwL K F' H' ms dss A
  | _, _, _, .nil, _ => .nil
  | _, _, _, .cons h f r q, k => .cons ((k _ (.head _)).2.trans h) (k _ (.head _)).1 (r.mono e) (OwL.mono e q fun a m => k a (.tail _ m))
theorem OwL.fr : ∀ {ms : List V} {dss : List (List D)} {A : List Addr}, OwL K F H ms dss A → ∀ a ∈ A, F a = none ∧ ∃ o, H a = some o
  | _, _, _, .nil, _, m => nomatch m
  | _, _, _, .cons h f _ q, a, m => by
    rcases List.mem_cons.mp m with rfl | m
    · exact ⟨f, _, h⟩
    · exact OwL.fr q a m
theorem OwL.lst : ∀ {ms : List V} {dss : List (List D)} {A : List Addr}, OwL K F H ms dss A → ∀ a ∈ A, ∃ vs, H a = some (.lst vs)
  | _, _, _, .nil, _, m => nomatch m
  | _, _, _, .cons h _ _ q, a, m => by
    rcases List.mem_cons.mp m with rfl | m
    · exact ⟨_, h⟩
    · exact OwL.lst q a m
/-- .. seen in a heap that holds them all -/
theorem OwL.rp (e : Same F F') : ∀ {ms : List V} {dss : List (List D)} {A : List Addr}, OwL K F H ms dss A → (∀ a ∈ A, F' a = H a) → RpA K F' ms (dss.map PyData.list)
  | _, _, _, .nil, _ => .nil
  | _, _, _, .cons h _ r q, k => .cons (.lst (.inl (.inl ((k _ (.head _)).trans h))) (r.mono e)) (OwL.rp e q fun a m => k a (.tail _ m))
end
inductive CR (K : PySem.W.Frag) (cl : Str → Addr → Prop) (F H : Hp) : Cl → V → List Addr → Prop
  | fz {d : D} {v : V} : Rp K F v d → CR K cl F H (.fz d) v []
  | lst {a : Addr} {vs : List V} {ds : List D} : H a = some (.lst vs) → F a = none → RpA K F vs ds → CR K cl F H (.lst ds) (.ref a) [a]
  | dct {a : Addr} {kvs : List (Key × V)} {es : List (Key × D)} : H a = some (.dK kvs) → F a = none → RpKs K F kvs es → CR K cl F H (.dct es) (.ref a) [a]
  | dtt {a : Addr} {kvs : List (List Key × V)} {es : List (List Key × D)} : H a = some (.dT kvs) → F a = none → RpKs K F kvs es → CR K cl F H (.dtt es) (.ref a) [a]
  | dlk {a : Addr} {o : Obj} {kvs : List (Key × V)} {es : List (Key × D)} : F a = some (.frz o (.dK kvs)) → RpKs K F kvs es → CR K cl F H (.dlk es) (.ref a) []
  | dlt {a : Addr} {o : Obj} {kvs : List (List Key × V)} {es : List (List Key × D)} : F a = some (.frz o (.dT kvs)) → RpKs K F kvs es → CR K cl F H (.dlt es) (.ref a) []
  | bx {a b : Addr} {v : V} {d : D} {kvs : List (Key × V)} {es : List (Key × D)} : H a = some (.lst [v, .ref b]) → F a = none → Rp K F v d → H b = some (.dK kvs) → F b = none → RpKs K F kvs es → CR K cl F H (.bx d es) (.ref a) [a, b]
  | ins {a C dx : Addr} {c : Str} {kvs : List (Str × V)} {es : List (Str × D)} : cl c C → H a = some (.ins C dx kvs) → F a = none → F dx = some (.own a) → RpKs K F kvs es → CR K cl F H (.ins c es) (.ref a) [a]
  | exn {a C : Addr} {c : Str} {d : Option Addr} {es : List (Str × D)} : cl c C → F a = some (ExT (.ref C) d a) → ((es = [] ∧ d = none) ∨ ∃ dd kvs, d = some dd ∧ F dd = some (.xd kvs) ∧ RpKs K F kvs es) → CR K cl F H (.exn c es) (.ref a) []
  | lls {p : Addr} {ms : List V} {dss : List (List D)} {A : List Addr} : H p = some (.lst ms) → F p = none → OwL K F H ms dss A → CR K cl F H (.nst dss none) (.ref p) (p :: A)
  | nst {a p : Addr} {w : V} {ms : List V} {dss : List (List D)} {d : D} {A : List Addr} : H a = some (.lst [.ref p, w]) → F a = none → H p = some (.lst ms) → F p = none → OwL K F H ms dss A → Rp K F w d → CR K cl F H (.nst dss (some d)) (.ref a) (a :: p :: A)
theorem CR.mono {K : PySem.W.Frag} {cl : Str → Addr → Prop} {F F' H H' : Hp} {c : Cl} {v : V} {A : List Addr} (e : Same F F') (h : CR K cl F H c v A) (hA : ∀ a ∈ A, F' a = none ∧ H' a = H a) : CR K cl F' H' c v A := by
  cases h with
  | fz r => exact .fz (r.mono e)
  | lst h1 h2 r => exact .lst ((hA _ (List.mem_singleton.mpr rfl)).2.trans h1) (hA _ (List.mem_singleton.mpr rfl)).1 (r.mono e)
  | dct h1 h2 r => exact .dct ((hA _ (List.mem_singleton.mpr rfl)).2.trans h1) (hA _ (List.mem_singleton.mpr rfl)).1 (r.mono e)
  | dtt h1 h2 r => exact .dtt ((hA _ (List.mem_singleton.mpr rfl)).2.trans h1) (hA _ (List.mem_singleton.mpr rfl)).1 (r.mono e)
  | dlk h1 r => exact .dlk (e _ _ h1) (r.mono e)
  | dlt h1 r => exact .dlt (e _ _ h1) (r.mono e)
  | bx h1 h2 r h3 h4 rk => exact .bx ((hA _ (by simp)).2.trans h1) (hA _ (by simp)).1 (r.mono e) ((hA _ (by simp)).2.trans h3) (hA _ (by simp)).1 (rk.mono e)
  | ins hc h1 h2 h3 r => exact .ins hc ((hA _ (List.mem_singleton.mpr rfl)).2.trans h1) (hA _ (List.mem_singleton.mpr rfl)).1 (e _ _ h3) (r.mono e)
  | exn hc h1 h2 =>
    refine .exn hc (e _ _ h1) ?_
    rcases h2 with h2 | ⟨dd, kvs, h3, h4, h5⟩
    · exact .inl h2
    · exact .inr ⟨dd, kvs, h3, e _ _ h4, h5.mono e⟩
  | lls h f q => exact .lls ((hA _ (.head _)).2.trans h) (hA _ (.head _)).1 (q.mono e fun a m => hA a (.tail _ m))
  | nst h f h' f' q r => exact .nst ((hA _ (.head _)).2.trans h) (hA _ (.head _)).1 ((hA _ (.tail _ (.head _))).2.trans h') (hA _ (.tail _ (.head _))).1 (q.mono e fun a m => hA a (.tail _ (.tail _ m))) (r.mono e)
theorem CR.fr {K : PySem.W.Frag} {cl : Str → Addr → Prop} {F H : Hp} {c : Cl} {v : V} {A : List Addr} (h : CR K cl F H c v A) : ∀ a ∈ A, F a = none ∧ ∃ o, H a = some o := by
  intro a ha
  cases h with
  | fz r => cases ha
  | lst h1 h2 r => rw [List.mem_singleton.mp ha]; exact ⟨h2, _, h1⟩
  | dct h1 h2 r => rw [List.mem_singleton.mp ha]; exact ⟨h2, _, h1⟩
  | dtt h1 h2 r => rw [List.mem_singleton.mp ha]; exact ⟨h2, _, h1⟩
  | dlk h1 r => cases ha
  | dlt h1 r => cases ha
  | bx h1 h2 r h3 h4 rk =>
    rcases List.mem_cons.mp ha with z | z
    · rw [z]; exact ⟨h2, _, h1⟩
    · rw [List.mem_singleton.mp z]; exact ⟨h4, _, h3⟩
  | ins hc h1 h2 h3 r => rw [List.mem_singleton.mp ha]; exact ⟨h2, _, h1⟩
  | exn hc h1 h2 => cases ha
  | lls h f q =>
    rcases List.mem_cons.mp ha with z | z
    · rw [z]; exact ⟨f, _, h⟩
    · exact q.fr a z
  | nst h f h' f' q r =>
    rcases List.mem_cons.mp ha with z | z
    · rw [z]; exact ⟨f, _, h⟩
    · rcases List.mem_cons.mp z with z | z
      · rw [z]; exact ⟨f', _, h'⟩
      · exact q.fr a z

inductive HL (K : PySem.W.Frag) (cl : Str → Addr → Prop) (F H : Hp) : List (Cl × V) → List Addr → Prop
  | nil : HL K cl F H [] []
  | cons {c : Cl} {v : V} {L : List (Cl × V)} {A B : List Addr} : CR K cl F H c v A → HL K cl F H L B → HL K cl F H ((c, v) :: L) (A ++ B)
section
variable {K : PySem.W.Frag} {cl : Str → Addr → Prop} {F F' H H' : Hp}
theorem HL.mono (e : Same F F') : ∀ {L : List (Cl × V)} {A : List Addr}, HL K cl F H L A → (∀ a ∈ A, F' a = none ∧ H' a = H a) → HL K cl F' H' L A
  | _, _, .nil, _ => .nil
  | _, _, .cons h r, hA => .cons (h.mono e fun a ha => hA a (List.mem_append_left _ ha)) (r.mono e fun a ha => hA a (List.mem_append_right _ ha))
theorem HL.fr : ∀ {L : List (Cl × V)} {A : List Addr}, HL K cl F H L A → ∀ a ∈ A, F a = none ∧ ∃ o, H a = some o
  | _, _, .nil, _, h => by cases h
  | _, _, .cons h r, a, ha => (List.mem_append.mp ha).elim (h.fr a) (r.fr a)
theorem HL.perm {L L' : List (Cl × V)} (p : L.Perm L') : ∀ {A : List Addr}, HL K cl F H L A → ∃ A', A.Perm A' ∧ HL K cl F H L' A' := by
  induction p with
  | nil => intro A h; exact ⟨A, .refl _, h⟩
  | cons x p ih =>
    intro A h
    cases h with
    | cons h r =>
      obtain ⟨A', q, r'⟩ := ih r
      exact ⟨_, List.Perm.append_left _ q, .cons h r'⟩
  | swap x y l =>
    intro A h
    cases h with
    | cons h1 r =>
      cases r with
      | cons h2 r =>
        refine ⟨_, ?_, .cons h2 (.cons h1 r)⟩
        rw [← List.append_assoc, ← List.append_assoc]
        exact List.Perm.append_right _ List.perm_append_comm
  | trans p q ih1 ih2 =>
    intro A h
    obtain ⟨A1, q1, h1⟩ := ih1 h
    obtain ⟨A2, q2, h2⟩ := ih2 h1
    exact ⟨A2, q1.trans q2, h2⟩
theorem HL.left : ∀ {L M : List (Cl × V)} {A : List Addr}, HL K cl F H (L ++ M) A → ∃ A1 A2, A = A1 ++ A2 ∧ HL K cl F H L A1 ∧ HL K cl F H M A2
  | [], M, A, h => ⟨[], A, rfl, .nil, h⟩
  | x :: L, M, _, h => by
    cases h with
    | cons h r =>
      obtain ⟨A1, A2, e, h1, h2⟩ := HL.left r
      rw [e]
      exact ⟨_, A2, by rw [List.append_assoc], .cons h h1, h2⟩

structure HR (K : PySem.W.Frag) (cl : Str → Addr → Prop) (F H : Hp) (L : List (Cl × V)) : Prop where
  sub : Same F H
  own : ∃ A, A.Nodup ∧ HL K cl F H L A
theorem HR.perm {L L' : List (Cl × V)} (h : HR K cl F H L) (p : L.Perm L') : HR K cl F H L' := by
  obtain ⟨s, A, n, r⟩ := h
  obtain ⟨A', q, r'⟩ := r.perm p
  exact ⟨s, A', q.nodup_iff.mp n, r'⟩
theorem HR.left {L M : List (Cl × V)} (h : HR K cl F H (L ++ M)) : HR K cl F H L := by
  obtain ⟨s, A, n, r⟩ := h
  obtain ⟨A1, A2, e, h1, h2⟩ := r.left
  rw [e] at n
  exact ⟨s, A1, (List.nodup_append.mp n).1, h1⟩
theorem HR.tail {x : Cl × V} {L : List (Cl × V)} (h : HR K cl F H (x :: L)) : HR K cl F H L :=
  (h.perm (L' := L ++ [x]) (List.perm_append_comm (l₁ := [x]) (l₂ := L))).left
theorem HR.drop2 {x y : Cl × V} {L : List (Cl × V)} (h : HR K cl F H (x :: y :: L)) : HR K cl F H (x :: L) :=
  (h.perm (.swap _ _ _)).tail
theorem HR.swap {x y : Cl × V} {L : List (Cl × V)} (h : HR K cl F H (x :: y :: L)) : HR K cl F H (y :: x :: L) := h.perm (.swap _ _ _)
theorem HR.head {c : Cl} {v : V} {L : List (Cl × V)} (h : HR K cl F H ((c, v) :: L)) : ∃ A, CR K cl F H c v A := by
  obtain ⟨s, A, n, r⟩ := h
  cases r with
  | cons h r => exact ⟨_, h⟩
theorem HR.mem {c : Cl} {v : V} {L : List (Cl × V)} (h : HR K cl F H L) (m : (c, v) ∈ L) : ∃ A, CR K cl F H c v A := by
  obtain ⟨L', p⟩ : ∃ L', L.Perm ((c, v) :: L') := by
    obtain ⟨a, b, e⟩ := List.append_of_mem m
    exact ⟨a ++ b, by rw [e]; exact List.perm_middle⟩
  exact (h.perm p).head
theorem HR.rp {d : D} {v : V} {L : List (Cl × V)} (h : HR K cl F H ((.fz d, v) :: L)) : Rp K F v d := by
  obtain ⟨A, q⟩ := h.head
  cases q with
  | fz r => exact r
theorem HR.push {d : D} {v : V} {L : List (Cl × V)} (h : HR K cl F H L) (r : Rp K F v d) : HR K cl F H ((.fz d, v) :: L) := by
  obtain ⟨s, A, n, q⟩ := h
  exact ⟨s, [] ++ A, n, .cons (.fz r) q⟩
/-- a new frozen object -/
theorem HR.newF {L : List (Cl × V)} {p : Addr} {o : HO} (h : HR K cl F H L) (hp : H p = none) : Same F (upd F p o) ∧ HR K cl (upd F p o) (upd H p o) L := by
  obtain ⟨s, A, n, q⟩ := h
  have fp : F p = none := s.free hp
  have sm : Same F (upd F p o) := fun b u e => by rw [upd_ne (ne_of_none e fp)]; exact e
  refine ⟨sm, fun b u e => ?_, A, n, q.mono sm fun a ha => ?_⟩
  · by_cases hb : b = p
    · subst hb; rw [upd_same] at e ⊢; exact e
    · rw [upd_ne hb] at e ⊢; exact s _ _ e
  · obtain ⟨h1, u, h2⟩ := q.fr a ha
    have ne : a ≠ p := ne_of_none h2 hp
    rw [upd_ne ne, upd_ne ne]
    exact ⟨h1, rfl⟩
/-- a new object of one's own -/
theorem HR.newO {L : List (Cl × V)} {p : Addr} {o : HO} {c : Cl} (h : HR K cl F H L) (hp : H p = none) (hc : CR K cl F (upd H p o) c (.ref p) [p]) : HR K cl F (upd H p o) ((c, .ref p) :: L) := by
  obtain ⟨s, A, n, q⟩ := h
  have np : ∀ a ∈ A, a ≠ p := fun a ha => by
    obtain ⟨_, u, h2⟩ := q.fr a ha
    exact ne_of_none h2 hp
  refine ⟨fun b u e => ?_, [p] ++ A, List.nodup_cons.mpr ⟨fun m => np p m rfl, n⟩, .cons hc (q.mono (Same.refl _) fun a ha => ⟨(q.fr a ha).1, upd_ne (np a ha)⟩)⟩
  rw [upd_ne (ne_of_none (s _ _ e) hp)]
  exact s _ _ e
/-- an object of one's own is changed -/
theorem HR.mut {L : List (Cl × V)} {p : Addr} {o : HO} {c c' : Cl} (h : HR K cl F H ((c, .ref p) :: L)) (h1 : ∀ A, CR K cl F H c (.ref p) A → A = [p]) (hc : CR K cl F (upd H p o) c' (.ref p) [p]) : HR K cl F (upd H p o) ((c', .ref p) :: L) := by
  obtain ⟨s, A, n, q⟩ := h
  cases q with
  | cons q r =>
    have e := h1 _ q
    subst e
    have n' := List.nodup_cons.mp n
    have fp := (q.fr p (List.mem_singleton.mpr rfl)).1
    refine ⟨fun b u e => ?_, _, n, .cons hc (r.mono (Same.refl _) fun a ha => ⟨(r.fr a ha).1, upd_ne fun z => n'.1 (z ▸ ha)⟩)⟩
    rw [upd_ne (ne_of_none e fp)]
    exact s _ _ e
theorem kd_map {κ : Type} : True := trivial
theorem RpKs.rpK : ∀ {kvs : List (Key × V)} {es : List (Key × D)}, RpKs K F kvs es → RpK K F kvs (es.map fun p => (kD p.1, p.2))
  | _, _, .nil => .nil
  | _, _, .cons h r => .cons h (RpKs.rpK r)
/-- what a cell is when nobody changes it any more -/
def Cl.data : Cl → Option D
  | .fz d => some d
  | .lst ds => some (.list ds)
  | .dct es => some (.dict (es.map fun p => (kD p.1, p.2)))
  | .dtt _ => none
  | .dlk _ => none
  | .dlt _ => none
  | .bx _ _ => none
  | .ins _ _ => none
  | .exn _ _ => none
  | .nst _ _ => none
/-- .. frozen -/
theorem HR.freeze {L : List (Cl × V)} {c : Cl} {v : V} {d : D} (h : HR K cl F H ((c, v) :: L)) (e : c.data = some d) : ∃ F', Same F F' ∧ HR K cl F' H ((.fz d, v) :: L) := by
  obtain ⟨s, A, n, q⟩ := h
  cases q with
  | cons q r =>
    have go : ∀ (a : Addr) (o : HO), H a = some o → F a = none → (∀ F', Same F F' → F' a = some o → Rp K F' (.ref a) d) → v = .ref a → (∀ b, HL K cl F H L b → (([a] ++ b).Nodup → True)) → ∀ B, ([a] ++ B).Nodup → HL K cl F H L B → ∃ F', Same F F' ∧ HR K cl F' H ((.fz d, v) :: L) := by
      intro a o h1 h2 h3 ev _ B nB rB
      subst ev
      have n' := List.nodup_cons.mp nB
      have sm : Same F (upd F a o) := fun b u e => by rw [upd_ne (ne_of_none e h2)]; exact e
      refine ⟨upd F a o, sm, fun b u e => ?_, [] ++ B, n'.2, .cons (.fz (h3 _ sm upd_same)) (rB.mono sm fun b hb => ⟨?_, rfl⟩)⟩
      · by_cases hb : b = a
        · subst hb; rw [upd_same] at e; rw [h1]; exact e
        · rw [upd_ne hb] at e; exact s _ _ e
      · have hb' : b ∈ B := hb
        have nb : b ≠ a := fun z => by subst z; exact n'.1 hb'
        rw [upd_ne nb]
        exact (rB.fr b hb').1
    cases q with
    | fz r' =>
      cases e
      exact ⟨F, Same.refl _, s, _, n, .cons (.fz r') r⟩
    | lst h1 h2 r' =>
      cases e
      exact go _ _ h1 h2 (fun F' sm hF => .lst (.inl (.inl hF)) (r'.mono sm)) rfl (fun _ _ _ => trivial) _ n r
    | dct h1 h2 r' =>
      cases e
      exact go _ _ h1 h2 (fun F' sm hF => .dct hF (r'.mono sm).rpK) rfl (fun _ _ _ => trivial) _ n r
    | dtt h1 h2 r' => cases e
    | dlk h1 r' => cases e
    | dlt h1 r' => cases e
    | bx _ _ _ _ _ _ => cases e
    | ins hc h1 h2 h3 r' => cases e
    | exn hc h1 h2 => cases e
    | lls _ _ _ => cases e
    | nst _ _ _ _ _ _ => cases e
/-- the whole of a nested list of one's own, frozen -/
theorem HR.freezeN {L : List (Cl × V)} {v : V} {dss : List (List D)} {d : D} (h : HR K cl F H ((.nst dss (some d), v) :: L)) : ∃ F', Same F F' ∧ HR K cl F' H ((.fz (.list [.list (dss.map PyData.list), d]), v) :: L) := by
  obtain ⟨s, A, n, q⟩ := h
  cases q with
  | cons q r =>
    cases q with
    | @nst a p w ms _ _ A h1 h2 h3 h4 ow rw' =>
      have disj := List.nodup_append.mp n
      have sm : Same F fun b => if b ∈ a :: p :: A then H b else F b := fun b u eq => by
        show (if b ∈ a :: p :: A then H b else F b) = some u
        split
        · exact s _ _ eq
        · exact eq
      refine ⟨_, sm, fun b u eq => ?_, [] ++ _, disj.2.1, .cons (.fz (.lst (.inl (.inl ((if_pos (.head _)).trans h1))) (.cons (.lst (.inl (.inl ((if_pos (.tail _ (.head _))).trans h3))) (ow.rp sm fun b m => if_pos (.tail _ (.tail _ m)))) (.cons (rw'.mono sm) .nil)))) (r.mono sm fun b m => ⟨?_, rfl⟩)⟩
      · have eq : (if b ∈ a :: p :: A then H b else F b) = some u := eq
        split at eq
        · exact eq
        · exact s _ _ eq
      · exact (if_neg fun z => disj.2.2 b z b m rfl).trans (r.fr b m).1
end

/-! ### the slots -/
abbrev En := List (Option Cl)
def eL : En → St → List (Cl × V)
  | some c :: ρ, some v :: σ => (c, v) :: eL ρ σ
  | some _ :: ρ, none :: σ => eL ρ σ
  | none :: ρ, _ :: σ => eL ρ σ
  | _, _ => []
def EnOk : En → St → Prop
  | [], [] => True
  | some _ :: ρ, some _ :: σ => EnOk ρ σ
  | none :: ρ, _ :: σ => EnOk ρ σ
  | _, _ => False
theorem EnOk.len : ∀ {ρ : En} {σ : St}, EnOk ρ σ → ρ.length = σ.length
  | [], [], _ => rfl
  | some _ :: ρ, some _ :: σ, h => congrArg (· + 1) (EnOk.len (ρ := ρ) (σ := σ) h)
  | none :: ρ, _ :: σ, h => congrArg (· + 1) (EnOk.len (ρ := ρ) (σ := σ) h)
  | some _ :: _, none :: _, h => h.elim
  | [], _ :: _, h => h.elim
  | some _ :: _, [], h => h.elim
  | none :: _, [], h => h.elim
theorem en_get : ∀ {ρ : En} {σ : St} {i : Nat} {c : Cl}, EnOk ρ σ → ρ[i]? = some (some c) → ∃ v, σ[i]? = some (some v) ∧ (eL ρ σ).Perm ((c, v) :: eL (ρ.set i none) σ) ∧ EnOk (ρ.set i none) σ
  | [], _, _, _, _, e => by simp at e
  | some c' :: ρ, some v :: σ, 0, c, h, e => by
    simp only [List.getElem?_cons_zero, Option.some.injEq] at e
    subst e
    exact ⟨v, rfl, .refl _, h⟩
  | some c' :: ρ, some v :: σ, i + 1, c, h, e => by
    rw [List.getElem?_cons_succ] at e
    obtain ⟨w, h1, h2, h3⟩ := en_get (ρ := ρ) (σ := σ) h e
    refine ⟨w, by rw [List.getElem?_cons_succ]; exact h1, ?_, h3⟩
    exact (List.Perm.cons _ h2).trans (.swap _ _ _)
  | none :: ρ, x :: σ, 0, c, h, e => by simp at e
  | none :: ρ, x :: σ, i + 1, c, h, e => by
    rw [List.getElem?_cons_succ] at e
    obtain ⟨w, h1, h2, h3⟩ := en_get (ρ := ρ) (σ := σ) h e
    exact ⟨w, by rw [List.getElem?_cons_succ]; exact h1, h2, h3⟩
  | some _ :: _, none :: _, _, _, h, _ => h.elim
  | some _ :: _, [], _, _, h, _ => h.elim
  | none :: _, [], _, _, h, _ => h.elim
/-- a slot is stored -/
theorem en_set : ∀ {ρ : En} {σ : St} {i : Nat} (c : Cl) (v : V), EnOk ρ σ → i < ρ.length → EnOk (ρ.set i (some c)) (σ.set i (some v)) ∧ ∃ M, ((c, v) :: eL ρ σ).Perm (eL (ρ.set i (some c)) (σ.set i (some v)) ++ M)
  | [], _, _, _, _, _, e => by simp at e
  | some c' :: ρ, some v' :: σ, 0, c, v, h, _ => ⟨h, [(c', v')], by
      show ((c, v) :: (c', v') :: eL ρ σ).Perm ((c, v) :: (eL ρ σ ++ [(c', v')]))
      exact List.Perm.cons _ (List.perm_append_comm (l₁ := [(c', v')]) (l₂ := eL ρ σ))⟩
  | none :: ρ, x :: σ, 0, c, v, h, _ => ⟨h, [], by
      rw [List.append_nil]
      exact .refl _⟩
  | some c' :: ρ, some v' :: σ, i + 1, c, v, h, e => by
    obtain ⟨h1, M, h2⟩ := en_set (ρ := ρ) (σ := σ) (i := i) c v h (Nat.lt_of_succ_lt_succ e)
    exact ⟨h1, M, (List.Perm.swap _ _ _).trans (List.Perm.cons _ h2)⟩
  | none :: ρ, x :: σ, i + 1, c, v, h, e => by
    obtain ⟨h1, M, h2⟩ := en_set (ρ := ρ) (σ := σ) (i := i) c v h (Nat.lt_of_succ_lt_succ e)
    exact ⟨h1, M, h2⟩
  | some _ :: _, none :: _, _, _, _, h, _ => h.elim
  | some _ :: _, [], _, _, _, h, _ => h.elim
  | none :: _, [], _, _, _, h, _ => h.elim
/-- a slot's cell comes back -/
theorem en_put : ∀ {ρ : En} {σ : St} {i : Nat} {v : V} (c : Cl), EnOk ρ σ → ρ[i]? = some none → σ[i]? = some (some v) → EnOk (ρ.set i (some c)) σ ∧ ((c, v) :: eL ρ σ).Perm (eL (ρ.set i (some c)) σ)
  | [], _, _, _, _, _, e, _ => by simp at e
  | some c' :: ρ, some v' :: σ, 0, v, c, h, e, _ => by simp at e
  | none :: ρ, x :: σ, 0, v, c, h, _, e => by
    simp only [List.getElem?_cons_zero, Option.some.injEq] at e
    subst e
    exact ⟨h, .refl _⟩
  | some c' :: ρ, some v' :: σ, i + 1, v, c, h, e, e2 => by
    rw [List.getElem?_cons_succ] at e e2
    obtain ⟨h1, h2⟩ := en_put (ρ := ρ) (σ := σ) c h e e2
    exact ⟨h1, (List.Perm.swap _ _ _).trans (List.Perm.cons _ h2)⟩
  | none :: ρ, x :: σ, i + 1, v, c, h, e, e2 => by
    rw [List.getElem?_cons_succ] at e e2
    obtain ⟨h1, h2⟩ := en_put (ρ := ρ) (σ := σ) c h e e2
    exact ⟨h1, h2⟩
  | some _ :: _, none :: _, _, _, _, h, _, _ => h.elim
  | some _ :: _, [], _, _, _, h, _, _ => h.elim
  | none :: _, [], _, _, _, h, _, _ => h.elim
/-- a slot is emptied -/
theorem en_none : ∀ {ρ : En} {σ : St} (i : Nat) (o : Option V), EnOk ρ σ → EnOk (ρ.set i none) (σ.set i o) ∧ ∃ M, (eL ρ σ).Perm (eL (ρ.set i none) (σ.set i o) ++ M)
  | [], [], _, _, h => ⟨h, [], .refl _⟩
  | some c' :: ρ, some v' :: σ, 0, o, h => ⟨h, [(c', v')], (List.perm_append_comm (l₁ := [(c', v')]) (l₂ := eL ρ σ))⟩
  | none :: ρ, x :: σ, 0, o, h => ⟨h, [], by rw [List.append_nil]; exact .refl _⟩
  | some c' :: ρ, some v' :: σ, i + 1, o, h => by
    obtain ⟨h1, M, h2⟩ := en_none (ρ := ρ) (σ := σ) i o h
    exact ⟨h1, M, List.Perm.cons _ h2⟩
  | none :: ρ, x :: σ, i + 1, o, h => by
    obtain ⟨h1, M, h2⟩ := en_none (ρ := ρ) (σ := σ) i o h
    exact ⟨h1, M, h2⟩
  | some _ :: _, none :: _, _, _, h => h.elim
  | some _ :: _, [], _, _, h => h.elim
  | none :: _, [], _, _, h => h.elim
  | [], _ :: _, _, _, h => h.elim

structure R (K : PySem.W.Frag) (cl : Str → Addr → Prop) (F H : Hp) (ρ : En) (σ : St) (T : List (Cl × V)) : Prop where
  hr : HR K cl F H (eL ρ σ ++ T)
  ok : EnOk ρ σ
section
variable {K : PySem.W.Frag} {cl : Str → Addr → Prop} {F F' H H' : Hp} {ρ : En} {σ : St} {T : List (Cl × V)} {c : Cl} {v : V} {d : D} {i : Nat}
theorem mid {α : Type} (x : α) (L T : List α) : (L ++ x :: T).Perm (x :: (L ++ T)) := List.perm_middle
theorem R.mk' (h : HR K cl F H ((c, v) :: (eL ρ σ ++ T))) (ok : EnOk ρ σ) : R K cl F H ρ σ ((c, v) :: T) := ⟨h.perm (mid _ _ _).symm, ok⟩
theorem R.hr' (h : R K cl F H ρ σ ((c, v) :: T)) : HR K cl F H ((c, v) :: (eL ρ σ ++ T)) := h.hr.perm (mid _ _ _)
theorem R.tail (h : R K cl F H ρ σ ((c, v) :: T)) : R K cl F H ρ σ T := ⟨h.hr'.tail, h.ok⟩
theorem R.drop2 {x : Cl × V} (h : R K cl F H ρ σ ((c, v) :: x :: T)) : R K cl F H ρ σ ((c, v) :: T) := by
  refine .mk' ?_ h.ok
  exact (h.hr'.perm (List.Perm.cons _ (mid _ _ _))).drop2
theorem R.swap {c' : Cl} {v' : V} (h : R K cl F H ρ σ ((c, v) :: (c', v') :: T)) : R K cl F H ρ σ ((c', v') :: (c, v) :: T) := ⟨h.hr.perm (List.Perm.append_left _ (.swap _ _ _)), h.ok⟩
theorem R.sub (h : R K cl F H ρ σ T) : Same F H := h.hr.sub
theorem R.rp (h : R K cl F H ρ σ ((.fz d, v) :: T)) : Rp K F v d := h.hr'.rp
theorem R.push (h : R K cl F H ρ σ T) (r : Rp K F v d) : R K cl F H ρ σ ((.fz d, v) :: T) := .mk' (h.hr.push r) h.ok
theorem R.cr (h : R K cl F H ρ σ ((c, v) :: T)) : ∃ A, CR K cl F H c v A := h.hr'.head
theorem R.at (h : R K cl F H ρ σ T) (e : ρ[i]? = some (some c)) : ∃ v, σ[i]? = some (some v) ∧ ∃ A, CR K cl F H c v A := by
  obtain ⟨v, h1, h2, _⟩ := en_get h.ok e
  exact ⟨v, h1, ((h.hr.perm (List.Perm.append_right _ h2))).head⟩
theorem R.take (h : R K cl F H ρ σ T) (e : ρ[i]? = some (some c)) : ∃ v, σ[i]? = some (some v) ∧ R K cl F H (ρ.set i none) σ ((c, v) :: T) := by
  obtain ⟨v, h1, h2, h3⟩ := en_get h.ok e
  exact ⟨v, h1, .mk' (h.hr.perm (List.Perm.append_right _ h2)) h3⟩
theorem R.set (h : R K cl F H ρ σ ((c, v) :: T)) (hi : i < ρ.length) : R K cl F H (ρ.set i (some c)) (σ.set i (some v)) T := by
  obtain ⟨h1, M, h2⟩ := en_set c v h.ok hi
  refine ⟨?_, h1⟩
  have q : HR K cl F H ((c, v) :: eL ρ σ ++ T) := h.hr'
  refine ((q.perm (List.Perm.append_right T h2)).perm (L' := eL (ρ.set i (some c)) (σ.set i (some v)) ++ T ++ M) ?_).left
  rw [List.append_assoc, List.append_assoc]
  exact List.Perm.append_left _ List.perm_append_comm
theorem R.put (h : R K cl F H ρ σ ((c, v) :: T)) (e : ρ[i]? = some none) (e2 : σ[i]? = some (some v)) : R K cl F H (ρ.set i (some c)) σ T := by
  obtain ⟨h1, h2⟩ := en_put c h.ok e e2
  refine ⟨?_, h1⟩
  have q : HR K cl F H ((c, v) :: eL ρ σ ++ T) := h.hr'
  exact q.perm (List.Perm.append_right T h2)
theorem R.gone (h : R K cl F H ρ σ T) (i : Nat) (o : Option V) : R K cl F H (ρ.set i none) (σ.set i o) T := by
  obtain ⟨h1, M, h2⟩ := en_none i o h.ok
  refine ⟨((h.hr.perm (List.Perm.append_right T h2)).perm (L' := eL (ρ.set i none) (σ.set i o) ++ T ++ M) ?_).left, h1⟩
  rw [List.append_assoc, List.append_assoc]
  exact List.Perm.append_left _ List.perm_append_comm
theorem R.freeze (h : R K cl F H ρ σ ((c, v) :: T)) (e : c.data = some d) : ∃ F', Same F F' ∧ R K cl F' H ρ σ ((.fz d, v) :: T) := by
  obtain ⟨F', s, q⟩ := h.hr'.freeze e
  exact ⟨F', s, .mk' q h.ok⟩
end
end L3

namespace L3
open PySem PySem.Spec L2

/-! ### what the written part is; errors; results -/
structure Gd where
  K : PySem.W.Frag
  mg : Str → Option Value
def clOf (mg : Str → Option Value) (c : Str) (C : Addr) : Prop := mg c = some (.ref C)
abbrev Gd.R (G : Gd) (F H : Hp) (ρ : En) (σ : L2.St) (T : List (Cl × V)) : Prop := L3.R G.K (clOf G.mg) F H ρ σ T
abbrev Gd.HR (G : Gd) (F H : Hp) (L : List (Cl × V)) : Prop := L3.HR G.K (clOf G.mg) F H L
abbrev Gd.CR (G : Gd) (F H : Hp) (c : Cl) (v : V) (A : List Addr) : Prop := L3.CR G.K (clOf G.mg) F H c v A
structure Ex where
  cls : Str
  fs : List (Str × D)
def XR (G : Gd) (F : Hp) (x : Ex) (cls : Value) (d : Option Addr) : Prop :=
  ∃ C, G.mg x.cls = some (.ref C) ∧ cls = .ref C ∧ ((x.fs = [] ∧ d = none) ∨ ∃ dd fvs, d = some dd ∧ F dd = some (.xd fvs) ∧ RpKs G.K F fvs x.fs)
inductive Rz (α : Type) where
  | ok (a : α) (ρ : En)
  | ex (x : Ex) (ρ : En)
abbrev Fn (α : Type) := Nat → En → Option (Rz α)
def bnd {α β : Type} (x : Option (Rz α)) (k : α → En → Option (Rz β)) : Option (Rz β) :=
  match x with
  | some (.ok a ρ) => k a ρ
  | some (.ex x ρ) => some (.ex x ρ)
  | none => none
@[simp] theorem bnd_ok {α β : Type} (a : α) (ρ : En) (k : α → En → Option (Rz β)) : bnd (some (.ok a ρ)) k = k a ρ := rfl
@[simp] theorem bnd_ex {α β : Type} (x : Ex) (ρ : En) (k : α → En → Option (Rz β)) : bnd (some (.ex x ρ)) k = some (.ex x ρ) := rfl
@[simp] theorem bnd_none {α β : Type} (k : α → En → Option (Rz β)) : bnd none k = none := rfl

/-- what is wanted of an exception -/
def PoX (G : Gd) (W : WX) (F : Hp) (σ : L2.St) (T : List (Cl × V)) (x : Ex) (ρ : En) : Prop :=
  ∀ F' H' cls d, Same F F' → G.R F' H' ρ σ T → XR G F' x cls d → W cls d σ H'
theorem PoX.mono {G : Gd} {W : WX} {F F1 : Hp} {σ : L2.St} {T : List (Cl × V)} {x : Ex} {ρ : En} (h : PoX G W F σ T x ρ) (s : Same F F1) : PoX G W F1 σ T x ρ :=
  fun F' H' cls d s' r q => h F' H' cls d (s.trans s') r q

/-! ### operands: a slot's cell as it stands, or a value -/
inductive Bv where
  | pl (i : Nat)
  | vl (c : Cl)
def lk (ρ : En) : Bv → Option Cl
  | .pl i => (ρ[i]?).join
  | .vl c => some c
def bvT (b : Bv) (v : V) (T : List (Cl × V)) : List (Cl × V) :=
  match b with
  | .pl _ => T
  | .vl c => (c, v) :: T
def bvV (σ : L2.St) (b : Bv) (v : V) : Prop :=
  match b with
  | .pl i => σ[i]? = some (some v)
  | .vl _ => True
def bvTs : List Bv → List V → List (Cl × V) → List (Cl × V)
  | b :: bs, v :: vs, T => bvTs bs vs (bvT b v T)
  | _, _, T => T
def bvVs (σ : L2.St) : List Bv → List V → Prop
  | [], [] => True
  | b :: bs, v :: vs => bvV σ b v ∧ bvVs σ bs vs
  | _, _ => False
def lks (ρ : En) : List Bv → Option (List Cl)
  | [] => some []
  | b :: bs => match lk ρ b, lks ρ bs with
    | some c, some cs => some (c :: cs)
    | _, _ => none
section
variable {G : Gd} {W : WX} {F F' H H' : Hp} {ρ : En} {σ : L2.St} {T : List (Cl × V)}
theorem bvT_sub (b : Bv) (v : V) : ∀ x ∈ T, x ∈ bvT b v T := fun x hx => by
  cases b with
  | pl i => exact hx
  | vl c => exact List.mem_cons_of_mem _ hx
theorem bvTs_sub : ∀ (bs : List Bv) (vs : List V) (T : List (Cl × V)), ∀ x ∈ T, x ∈ bvTs bs vs T
  | [], _, _, _, h => h
  | _ :: _, [], _, _, h => h
  | b :: bs, v :: vs, T, x, h => bvTs_sub bs vs _ x (bvT_sub b v x h)
theorem bvT_drop (b : Bv) (v : V) (h : G.R F H ρ σ (bvT b v T)) : G.R F H ρ σ T := by
  cases b with
  | pl i => exact h
  | vl c => exact h.tail
theorem bvTs_drop : ∀ (bs : List Bv) (vs : List V) (T : List (Cl × V)), G.R F H ρ σ (bvTs bs vs T) → G.R F H ρ σ T
  | [], _, _, h => h
  | _ :: _, [], _, h => h
  | b :: bs, v :: vs, T, h => bvT_drop b v (bvTs_drop bs vs _ h)
inductive CRs (G : Gd) (F H : Hp) : List Cl → List V → Prop
  | nil : CRs G F H [] []
  | cons {c : Cl} {v : V} {cs : List Cl} {vs : List V} (h : ∃ A, G.CR F H c v A) (r : CRs G F H cs vs) : CRs G F H (c :: cs) (v :: vs)
theorem bv_cr {b : Bv} {v : V} {c : Cl} (h : G.R F H ρ σ T) (m : ∀ x ∈ bvT b v [], x ∈ T) (hv : bvV σ b v) (e : lk ρ b = some c) : ∃ A, G.CR F H c v A := by
  cases b with
  | pl i =>
    have e' : ρ[i]? = some (some c) := by
      show ρ[i]? = _
      have e : (ρ[i]?).join = some c := e
      cases q : ρ[i]? with
      | none => rw [q] at e; cases e
      | some o => rw [q] at e; rw [show o = some c from e]
    obtain ⟨w, h1, A, h2⟩ := h.at e'
    have hv : σ[i]? = some (some v) := hv
    rw [hv] at h1
    cases h1
    exact ⟨A, h2⟩
  | vl c' =>
    cases e
    exact h.hr.mem (List.mem_append_right _ (m _ (List.mem_singleton.mpr rfl)))
theorem bvs_cr : ∀ {bs : List Bv} {vs : List V} {cs : List Cl} {T0 : List (Cl × V)}, G.R F H ρ σ T → (∀ x ∈ bvTs bs vs T0, x ∈ T) → bvVs σ bs vs → lks ρ bs = some cs → CRs G F H cs vs
  | [], [], cs, _, _, _, _, e => by
    cases e
    exact .nil
  | [], _ :: _, _, _, _, _, h, _ => h.elim
  | _ :: _, [], _, _, _, _, h, _ => h.elim
  | b :: bs, v :: vs, cs, T0, h, m, hv, e => by
    unfold lks at e
    cases q1 : lk ρ b with
    | none => rw [q1] at e; cases e
    | some c =>
      cases q2 : lks ρ bs with
      | none => rw [q1, q2] at e; cases e
      | some cs' =>
        rw [q1, q2] at e
        cases e
        refine .cons (bv_cr h (fun x hx => m x (bvTs_sub bs vs _ x ?_)) hv.1 q1) (bvs_cr h (T0 := bvT b v T0) m hv.2 q2)
        cases b with
        | pl i => cases hx
        | vl c =>
          rw [List.mem_singleton.mp hx]
          exact List.mem_cons_self
end

/-! ### the judgements -/
def PoE (G : Gd) (W : WX) (F : Hp) (σ : L2.St) (T : List (Cl × V)) (Q : VK) : Rz Cl → Prop
  | .ok c ρ => ∀ F' H' v, Same F F' → G.R F' H' ρ σ ((c, v) :: T) → Q v H'
  | .ex x ρ => PoX G W F σ T x ρ
def SndE (G : Gd) (W : WX) (t : TE) (f : Fn Cl) : Prop :=
  ∀ n ρ r, f n ρ = some r → ∀ F H σ T Q, G.R F H ρ σ T → PoE G W F σ T Q r → t σ H Q
def PoB (G : Gd) (W : WX) (F : Hp) (σ : L2.St) (T : List (Cl × V)) (Q : VK) : Rz Bv → Prop
  | .ok b ρ => ∀ F' H' v, Same F F' → G.R F' H' ρ σ (bvT b v T) → bvV σ b v → Q v H'
  | .ex x ρ => PoX G W F σ T x ρ
def SndB (G : Gd) (W : WX) (t : TE) (f : Fn Bv) : Prop :=
  ∀ n ρ r, f n ρ = some r → ∀ F H σ T Q, G.R F H ρ σ T → PoB G W F σ T Q r → t σ H Q
def PoBs (G : Gd) (W : WX) (F : Hp) (σ : L2.St) (T : List (Cl × V)) (Q : List V → Hp → Prop) : Rz (List Bv) → Prop
  | .ok bs ρ => ∀ F' H' vs, Same F F' → G.R F' H' ρ σ (bvTs bs vs T) → bvVs σ bs vs → Q vs H'
  | .ex x ρ => PoX G W F σ T x ρ
def SndBs (G : Gd) (W : WX) (t : TA) (f : Fn (List Bv)) : Prop :=
  ∀ n ρ r, f n ρ = some r → ∀ F H σ T Q, G.R F H ρ σ T → PoBs G W F σ T Q r → t σ H Q
def PoT (G : Gd) (W : WX) (F : Hp) (σ : L2.St) (T : List (Cl × V)) (Q : Bool → Hp → Prop) : Rz Bool → Prop
  | .ok b ρ => ∀ F' H', Same F F' → G.R F' H' ρ σ T → Q b H'
  | .ex x ρ => PoX G W F σ T x ρ
def SndT (G : Gd) (W : WX) (t : TT) (f : Fn Bool) : Prop :=
  ∀ n ρ r, f n ρ = some r → ∀ F H σ T Q, G.R F H ρ σ T → PoT G W F σ T Q r → t σ H Q

section
variable {ι : Type}
def XE (G : Gd) (X : ι → Cx) (W : WX) (e : Expr) (f : Fn Cl) : Prop := ∃ t : TE, (∀ i, PE (X i) e t) ∧ SndE G W t f
def XB (G : Gd) (X : ι → Cx) (W : WX) (e : Expr) (f : Fn Bv) : Prop := ∃ t : TE, (∀ i, PE (X i) e t) ∧ SndB G W t f
def XBs (G : Gd) (X : ι → Cx) (W : WX) (es : List Expr) (f : Fn (List Bv)) : Prop := ∃ t : TA, (∀ i, PA (X i) es t) ∧ SndBs G W t f
def XT (G : Gd) (X : ι → Cx) (W : WX) (e : Expr) (f : Fn Bool) : Prop := ∃ t : TT, (∀ i, PT (X i) e t) ∧ SndT G W t f
def XW (G : Gd) (X : ι → Cx) (W : WX) (e : Expr) (f : Fn Bool) : Prop := ∃ t : TT, (∀ i, PW (X i) e t) ∧ SndT G W t f
end

/-! ### operands and their lists -/
section
variable {ι : Type} {G : Gd} {X : ι → Cx} {W : WX} {e : Expr} {es : List Expr}
def fOf (f : Fn Cl) : Fn Bv := fun n ρ => bnd (f n ρ) fun c ρ' => some (.ok (.vl c) ρ')
theorem xb_of {f : Fn Cl} (h : XE G X W e f) : XB G X W e (fOf f) := by
  obtain ⟨t, h1, h2⟩ := h
  refine ⟨t, h1, fun n ρ r e F H σ T Q hR hP => ?_⟩
  unfold fOf at e
  cases q : f n ρ with
  | none => rw [q] at e; cases e
  | some r1 =>
    rw [q] at e
    refine h2 n ρ r1 q F H σ T Q hR ?_
    cases r1 with
    | ok c ρ' =>
      cases e
      exact fun F' H' v s r' => hP F' H' v s r' trivial
    | ex x ρ' =>
      cases e
      exact hP
def fPl (i : Nat) : Fn Bv := fun _ ρ => if ((ρ[i]?).join).isSome then some (.ok (.pl i) ρ) else none
theorem snd_pl (i : Nat) : SndB G W (tVar i) (fPl i) := fun n ρ r e F H σ T Q hR hP => by
  unfold fPl at e
  cases q : ρ[i]? with
  | none => rw [q] at e; cases e
  | some o =>
    cases o with
    | none => rw [q] at e; cases e
    | some c =>
      rw [q] at e
      cases e
      obtain ⟨v, h1, _⟩ := hR.at q
      exact ⟨v, h1, hP F H v (Same.refl _) hR h1⟩
theorem xb_var {i : Nat} {x : Str} {pos : Pos} (h : ∀ j, PE (X j) (.Name x pos) (tVar i)) : XB G X W (.Name x pos) (fPl i) := ⟨_, h, snd_pl i⟩
def fNil : Fn (List Bv) := fun _ ρ => some (.ok [] ρ)
def fCons (f : Fn Bv) (g : Fn (List Bv)) : Fn (List Bv) := fun n ρ => bnd (f n ρ) fun b ρ1 => bnd (g n ρ1) fun bs ρ2 => some (.ok (b :: bs) ρ2)
theorem snd_nil : SndBs G W tNil fNil := fun n ρ r e F H σ T Q hR hP => by
  cases e
  exact hP F H [] (Same.refl _) hR trivial
theorem PoX.dropT {F F1 : Hp} {σ : L2.St} {T : List (Cl × V)} {x : Ex} {ρ : En} {b : Bv} {v : V} (h : PoX G W F σ T x ρ) (s : Same F F1) : PoX G W F1 σ (bvT b v T) x ρ :=
  fun F' H' cls d s' r q => h F' H' cls d (s.trans s') (bvT_drop b v r) q
theorem snd_cons {ta : TE} {t : TA} {f : Fn Bv} {g : Fn (List Bv)} (ha : SndB G W ta f) (hr : SndBs G W t g) : SndBs G W (tCons ta t) (fCons f g) := fun n ρ r e F H σ T Q hR hP => by
  unfold fCons at e
  cases q : f n ρ with
  | none => rw [q] at e; cases e
  | some r1 =>
    rw [q] at e
    refine ha n ρ r1 q F H σ T _ hR ?_
    cases r1 with
    | ex x ρ' =>
      cases e
      exact hP
    | ok b ρ1 =>
      intro F1 H1 v s1 R1 v1
      rw [bnd_ok] at e
      cases q2 : g n ρ1 with
      | none => rw [q2] at e; cases e
      | some r2 =>
        rw [q2] at e
        refine hr n ρ1 r2 q2 F1 H1 σ _ _ R1 ?_
        cases r2 with
        | ex x ρ' =>
          cases e
          exact PoX.dropT hP s1
        | ok bs ρ2 =>
          cases e
          exact fun F2 H2 vs s2 R2 v2 => hP F2 H2 (v :: vs) (s1.trans s2) R2 ⟨v1, v2⟩
theorem xbs_nil : XBs G X W [] fNil := ⟨_, fun _ => pa_nil, snd_nil⟩
theorem xbs_cons {f : Fn Bv} {g : Fn (List Bv)} (ha : XB G X W e f) (hr : XBs G X W es g) (hs : ∀ i, starEach (e :: es) (X i).env = (false, eval e (X i).env) :: starEach es (X i).env) : XBs G X W (e :: es) (fCons f g) := by
  obtain ⟨t, h1, h2⟩ := ha
  obtain ⟨t', h1', h2'⟩ := hr
  exact ⟨_, fun i => pa_cons (h1 i) (h1' i) (hs i), snd_cons h2 h2'⟩

/-! ### an operation on values -/
def Prm (G : Gd) (r : List V → Hp → VK → Prop) (g : List Cl → Option Cl) : Prop :=
  ∀ F H L cs vs c Q, G.HR F H L → CRs G F H cs vs → g cs = some c → (∀ F' H' v, Same F F' → G.HR F' H' ((c, v) :: L) → Q v H') → r vs H Q
def fPr (f : Fn (List Bv)) (g : List Cl → Option Cl) : Fn Cl := fun n ρ => bnd (f n ρ) fun bs ρ1 => match lks ρ1 bs with
  | some cs => match g cs with
    | some c => some (.ok c ρ1)
    | none => none
  | none => none
theorem bvTs_mem {F H : Hp} {ρ : En} {σ : L2.St} : True := trivial
theorem snd_prm {t : TA} {f : Fn (List Bv)} {r : List V → Hp → VK → Prop} {g : List Cl → Option Cl} (ht : SndBs G W t f) (hp : Prm G r g) : SndE G W (tCB r t) (fPr f g) := fun n ρ r' e F H σ T Q hR hP => by
  unfold fPr at e
  cases q : f n ρ with
  | none => rw [q] at e; cases e
  | some r1 =>
    rw [q] at e
    refine ht n ρ r1 q F H σ T _ hR ?_
    cases r1 with
    | ex x ρ' =>
      cases e
      exact hP
    | ok bs ρ1 =>
      intro F1 H1 vs s1 R1 v1
      rw [bnd_ok] at e
      cases q2 : lks ρ1 bs with
      | none => rw [q2] at e; cases e
      | some cs =>
        rw [q2] at e
        dsimp only at e
        cases q3 : g cs with
        | none => rw [q3] at e; cases e
        | some c =>
          rw [q3] at e
          cases e
          have R0 := bvTs_drop bs vs T R1
          refine hp F1 H1 _ cs vs c _ R0.hr (bvs_cr (T0 := T) R1 (fun _ z => z) v1 q2) q3 fun F' H' v s' h' => ?_
          exact hP F' H' v (s1.trans s') (.mk' h' R0.ok)
def l1 (r : V → Hp → VK → Prop) : List V → Hp → VK → Prop := fun vs H Q => match vs with
  | [x] => r x H Q
  | _ => False
def l2 (r : R2) : List V → Hp → VK → Prop := fun vs H Q => match vs with
  | [x, y] => r x y H Q
  | _ => False
variable {a b : Expr} {fa fb : Fn Bv} {g : List Cl → Option Cl} {pos : Pos}
abbrev f2 (fa fb : Fn Bv) (g : List Cl → Option Cl) : Fn Cl := fPr (fCons fa (fCons fb fNil)) g
abbrev f1 (fa : Fn Bv) (g : List Cl → Option Cl) : Fn Cl := fPr (fCons fa fNil) g
theorem xe_bin {op : Operator} {r : R2} (ho : ∀ i, OpR (X i) (binaryOp op) r) (hp : Prm G (l2 r) g) (ha : XB G X W a fa) (hb : XB G X W b fb) : XE G X W (.BinOp a op b pos) (f2 fa fb g) := by
  obtain ⟨ta, h1, h2⟩ := ha
  obtain ⟨tb, h3, h4⟩ := hb
  exact ⟨_, fun i => pe_op (ho i) (h1 i) (h3 i), snd_prm (r := l2 r) (snd_cons h2 (snd_cons h4 snd_nil)) hp⟩
theorem xe_un {op : UnaryOp} {r : V → Hp → VK → Prop} (ho : ∀ i, UnR (X i) (unaryOp op) r) (hp : Prm G (l1 r) g) (ha : XB G X W a fa) : XE G X W (.UnaryOp op a pos) (f1 fa g) := by
  obtain ⟨ta, h1, h2⟩ := ha
  exact ⟨_, fun i => pe_un (ho i) (h1 i), snd_prm (r := l1 r) (snd_cons h2 snd_nil) hp⟩
theorem xe_cmp {op : CmpOp} {r : R2} (ho : ∀ i, OpR (X i) (compareOp op) r) (hp : Prm G (l2 r) g) (ha : XB G X W a fa) (hb : XB G X W b fb) (hm : behindInMarks op b = false) : XE G X W (.Compare a [op] [b] pos) (f2 fa fb g) := by
  obtain ⟨ta, h1, h2⟩ := ha
  obtain ⟨tb, h3, h4⟩ := hb
  exact ⟨_, fun i => pe_cmpR (ho i) (h1 i) (h3 i) hm, snd_prm (r := l2 r) (snd_cons h2 (snd_cons h4 snd_nil)) hp⟩
theorem xe_ix {r : R2} (hr : ∀ i, IxR (X i) r) (hp : Prm G (l2 r) g) (ha : XB G X W a fa) (hb : XB G X W b fb) (hs : PlainIx b) : XE G X W (.Subscript a b pos) (f2 fa fb g) := by
  obtain ⟨ta, h1, h2⟩ := ha
  obtain ⟨tb, h3, h4⟩ := hb
  exact ⟨_, fun i => pe_ix (hr i) (h1 i) (h3 i) hs, snd_prm (r := l2 r) (snd_cons h2 (snd_cons h4 snd_nil)) hp⟩
/-- a built-in function's call -/
theorem xe_callB {id : String} {x : Str} {p : Pos} {f : Fn (List Bv)} {r : List V → Hp → VK → Prop} (hc : ∀ i, CallR (X i) (.builtin id) r) (hp : Prm G r g) (hg : ∀ i, Gl (X i) x) (hm : ∀ i, (X i).mg x = none) (hv : bootBuiltins x = some (.builtin id)) (ha : XBs G X W (e :: es) f)
    (hn : x ≠ "__name__") (hdb : (x == ("__debug__" : Str)) = false) (he : ∀ i, starEach (e :: es) (X i).env = (false, eval e (X i).env) :: starEach es (X i).env) (hpl : ∀ i, (backTo pos (starEach es (X i).env)).any (·.1) = false) :
    XE G X W (.Call (.Name x p) (e :: es) [] pos) (fPr f g) := by
  obtain ⟨t, h1, h2⟩ := ha
  exact ⟨_, fun i => pe_callB (hc i) (hg i) (hm i) hv (h1 i) hn hdb (he i) (hpl i), snd_prm h2 hp⟩
theorem xe_callTy {T : String} {x : Str} {p : Pos} {f : Fn (List Bv)} {r : List V → Hp → VK → Prop} (hc : ∀ i, CallR (X i) (.type T) r) (hp : Prm G r g) (hg : ∀ i, Gl (X i) x) (hm : ∀ i, (X i).mg x = none) (hv : bootBuiltins x = some (.type T)) (ha : XBs G X W (e :: es) f)
    (hn : x ≠ "__name__") (hdb : (x == ("__debug__" : Str)) = false) (he : ∀ i, starEach (e :: es) (X i).env = (false, eval e (X i).env) :: starEach es (X i).env) (hpl : ∀ i, (backTo pos (starEach es (X i).env)).any (·.1) = false) :
    XE G X W (.Call (.Name x p) (e :: es) [] pos) (fPr f g) := by
  obtain ⟨t, h1, h2⟩ := ha
  exact ⟨_, fun i => pe_callTy (hc i) (hg i) (hm i) hv (h1 i) hn hdb (he i) (hpl i), snd_prm h2 hp⟩
end
end L3

namespace L3
open PySem PySem.Spec L2

/-! ### frozen operands -/
def fzB (ρ : En) : Bv → Option (D × En)
  | .pl i => match (ρ[i]?).join with
    | some c => match c.data with
      | some d => some (d, ρ.set i (some (.fz d)))
      | none => none
    | none => none
  | .vl c => match c.data with
    | some d => some (d, ρ)
    | none => none
def fzBs (ρ : En) : List Bv → Option (List D × En)
  | [] => some ([], ρ)
  | b :: bs => match fzBs ρ bs with
    | some (ds, ρ1) => match fzB ρ1 b with
      | some (d, ρ2) => some (d :: ds, ρ2)
      | none => none
    | none => none
section
variable {G : Gd} {W : WX} {F F' H H' : Hp} {ρ ρ' : En} {σ : L2.St} {T : List (Cl × V)}
theorem join_some {ρ : En} {i : Nat} {c : Cl} (e : (ρ[i]?).join = some c) : ρ[i]? = some (some c) := by
  cases q : ρ[i]? with
  | none => rw [q] at e; cases e
  | some o => rw [q] at e; rw [show o = some c from e]
theorem set_get_none {ρ : En} {i : Nat} {o : Option Cl} (e : ρ[i]? = some o) : (ρ.set i none)[i]? = some none := by
  obtain ⟨h, _⟩ := List.getElem?_eq_some_iff.mp e
  rw [List.getElem?_set_self h]
theorem fz_one {b : Bv} {v : V} {d : D} (hR : G.R F H ρ σ (bvT b v T)) (hv : bvV σ b v) (e : fzB ρ b = some (d, ρ')) : ∃ F', Same F F' ∧ G.R F' H ρ' σ T ∧ Rp G.K F' v d := by
  cases b with
  | pl i =>
    have hR : G.R F H ρ σ T := hR
    unfold fzB at e
    dsimp only at e
    cases q : (ρ[i]?).join with
    | none => rw [q] at e; cases e
    | some c =>
      rw [q] at e
      dsimp only at e
      cases q2 : c.data with
      | none => rw [q2] at e; cases e
      | some d' =>
        rw [q2] at e
        cases e
        have qi := join_some q
        obtain ⟨w, h1, R1⟩ := hR.take qi
        obtain ⟨F', s, R2⟩ := R1.freeze q2
        have hv : σ[i]? = some (some v) := hv
        rw [hv] at h1
        cases h1
        have r := R2.rp
        have R3 := R2.put (set_get_none qi) hv
        rw [List.set_set] at R3
        exact ⟨F', s, R3, r⟩
  | vl c =>
    unfold fzB at e
    dsimp only at e
    cases q2 : c.data with
    | none => rw [q2] at e; cases e
    | some d' =>
      rw [q2] at e
      cases e
      obtain ⟨F', s, R2⟩ := R.freeze (c := c) (v := v) hR q2
      exact ⟨F', s, R2.tail, R2.rp⟩
theorem fz_many : ∀ {bs : List Bv} {vs : List V} {ds : List D} {T : List (Cl × V)} {ρ' : En}, G.R F H ρ σ (bvTs bs vs T) → bvVs σ bs vs → fzBs ρ bs = some (ds, ρ') → ∃ F', Same F F' ∧ G.R F' H ρ' σ T ∧ RpA G.K F' vs ds
  | [], [], ds, T, ρ', hR, _, e => by
    cases e
    exact ⟨F, Same.refl _, hR, .nil⟩
  | [], _ :: _, _, _, _, _, h, _ => h.elim
  | _ :: _, [], _, _, _, _, h, _ => h.elim
  | b :: bs, v :: vs, ds, T, ρ', hR, hv, e => by
    unfold fzBs at e
    cases q : fzBs ρ bs with
    | none => rw [q] at e; cases e
    | some p =>
      obtain ⟨ds', ρ1⟩ := p
      rw [q] at e
      dsimp only at e
      cases q2 : fzB ρ1 b with
      | none => rw [q2] at e; cases e
      | some p2 =>
        obtain ⟨d, ρ2⟩ := p2
        rw [q2] at e
        cases e
        obtain ⟨F1, s1, R1, r1⟩ := fz_many (T := bvT b v T) hR hv.2 q
        obtain ⟨F2, s2, R2, r2⟩ := fz_one R1 hv.1 q2
        exact ⟨F2, s1.trans s2, R2, .cons r2 (r1.mono s2)⟩
end

section
variable {ι : Type} {G : Gd} {X : ι → Cx} {W : WX} {e : Expr} {es : List Expr}
/-- an operand as frozen data -/
def fFz (f : Fn Bv) : Fn Cl := fun n ρ => bnd (f n ρ) fun b ρ1 => match fzB ρ1 b with
  | some (d, ρ2) => some (.ok (.fz d) ρ2)
  | none => none
theorem snd_fz {t : TE} {f : Fn Bv} (h : SndB G W t f) : SndE G W t (fFz f) := fun n ρ r e F H σ T Q hR hP => by
  unfold fFz at e
  cases q : f n ρ with
  | none => rw [q] at e; cases e
  | some r1 =>
    rw [q] at e
    refine h n ρ r1 q F H σ T Q hR ?_
    cases r1 with
    | ex x ρ' => cases e; exact hP
    | ok b ρ1 =>
      rw [bnd_ok] at e
      cases q2 : fzB ρ1 b with
      | none => rw [q2] at e; cases e
      | some p =>
        obtain ⟨d, ρ2⟩ := p
        rw [q2] at e
        cases e
        intro F1 H1 v s1 R1 v1
        obtain ⟨F2, s2, R2, r2⟩ := fz_one R1 v1 q2
        exact hP F2 H1 v (s1.trans s2) (R2.push r2)
theorem xe_fz {f : Fn Bv} (h : XB G X W e f) : XE G X W e (fFz f) := by
  obtain ⟨t, h1, h2⟩ := h
  exact ⟨t, h1, snd_fz h2⟩
/-- a slot's cell moved out -/
def fMv (i : Nat) : Fn Cl := fun _ ρ => match (ρ[i]?).join with
  | some c => some (.ok c (ρ.set i none))
  | none => none
theorem xe_mv {i : Nat} {x : Str} {pos : Pos} (h : ∀ j, PE (X j) (.Name x pos) (tVar i)) : XE G X W (.Name x pos) (fMv i) := ⟨_, h, fun n ρ r e F H σ T Q hR hP => by
  unfold fMv at e
  cases q : (ρ[i]?).join with
  | none => rw [q] at e; cases e
  | some c =>
    rw [q] at e
    cases e
    obtain ⟨v, h1, R1⟩ := hR.take (join_some q)
    exact ⟨v, h1, hP F H v (Same.refl _) R1⟩⟩
/-- constants -/
def fC (d : D) : Fn Cl := fun _ ρ => some (.ok (.fz d) ρ)
theorem snd_c {v : V} {d : D} (h : ∀ F, Rp G.K F v d) : SndE G W (tC v) (fC d) := fun n ρ r e F H σ T Q hR hP => by
  cases e
  exact hP F H v (Same.refl _) (hR.push (h F))
theorem xe_int {i : Int} {j : Nat} {pos : Pos} : XE G X W (.Constant (.int i) j pos) (fC (.int i)) := ⟨_, fun _ => pe_int, snd_c fun _ => .int i⟩
theorem xe_bool {i : Bool} {j : Nat} {pos : Pos} : XE G X W (.Constant (.bool i) j pos) (fC (.bool i)) := ⟨_, fun _ => pe_bl, snd_c fun _ => .bl i⟩
theorem xe_none {j : Nat} {pos : Pos} : XE G X W (.Constant .none j pos) (fC .none) := ⟨_, fun _ => pe_non, snd_c fun _ => .non⟩
theorem xe_str {x : Str} {j : Nat} {pos : Pos} : XE G X W (.Constant (.str x) j pos) (fC (.str x)) := ⟨_, fun _ => pe_str, snd_c fun _ => .str x⟩
/-- a module's constant -/
theorem xe_glob {x : Str} {v : V} {u : Value} {d : D} {pos : Pos} (hg : ∀ i, Gl (X i) x) (hm : ∀ i, (X i).mg x = some u) (r : RelV v u) (h : ∀ F, Rp G.K F v d) (hd : (x == ("__debug__" : Str)) = false) : XE G X W (.Name x pos) (fC d) :=
  ⟨_, fun i => pe_glob (hg i) (hm i) r hd, snd_c h⟩
/-! ### displays -/
def fTup (f : Fn (List Bv)) : Fn Cl := fun n ρ => bnd (f n ρ) fun bs ρ1 => match fzBs ρ1 bs with
  | some (ds, ρ2) => if ds.length ≤ 1000 then some (.ok (.fz (.tuple ds)) ρ2) else none
  | none => none
def fLst (f : Fn (List Bv)) : Fn Cl := fun n ρ => bnd (f n ρ) fun bs ρ1 => match fzBs ρ1 bs with
  | some (ds, ρ2) => if ds.length ≤ 1000 then some (.ok (.lst ds) ρ2) else none
  | none => none
theorem line1000 {n : Nat} (h : n ≤ 1000) : n ≤ sizeLine := Nat.le_of_lt (small1000 h)
theorem R.newTup {F H : Hp} {ρ : En} {σ : L2.St} {T : List (Cl × V)} {p : Addr} {vs : List V} {ds : List D} (hR : G.R F H ρ σ T) (hp : H p = none) (r : RpA G.K F vs ds) : Same F (upd F p (.tup vs)) ∧ G.R (upd F p (.tup vs)) (upd H p (.tup vs)) ρ σ ((.fz (.tuple ds), .ref p) :: T) := by
  obtain ⟨s, q⟩ := hR.hr.newF (o := .tup vs) hp
  exact ⟨s, R.push ⟨q, hR.ok⟩ (.tup (.inl upd_same) (r.mono s))⟩
theorem R.newLst {F H : Hp} {ρ : En} {σ : L2.St} {T : List (Cl × V)} {p : Addr} {vs : List V} {ds : List D} (hR : G.R F H ρ σ T) (hp : H p = none) (r : RpA G.K F vs ds) : G.R F (upd H p (.lst vs)) ρ σ ((.lst ds, .ref p) :: T) :=
  .mk' (hR.hr.newO hp (.lst upd_same (hR.sub.free hp) r)) hR.ok
theorem snd_tup {t : TA} {f : Fn (List Bv)} (h : SndBs G W t f) : SndE G W (tTup t) (fTup f) := fun n ρ r e F H σ T Q hR hP => by
  unfold fTup at e
  cases q : f n ρ with
  | none => rw [q] at e; cases e
  | some r1 =>
    rw [q] at e
    refine h n ρ r1 q F H σ T _ hR ?_
    cases r1 with
    | ex x ρ' => cases e; exact hP
    | ok bs ρ1 =>
      rw [bnd_ok] at e
      cases q2 : fzBs ρ1 bs with
      | none => rw [q2] at e; cases e
      | some p =>
        obtain ⟨ds, ρ2⟩ := p
        rw [q2] at e
        dsimp only at e
        split at e
        · rename_i hz
          cases e
          intro F1 H1 vs s1 R1 v1
          obtain ⟨F2, s2, R2, r2⟩ := fz_many R1 v1 q2
          refine ⟨by rw [r2.length]; exact line1000 hz, fun p hp => ?_⟩
          obtain ⟨s3, R3⟩ := R.newTup R2 hp r2
          exact hP _ _ _ ((s1.trans s2).trans s3) R3
        · cases e
theorem snd_lst {t : TA} {f : Fn (List Bv)} (h : SndBs G W t f) : SndE G W (tLst t) (fLst f) := fun n ρ r e F H σ T Q hR hP => by
  unfold fLst at e
  cases q : f n ρ with
  | none => rw [q] at e; cases e
  | some r1 =>
    rw [q] at e
    refine h n ρ r1 q F H σ T _ hR ?_
    cases r1 with
    | ex x ρ' => cases e; exact hP
    | ok bs ρ1 =>
      rw [bnd_ok] at e
      cases q2 : fzBs ρ1 bs with
      | none => rw [q2] at e; cases e
      | some p =>
        obtain ⟨ds, ρ2⟩ := p
        rw [q2] at e
        dsimp only at e
        split at e
        · rename_i hz
          cases e
          intro F1 H1 vs s1 R1 v1
          obtain ⟨F2, s2, R2, r2⟩ := fz_many R1 v1 q2
          refine ⟨by rw [r2.length]; exact line1000 hz, fun p hp => ?_⟩
          exact hP _ _ _ (s1.trans s2) (R.newLst R2 hp r2)
        · cases e
theorem xe_tup {f : Fn (List Bv)} {k : Nat} {pos : Pos} (h : XBs G X W es f) : XE G X W (.Tuple es k pos) (fTup f) := by
  obtain ⟨t, h1, h2⟩ := h
  exact ⟨_, fun i => pe_tup (h1 i), snd_tup h2⟩
theorem xe_lst {f : Fn (List Bv)} {pos : Pos} (h : XBs G X W es f) : XE G X W (.List es pos) (fLst f) := by
  obtain ⟨t, h1, h2⟩ := h
  exact ⟨_, fun i => pe_lst (h1 i), snd_lst h2⟩

/-! ### tests -/
def asB (c : Cl) : Option Bool := match c with
  | .fz (.bool b) => some b
  | _ => none
def fTst (f : Fn Cl) : Fn Bool := fun n ρ => bnd (f n ρ) fun c ρ1 => match asB c with
  | some b => some (.ok b ρ1)
  | none => none
theorem asB_some {c : Cl} {b : Bool} (h : asB c = some b) : c = .fz (.bool b) := by
  unfold asB at h
  split at h
  · cases h; rfl
  · cases h
theorem snd_tB {t : TE} {f : Fn Cl} (h : SndE G W t f) : SndT G W (tB t) (fTst f) := fun n ρ r e F H σ T Q hR hP => by
  unfold fTst at e
  cases q : f n ρ with
  | none => rw [q] at e; cases e
  | some r1 =>
    rw [q] at e
    refine h n ρ r1 q F H σ T _ hR ?_
    cases r1 with
    | ex x ρ' => cases e; exact hP
    | ok c ρ1 =>
      rw [bnd_ok] at e
      cases q2 : asB c with
      | none => rw [q2] at e; cases e
      | some b =>
        rw [q2] at e
        cases e
        have ec := asB_some q2
        subst ec
        intro F1 H1 v s1 R1
        have r := R1.rp
        cases r
        exact ⟨b, rfl, hP F1 H1 s1 R1.tail⟩
theorem xt_val {f : Fn Cl} (h : XE G X W e f) (he : ∀ i, ∀ whole, isTrue e (X i).env whole = (do let v ← whole; standAt e.pos; holding [v] (truthy v))) : XT G X W e (fTst f) := by
  obtain ⟨t, h1, h2⟩ := h
  exact ⟨_, fun i => pt_val (h1 i) (he i), snd_tB h2⟩
variable {a b : Expr} {fa fb : Fn Bv} {g : List Cl → Option Cl} {pos : Pos}
theorem xt_cmp {op : CmpOp} {r : R2} (ho : ∀ i, OpR (X i) (compareOp op) r) (hp : Prm G (l2 r) g) (ha : XB G X W a fa) (hb : XB G X W b fb) (hm : behindInMarks op b = false) : XT G X W (.Compare a [op] [b] pos) (fTst (f2 fa fb g)) := by
  obtain ⟨ta, h1, h2⟩ := ha
  obtain ⟨tb, h3, h4⟩ := hb
  exact ⟨_, fun i => pt_cmpR (ho i) (h1 i) (h3 i) hm, snd_tB (snd_prm (r := l2 r) (snd_cons h2 (snd_cons h4 snd_nil)) hp)⟩
variable {tA tB' : Fn Bool} {rest : List Expr}
def fAnd (t u : Fn Bool) : Fn Bool := fun n ρ => bnd (t n ρ) fun c ρ1 => if c = true then u n ρ1 else some (.ok false ρ1)
def fOr (t u : Fn Bool) : Fn Bool := fun n ρ => bnd (t n ρ) fun c ρ1 => if c = true then some (.ok true ρ1) else u n ρ1
def fNot (t : Fn Bool) : Fn Bool := fun n ρ => bnd (t n ρ) fun c ρ1 => some (.ok (!c) ρ1)
theorem xw_and1 (h : XT G X W a tA) : XW G X W (.BoolOp .And [a] pos) tA := by
  obtain ⟨t, h1, h2⟩ := h
  exact ⟨t, fun i => pw_and1 (h1 i), h2⟩
theorem xw_or1 (h : XT G X W a tA) : XW G X W (.BoolOp .Or [a] pos) tA := by
  obtain ⟨t, h1, h2⟩ := h
  exact ⟨t, fun i => pw_or1 (h1 i), h2⟩
theorem snd_and {t u : TT} {f g : Fn Bool} (h : SndT G W t f) (k : SndT G W u g) : SndT G W (tAnd t u) (fAnd f g) := fun n ρ r e F H σ T Q hR hP => by
  unfold fAnd at e
  cases q : f n ρ with
  | none => rw [q] at e; cases e
  | some r1 =>
    rw [q] at e
    refine h n ρ r1 q F H σ T _ hR ?_
    cases r1 with
    | ex x ρ' => cases e; exact hP
    | ok c ρ1 =>
      rw [bnd_ok] at e
      intro F1 H1 s1 R1
      cases c with
      | true =>
        rw [if_pos rfl] at e
        rw [if_pos rfl]
        refine k n ρ1 r e F1 H1 σ T Q R1 ?_
        cases r with
        | ex x ρ' => exact PoX.mono hP s1
        | ok d ρ2 => exact fun F2 H2 s2 R2 => hP F2 H2 (s1.trans s2) R2
      | false =>
        rw [if_neg Bool.false_ne_true] at e
        rw [if_neg Bool.false_ne_true]
        cases e
        exact hP F1 H1 s1 R1
theorem snd_or {t u : TT} {f g : Fn Bool} (h : SndT G W t f) (k : SndT G W u g) : SndT G W (tOr t u) (fOr f g) := fun n ρ r e F H σ T Q hR hP => by
  unfold fOr at e
  cases q : f n ρ with
  | none => rw [q] at e; cases e
  | some r1 =>
    rw [q] at e
    refine h n ρ r1 q F H σ T _ hR ?_
    cases r1 with
    | ex x ρ' => cases e; exact hP
    | ok c ρ1 =>
      rw [bnd_ok] at e
      intro F1 H1 s1 R1
      cases c with
      | false =>
        rw [if_neg Bool.false_ne_true] at e
        rw [if_neg Bool.false_ne_true]
        refine k n ρ1 r e F1 H1 σ T Q R1 ?_
        cases r with
        | ex x ρ' => exact PoX.mono hP s1
        | ok d ρ2 => exact fun F2 H2 s2 R2 => hP F2 H2 (s1.trans s2) R2
      | true =>
        rw [if_pos rfl] at e
        rw [if_pos rfl]
        cases e
        exact hP F1 H1 s1 R1
theorem snd_not {t : TT} {f : Fn Bool} (h : SndT G W t f) : SndT G W (tNot t) (fNot f) := fun n ρ r e F H σ T Q hR hP => by
  unfold fNot at e
  cases q : f n ρ with
  | none => rw [q] at e; cases e
  | some r1 =>
    rw [q] at e
    refine h n ρ r1 q F H σ T _ hR ?_
    cases r1 with
    | ex x ρ' => cases e; exact hP
    | ok c ρ1 =>
      cases e
      exact fun F1 H1 s1 R1 => hP F1 H1 s1 R1
theorem xw_and (ha : XT G X W a tA) (hb : XW G X W (.BoolOp .And (b :: rest) pos) tB') : XW G X W (.BoolOp .And (a :: b :: rest) pos) (fAnd tA tB') := by
  obtain ⟨t, h1, h2⟩ := ha
  obtain ⟨u, h3, h4⟩ := hb
  exact ⟨_, fun i => pw_and (h1 i) (h3 i), snd_and h2 h4⟩
theorem xw_or (ha : XT G X W a tA) (hb : XW G X W (.BoolOp .Or (b :: rest) pos) tB') : XW G X W (.BoolOp .Or (a :: b :: rest) pos) (fOr tA tB') := by
  obtain ⟨t, h1, h2⟩ := ha
  obtain ⟨u, h3, h4⟩ := hb
  exact ⟨_, fun i => pw_or (h1 i) (h3 i), snd_or h2 h4⟩
theorem xt_w {f : Fn Bool} (h : XW G X W e f) : XT G X W e f := by
  obtain ⟨t, h1, h2⟩ := h
  exact ⟨t, fun i => (h1 i).pt, h2⟩
theorem xt_not (h : XT G X W a tA) : XT G X W (.UnaryOp .Not a pos) (fNot tA) := by
  obtain ⟨t, h1, h2⟩ := h
  exact ⟨_, fun i => pt_not (h1 i), snd_not h2⟩
/-! ### .. as values -/
def fBv (t : Fn Bool) : Fn Cl := fun n ρ => bnd (t n ρ) fun c ρ1 => some (.ok (.fz (.bool c)) ρ1)
def fAndV (f : Fn Cl) (g : Fn Cl) : Fn Cl := fun n ρ => bnd (fTst f n ρ) fun c ρ1 => if c = true then g n ρ1 else some (.ok (.fz (.bool false)) ρ1)
def fOrV (f : Fn Cl) (g : Fn Cl) : Fn Cl := fun n ρ => bnd (fTst f n ρ) fun c ρ1 => if c = true then some (.ok (.fz (.bool true)) ρ1) else g n ρ1
theorem xe_one {op : BoolOp} {f : Fn Cl} (h : XE G X W a f) : XE G X W (.BoolOp op [a] pos) f := by
  obtain ⟨t, h1, h2⟩ := h
  exact ⟨t, fun i => pe_one (h1 i), h2⟩
theorem PoE.mono {F F1 : Hp} {σ : L2.St} {T : List (Cl × V)} {Q : VK} {r : Rz Cl} (h : PoE G W F σ T Q r) (s : Same F F1) : PoE G W F1 σ T Q r := by
  cases r with
  | ok c ρ => exact fun F' H' v s' r' => h F' H' v (s.trans s') r'
  | ex x ρ => exact PoX.mono h s
theorem xe_and {f g : Fn Cl} (ha : XE G X W a f) (hb : XE G X W (.BoolOp .And (b :: rest) pos) g) : XE G X W (.BoolOp .And (a :: b :: rest) pos) (fAndV f g) := by
  obtain ⟨t, h1, h2⟩ := ha
  obtain ⟨u, h3, h4⟩ := hb
  refine ⟨_, fun i => pe_and (h1 i) (h3 i), fun n ρ r e F H σ T Q hR hP => ?_⟩
  unfold fAndV at e
  cases q : fTst f n ρ with
  | none => rw [q] at e; cases e
  | some r1 =>
    rw [q] at e
    refine snd_tB h2 n ρ r1 q F H σ T (fun c H1 => if c = true then u σ H1 Q else Q (.bl false) H1) hR ?_
    cases r1 with
    | ex x ρ' => cases e; exact hP
    | ok c ρ1 =>
      rw [bnd_ok] at e
      intro F1 H1 s1 R1
      cases c with
      | true =>
        rw [if_pos rfl] at e
        rw [if_pos rfl]
        exact h4 n ρ1 r e F1 H1 σ T Q R1 (hP.mono s1)
      | false =>
        rw [if_neg Bool.false_ne_true] at e
        rw [if_neg Bool.false_ne_true]
        cases e
        exact hP F1 H1 _ s1 (R1.push (.bl false))
theorem xe_or {f g : Fn Cl} (ha : XE G X W a f) (hb : XE G X W (.BoolOp .Or (b :: rest) pos) g) : XE G X W (.BoolOp .Or (a :: b :: rest) pos) (fOrV f g) := by
  obtain ⟨t, h1, h2⟩ := ha
  obtain ⟨u, h3, h4⟩ := hb
  refine ⟨_, fun i => pe_or (h1 i) (h3 i), fun n ρ r e F H σ T Q hR hP => ?_⟩
  unfold fOrV at e
  cases q : fTst f n ρ with
  | none => rw [q] at e; cases e
  | some r1 =>
    rw [q] at e
    refine snd_tB h2 n ρ r1 q F H σ T (fun c H1 => if c = true then Q (.bl true) H1 else u σ H1 Q) hR ?_
    cases r1 with
    | ex x ρ' => cases e; exact hP
    | ok c ρ1 =>
      rw [bnd_ok] at e
      intro F1 H1 s1 R1
      cases c with
      | false =>
        rw [if_neg Bool.false_ne_true] at e
        rw [if_neg Bool.false_ne_true]
        exact h4 n ρ1 r e F1 H1 σ T Q R1 (hP.mono s1)
      | true =>
        rw [if_pos rfl] at e
        rw [if_pos rfl]
        cases e
        exact hP F1 H1 _ s1 (R1.push (.bl true))
theorem xe_not {f : Fn Cl} (ha : XE G X W a f) : XE G X W (.UnaryOp .Not a pos) (fBv (fNot (fTst f))) := by
  obtain ⟨t, h1, h2⟩ := ha
  refine ⟨_, fun i => pe_not (h1 i), fun n ρ r e F H σ T Q hR hP => ?_⟩
  unfold fBv at e
  cases q : fNot (fTst f) n ρ with
  | none => rw [q] at e; cases e
  | some r1 =>
    rw [q] at e
    refine snd_not (snd_tB h2) n ρ r1 q F H σ T (fun c H1 => Q (.bl c) H1) hR ?_
    cases r1 with
    | ex x ρ' => cases e; exact hP
    | ok c ρ1 =>
      cases e
      exact fun F1 H1 s1 R1 => hP F1 H1 _ s1 (R1.push (.bl c))
def fIf (t : Fn Bool) (f g : Fn Cl) : Fn Cl := fun n ρ => bnd (t n ρ) fun c ρ1 => if c = true then f n ρ1 else g n ρ1
theorem xe_if {c : Expr} {f g : Fn Cl} (hc : XT G X W c tA) (ha : XE G X W a f) (hb : XE G X W b g) : XE G X W (.IfExp c a b pos) (fIf tA f g) := by
  obtain ⟨t, h1, h2⟩ := hc
  obtain ⟨ta, h3, h4⟩ := ha
  obtain ⟨tb, h5, h6⟩ := hb
  refine ⟨_, fun i => pe_ifExp (h1 i) (h3 i) (h5 i), fun n ρ r e F H σ T Q hR hP => ?_⟩
  unfold fIf at e
  cases q : tA n ρ with
  | none => rw [q] at e; cases e
  | some r1 =>
    rw [q] at e
    refine h2 n ρ r1 q F H σ T _ hR ?_
    cases r1 with
    | ex x ρ' => cases e; exact hP
    | ok c ρ1 =>
      rw [bnd_ok] at e
      intro F1 H1 s1 R1
      cases c with
      | true =>
        rw [if_pos rfl] at e
        show if true = true then _ else _
        rw [if_pos rfl]
        exact h4 n ρ1 r e F1 H1 σ T Q R1 (hP.mono s1)
      | false =>
        rw [if_neg Bool.false_ne_true] at e
        show if false = true then _ else _
        rw [if_neg Bool.false_ne_true]
        exact h6 n ρ1 r e F1 H1 σ T Q R1 (hP.mono s1)
/-- a op b op' c -/
def fCh (fa fb fc : Fn Bv) (g g' : List Cl → Option Cl) : Fn Cl := fun n ρ => bnd (fa n ρ) fun ba ρ0 => bnd (fb n ρ0) fun bb ρ1 => match lks ρ1 [ba, bb] with
  | some cs => match g cs with
    | some (.fz (.bool true)) => bnd (fc n ρ1) fun bc ρ2 => match lks ρ2 [bb, bc] with
      | some cs' => match g' cs' with
        | some c' => some (.ok c' ρ2)
        | none => none
      | none => none
    | some (.fz (.bool false)) => some (.ok (.fz (.bool false)) ρ1)
    | _ => none
  | none => none
theorem snd_ch {ta tb tc : TE} {fc : Fn Bv} {r r' : R2} {g' : List Cl → Option Cl} (h1 : SndB G W ta fa) (h2 : SndB G W tb fb) (h3 : SndB G W tc fc) (hp : Prm G (l2 r) g) (hp' : Prm G (l2 r') g') : SndE G W (tChain r r' ta tb tc) (fCh fa fb fc g g') := fun n ρ o e F H σ T Q hR hP => by
  unfold fCh at e
  cases q : fa n ρ with
  | none => rw [q] at e; cases e
  | some r1 =>
    rw [q] at e
    refine h1 n ρ r1 q F H σ T _ hR ?_
    cases r1 with
    | ex x ρ' => cases e; exact hP
    | ok ba ρ0 =>
      rw [bnd_ok] at e
      intro F1 H1 x s1 R1 v1
      cases q2 : fb n ρ0 with
      | none => rw [q2] at e; cases e
      | some r2 =>
        rw [q2] at e
        refine h2 n ρ0 r2 q2 F1 H1 σ _ _ R1 ?_
        cases r2 with
        | ex x ρ' => cases e; exact PoX.dropT hP s1
        | ok bb ρ1 =>
          rw [bnd_ok] at e
          intro F2 H2 y s2 R2 v2
          cases q3 : lks ρ1 [ba, bb] with
          | none => rw [q3] at e; cases e
          | some cs =>
            rw [q3] at e
            dsimp only at e
            have cr := bvs_cr (bs := [ba, bb]) (vs := [x, y]) (T0 := T) R2 (fun _ z => z) ⟨v1, v2, trivial⟩ q3
            have R0 : G.R F2 H2 ρ1 σ (bvT bb y T) := by
              cases bb with
              | pl j => exact bvT_drop ba x R2
              | vl c =>
                cases ba with
                | pl j => exact R2
                | vl c' => exact R.drop2 (x := (c', x)) R2
            cases q4 : g cs with
            | none => rw [q4] at e; cases e
            | some c =>
              rw [q4] at e
              refine hp F2 H2 (eL ρ1 σ ++ (bvT bb y T)) cs [x, y] c _ R0.hr cr q4 fun F3 H3 z s3 hz => ?_
              have Rz : G.R F3 H3 ρ1 σ ((c, z) :: bvT bb y T) := .mk' hz R0.ok
              split at e
              · rename_i ez
                cases ez
                have rz := Rz.rp
                cases rz
                refine ⟨true, rfl, ?_⟩
                rw [if_pos rfl]
                cases q5 : fc n ρ1 with
                | none => rw [q5] at e; cases e
                | some r3 =>
                  rw [q5] at e
                  refine h3 n ρ1 r3 q5 F3 H3 σ _ _ Rz.tail ?_
                  cases r3 with
                  | ex x ρ' => cases e; exact PoX.dropT hP ((s1.trans s2).trans s3)
                  | ok bc ρ2 =>
                    rw [bnd_ok] at e
                    intro F4 H4 w s4 R4 v4
                    cases q6 : lks ρ2 [bb, bc] with
                    | none => rw [q6] at e; cases e
                    | some cs' =>
                      rw [q6] at e
                      dsimp only at e
                      cases q7 : g' cs' with
                      | none => rw [q7] at e; cases e
                      | some c' =>
                        rw [q7] at e
                        cases e
                        have cr' := bvs_cr (bs := [bb, bc]) (vs := [y, w]) (T0 := T) R4 (fun _ z => z) ⟨v2, v4, trivial⟩ q6
                        have R5 : G.R F4 H4 ρ2 σ T := bvT_drop bb y (bvT_drop bc w R4)
                        exact hp' F4 H4 _ cs' [y, w] c' _ R5.hr cr' q7 fun F5 H5 z' s5 h5 => hP F5 H5 z' ((((s1.trans s2).trans s3).trans s4).trans s5) (.mk' h5 R5.ok)
              · rename_i ez
                cases ez
                have rz := Rz.rp
                cases rz
                refine ⟨false, rfl, ?_⟩
                rw [if_neg Bool.false_ne_true]
                cases e
                exact hP F3 H3 _ ((s1.trans s2).trans s3) ((bvT_drop bb y Rz.tail).push (.bl false))
              · cases e
theorem xe_ch {op op' : CmpOp} {r r' : R2} {c : Expr} {fc : Fn Bv} {g' : List Cl → Option Cl} (ho : ∀ i, OpR (X i) (compareOp op) r) (ho' : ∀ i, OpR (X i) (compareOp op') r') (hp : Prm G (l2 r) g) (hp' : Prm G (l2 r') g') (ha : XB G X W a fa) (hb : XB G X W b fb) (hc : XB G X W c fc)
    (hm : lastMarks [op, op'] [b, c] = false) : XE G X W (.Compare a [op, op'] [b, c] pos) (fCh fa fb fc g g') := by
  obtain ⟨ta, h1, h2⟩ := ha
  obtain ⟨tb, h3, h4⟩ := hb
  obtain ⟨tc, h5, h6⟩ := hc
  exact ⟨_, fun i => pe_chain (ho i) (ho' i) (h1 i) (h3 i) (h5 i) hm, snd_ch h2 h4 h6 hp hp'⟩
theorem xt_ch {op op' : CmpOp} {r r' : R2} {c : Expr} {fc : Fn Bv} {g' : List Cl → Option Cl} (ho : ∀ i, OpR (X i) (compareOp op) r) (ho' : ∀ i, OpR (X i) (compareOp op') r') (hp : Prm G (l2 r) g) (hp' : Prm G (l2 r') g') (ha : XB G X W a fa) (hb : XB G X W b fb) (hc : XB G X W c fc)
    (hm : lastMarks [op, op'] [b, c] = false) : XT G X W (.Compare a [op, op'] [b, c] pos) (fTst (fCh fa fb fc g g')) := by
  obtain ⟨ta, h1, h2⟩ := ha
  obtain ⟨tb, h3, h4⟩ := hb
  obtain ⟨tc, h5, h6⟩ := hc
  exact ⟨_, fun i => pt_chain (ho i) (ho' i) (h1 i) (h3 i) (h5 i) hm, snd_tB (snd_ch h2 h4 h6 hp hp')⟩
end
end L3

namespace L3
open PySem PySem.Spec L2 PyProof.Rows

/-! ### enumerate over a thing whose iterator is at hand -/
/-- v opens where H holds: its iterator, and the heap behind -/
def Opens (v : Value) (H : Heap → Prop) (it : Heap → Addr) (behind : Heap → Heap) : Prop := ∀ (prog : Program) (w : World) (A : Around) (E : Value → Shared → Prop) (s : Shared) (Q : Value → Shared → Prop), H s.heap →
  Q (.ref (it s.heap)) { s with heap := behind s.heap } → wpAny (model prog w) A (pyIter v) Q E s
/-- the record of enumerate(v) before its first turn -/
abbrev enO (it : Addr) : Obj := { cls := .type "enumerate", data := .fields #[.none, .bool false, .ref it, rawInt 0, .none, .none] }
set_option maxHeartbeats 1000000 in
theorem meets_enum {v : Value} {H : Heap → Prop} {it : Heap → Addr} {behind : Heap → Heap} (op : Opens v H it behind) :
    Meets (Builtin.«enumerate.__new__» ⟨[.type "enumerate", v], []⟩) (fun _ R s => H s.heap ∧ R (.ok (.ret (.ref (behind s.heap).objs.size))) { s with heap := (behind s.heap).push (enO (it s.heap)) }) :=
  .of_wp fun prog w A R s hyp => by
    obtain ⟨can, post⟩ := hyp
    have self := PySem.sub_enumerate
    have opened : ∀ {A' : Around} {E : Value → Shared → Prop} {Q : Value → Shared → Prop}, Q (.ref (it s.heap)) { s with heap := behind s.heap } → wpAny (model prog w) A' (pyIter v) Q E s := op prog w _ _ s _ can
    wp_walk using opened
    refine wpAny_stack_any fun _ => wpAny_pure ?_
    split <;> first | (rename_i c _ _ _ _ _; cases (c == Value.type "enumerate") <;> (wp_walk using opened; exact ⟨_, rfl, post⟩)) | (wp_walk using opened; exact ⟨_, rfl, post⟩)
theorem enum_over {prog : Program} {w : World} {A : Around} {E : Value → Shared → Prop} {s : Shared} {v : Value} {H : Heap → Prop} {it : Heap → Addr} {behind : Heap → Heap} {Q : Value → Shared → Prop} (op : Opens v H it behind) (can : H s.heap)
    (post : ∀ h', IsEnum h' (behind s.heap).objs.size (it s.heap) 0 .none → h'.objs.size = (behind s.heap).objs.size + 1 → (∀ c o, (behind s.heap).get? c = some o → h'.get? c = some o) → Q (.ref (behind s.heap).objs.size) { s with heap := h' }) :
    wpAny (model prog w) A (call (.type "enumerate") [v]) Q E s := by
  have en : IsEnum ((behind s.heap).push (enO (it s.heap))) (behind s.heap).objs.size (it s.heap) 0 .none := Heap.get?_push_size _ rfl
  exact callType_new PySem.F.called_enumerate (by decide) (PySem.F.typeCall_enumerate_1 _) (PySem.F.newCall_enumerate_1 _) (fun obj => PySem.F.args_object_init_2 obj _) PySem.F.entry_enumerate_new
    (meets_enum op) ⟨can, ⟨_, en, rfl⟩, post _ en (Heap.size_push ..) fun _ _ => Heap.get?_push_of_some _⟩
theorem enum_begins0 {prog : Program} {w : World} {A : Around} {E : Value → Shared → Prop} {s : Shared} {v : Value} {o : Obj} {H : Heap → Prop} {Q : Value → Shared → Prop} (B : Begins v o H) (can : H s.heap)
    (post : ∀ h', IsEnum h' (s.heap.objs.size + 1) s.heap.objs.size 0 .none → h'.get? s.heap.objs.size = some o → h'.objs.size = s.heap.objs.size + 2 → (∀ c o, s.heap.get? c = some o → h'.get? c = some o) → Q (.ref (s.heap.objs.size + 1)) { s with heap := h' }) :
    wpAny (model prog w) A (call (.type "enumerate") [v]) Q E s :=
  enum_over (behind := fun h => h.push o) (it := fun h => h.objs.size) (fun prog w A E s Q => B.iter prog w A E s Q) can fun h' en sz kept => by
    have one : (s.heap.push o).objs.size = s.heap.objs.size + 1 := Heap.size_push ..
    simp only [one] at en sz ⊢
    exact post h' en (kept _ _ (Heap.get?_push_size _ B.free)) sz fun c o q => kept c o (Heap.get?_push_of_some _ q)
/-! ### enumerate(tuple) -/
def IteT (K : PySem.W.Frag) (a : Addr) : It :=
  ⟨fun i H => ∃ (xs : List V) (x : V), SqT K H a xs ∧ xs[i]? = some x, fun i H v H' => ∃ T x, v = .ref T ∧ H T = none ∧ H' = upd H T (.tup [.int (i : Nat), x]) ∧ ∀ xs, SqT K H a xs → xs[i]? = some x, fun i H => ∃ xs : List V, SqT K H a xs ∧ xs.length ≤ i⟩
/-- the end of enumerate over a tuple that is used up, whatever the count is -/
theorem enum_done {prog : Program} {w : World} {A : Around} {E : Value → Shared → Prop} {s : Shared} {e it a : Addr} {i : Nat} {c : Int} {old : Value} {its : Array Value} {Q : Option Value → Shared → Prop} (hh : A.handled = none) (en : IsEnum s.heap e it c old)
    (iter : s.heap.IsTupleIter it a i) (tup : s.heap.IsTuple a its) (full : its.size ≤ i) (q : ∀ h', Heap.ExtBut it s.heap h' → Q none { s with heap := h' }) : wpAny (model prog w) A (pyNext (.ref e)) Q E s :=
  wpAny_pyNext_enum_endD (n := i) (P := fun _ _ => True) (St := fun j h => j = i ∧ h.IsTupleIter it a i ∧ h.IsTuple a its)
    { live := fun _ _ st => st.2.1.imp fun _ z => z.1
      frame := fun _ _ _ st k => ⟨st.1, st.2.1.at fun o z => k it (.head _) o z, st.2.2.at fun o z => k a (.tail _ (.head _)) o z⟩
      item := fun _ _ _ _ lt st _ => absurd st.1 (Nat.ne_of_lt lt)
      done := fun _ _ _ st h => wpAny_nextOf_tuple_end hh st.2.1 st.2.2 (Array.getElem?_eq_none full) h : Draws prog w A.in1 it [it, a] i _ _ } en ⟨rfl, iter, tup⟩ q
/-- the pair (i, x) that enumerate has laid at T: once the loop has let go of it, it stands as a tuple of ours, and the iterators have turned -/
theorem pair_laid {X : Cx} {pins : List (Addr × Obj)} {σ : L2.St} {H : Hp} {s : Shared} {h' : Heap} {tk i : Nat} {e it T : Addr} {x : V} {u : Value} {ch : List Addr} {elts : List Expr} {kk : Nat} {tpos : Pos} {E : Value → Shared → Prop}
    (I : L2.Inv X pins σ H s) (new : s.heap.objs.size ≤ T) (hf : ∀ b ∈ ch, FpOk X pins H b) (me : e ∈ ch) (lt : ∀ b ∈ ch, b < T) (ru : RelV x u) (out : IsEnumOut h' e it ((i : Int) + 1) u T)
    (laid : h'.get? T = some { cls := .type "tuple", data := .seq #[.int i tk, u] }) (kept : ∀ b o, b ∉ ch → s.heap.get? b = some o → h'.get? b = some o) :
    wpAny (model X.prog X.w) X.A (letOwnedTupleGo (.Tuple elts kk tpos) (.ref e) (.ref T)) (fun _ t => Inv X pins σ (upd H T (.tup [.int i, x])) t ∧ IsEnum t.heap e it ((i : Int) + 1) u ∧ Heap.SameBut e h' t.heap) E { s with heap := h', toks := tk + 1 } :=
  wpAny_letOwnedTupleGo_enum (s := { s with heap := h', toks := tk + 1 }) out fun h2 en same =>
    ⟨I.turnedNew (ch := ch) (fun b o nb q => (same.2 b fun z => nb (z ▸ me)).trans (kept b o nb q)) hf new ⟨by show 2 ≤ sizeLine; decide, [.int i tk, u], .cons ⟨tk, rfl⟩ (.cons ru .nil), ⟨_, (same.2 _ (Nat.ne_of_gt (lt e me))).trans laid, rfl, 0, rfl⟩⟩, en, same⟩
theorem fp_none {H : Hp} {n : Addr} {o : HO} {ch : List Addr} (lt : ∀ b ∈ ch, b < n) (hn : ∀ b ∈ ch, H b = none) : ∀ b ∈ ch, upd H n o b = none := fun b hb => (upd_ne (Nat.ne_of_lt (lt b hb))).trans (hn b hb)
theorem turn_enumT {P : Program} {w : World} {K : PySem.W.Frag} {elts : List Expr} {kk : Nat} {tpos : Pos} (a e it : Addr) :
    Turn P w K (.Tuple elts kk tpos) (IteT K a) [e, it] e (fun i h => (∃ old, IsEnum h e it ((i : Nat) : Int) old) ∧ h.IsTupleIter it a i ∧ e ≠ it ∧ a ≠ it ∧ a ≠ e) where
  mem := List.mem_cons_self
  obj _ _ st b hb := by
    have ⟨⟨_, en⟩, ⟨o, at_, _, dd⟩, _⟩ := st
    match b, hb with
    | _, .head _ => exact ⟨_, en, nofun⟩
    | _, .tail _ (.head _) => exact ⟨o, at_, fun v z => nomatch dd.symm.trans z⟩
  keep _ _ _ st k := ⟨st.1.imp fun _ en => k e (.head _) _ en, st.2.1.at fun o q => k it (.tail _ (.head _)) o q, st.2.2⟩
  item X hP hw hK calm i pins s σ H E I hf st hg := by
    cases hP; cases hw; cases hK
    have ⟨⟨_, en⟩, iter, ne, ni, nE⟩ := st
    have ⟨xs, x, hq, at_⟩ := hg
    have ⟨its, rv, tup, _⟩ := I.tuple hq
    have ⟨u, au, ru⟩ := rv.get at_
    have lt : ∀ b ∈ [e, it], b < s.heap.objs.size := fun
      | _, .head _ => Heap.lt_size en
      | _, .tail _ (.head _) => Heap.lt_size iter.choose_spec.1
    have inb : i < its.toArray.size := by
      have := (List.getElem?_eq_some_iff.mp au).1
      rwa [List.size_toArray]
    refine wpAny_pyNext_enum_itemC (Draws.tuple (A := X.A.in1) (I.ok.hd calm) it a ni its.toArray) en ⟨iter, tup⟩ inb ne (by simp [ne, Ne.symm nE]) fun y h' tk hy out st' laid _ kept => ⟨_, rfl, ?_⟩
    obtain rfl : y = u := Option.some.inj ((show its[i]? = some y by simpa using hy).symm.trans au)
    refine wpAny_mono (pair_laid (ch := [e, it]) I (Nat.le_refl _) hf (.head _) lt ru out laid fun b o nb => kept b o (fun z => nb (z ▸ .head _)) fun z => nb (z ▸ .tail _ (.head _))) (fun _ t ⟨J, en', same⟩ => ?_) fun _ _ z => z
    exact ⟨V.ref s.heap.objs.size, _, J, rfl, ⟨_, x, rfl, I.hok.fresh (Nat.le_refl _), rfl, fun ys hy => (I.tuple_inj hy hq) ▸ at_⟩, ⟨⟨y, by rw [Int.natCast_succ]; exact en'⟩, st'.1.at fun o q => (same.2 it (Ne.symm ne)).trans q, ne, ni, nE⟩, fp_none lt fun b hb => (hf b hb).1⟩
  done X hP hw hK calm i pins s σ H E I hf st hg := by
    cases hP; cases hw; cases hK
    have ⟨⟨_, en⟩, iter, _, ni, _⟩ := st
    have ⟨xs, hq, over⟩ := hg
    have ⟨its, rv, tup, _⟩ := I.tuple hq
    have ⟨f0, f1, f2, f3, f4, f5⟩ := hf it (.tail _ (.head _))
    have full : its.toArray.size ≤ i := by rw [List.size_toArray, ← rv.length]; exact over
    exact enum_done (I.ok.hd calm) en iter tup full fun h' ext => ⟨rfl, I.turned (t' := s.toks) (fun b o nb q => ext b o nb q) f0 f1 f3 f4 f5⟩
  self _ _ _ _ _ st h := st.1.elim fun _ en => wpAny_pyIter_enum en h
/-- over a list or a tuple -/
def iEnumA (K : PySem.W.Frag) (ta : TA) : TI := fun σ H R => ta σ H fun vs H1 => ∃ a, vs = [.ref a] ∧ ((∃ xs, SqL K H1 a xs ∧ R (Ite K a) H1) ∨ (∃ xs, SqT K H1 a xs ∧ R (IteT K a) H1))
/-- two objects just laid, both of the iterator -/
theorem two_new {X : Cx} {pins : List (Addr × Obj)} {σ : L2.St} {H : Hp} {s : Shared} (I : L2.Inv X pins σ H s) : ∀ b ∈ [s.heap.objs.size + 1, s.heap.objs.size], FpOk X pins H b
  | _, .head _ => I.fpOk (Nat.le_succ _) (I.hok.fresh (Nat.le_succ _))
  | _, .tail _ (.head _) => I.fpOk (Nat.le_refl _) (I.hok.fresh (Nat.le_refl _))
theorem pi_enumA {X : Cx} {e : Expr} {ta : TA} {p pos tpos : Pos} {elts : List Expr} {kk : Nat} (hg : Gl X "enumerate") (hm : X.mg "enumerate" = none) (ha : PA X [e] ta) (hs : starEach [e] X.env = [(false, eval e X.env)]) :
    PI X (.Tuple elts kk tpos) (.Call (.Name "enumerate" p) [e] [] pos) (iEnumA X.K ta) where
  run pins s σ H R I h := Call_ (ld_blt I hg hm boot_enumerate (PyProof.Rows.callWith_type1 (thn (ha.run pos pins s σ H _ I h) fun us s1 ⟨vs, H1, I1, r1, a, ex, q⟩ => by
    cases ex
    cases r1 with
    | cons r rr =>
      cases rr; cases r
      rcases q with ⟨xs, hq, q⟩ | ⟨xs, hq, q⟩
      · have ⟨its, _, pl, _⟩ := I1.list hq
        exact call_enumerate_list pl.isList fun h' en iter _ k => wpAny_pyIter_enum en ⟨_, _, _, _, H1, rfl, I1.kept (t' := s1.toks) k, turn_enum a _ _, ⟨⟨.none, en⟩, iter, Nat.succ_ne_self _⟩, two_new I1, q⟩
      · have ⟨its, _, tup, _⟩ := I1.tuple hq
        have lt : a < s1.heap.objs.size := tup.elim fun _ z => Heap.lt_size z.1
        exact enum_begins0 (begins_tuple a its.toArray) tup fun h' en iter _ k => wpAny_pyIter_enum en ⟨_, _, _, _, H1, rfl, I1.kept (t' := s1.toks) k, turn_enumT a _ _, ⟨⟨.none, en⟩, ⟨_, iter, rfl, rfl⟩, Nat.succ_ne_self _, Nat.ne_of_lt lt, Nat.ne_of_lt (Nat.lt_succ_of_lt lt)⟩, two_new I1, q⟩) hs rfl))
/-- x in a list or a tuple -/
def iSeq (K : PySem.W.Frag) (tl : TE) : TI := fun σ H R => tl σ H fun x H1 => ∃ a, x = .ref a ∧ ((∃ xs, SqL K H1 a xs ∧ R (Itl K a) H1) ∨ (∃ xs, SqT K H1 a xs ∧ R (Itt K a) H1))
theorem pi_seq {X : Cx} {tg l : Expr} {tl : TE} (hl : PE X l tl) : PI X tg l (iSeq X.K tl) where
  run pins s σ H R I h := thn (hl.run pins s σ H _ I h) fun v s1 ⟨x, H1, I1, r1, a, e, q⟩ => by
    cases e
    cases r1
    cases q with
    | inl q =>
      have ⟨xs, hq, q⟩ := q
      have ⟨its, _, p, _⟩ := I1.list hq
      exact wpAny_pyIter_list p.isList (pi_one I1 _ (turn_list a _) ⟨_, Heap.get?_push_size _ rfl, rfl, rfl⟩ q)
    | inr q =>
      have ⟨xs, hq, q⟩ := q
      have ⟨its, _, p, _⟩ := I1.tuple hq
      exact wpAny_pyIter_tuple (items := its.toArray) p (pi_one I1 _ (turn_tuple a _) ⟨_, Heap.get?_push_size _ rfl, rfl, rfl⟩ q)

/-! ### what a walk over frozen data yields -/
structure ItOk (G : Gd) (J : It) (F : Hp) (ds : List D) : Prop where
  go : ∀ F' H' L i, Same F F' → G.HR F' H' L → i < ds.length → J.go i H'
  yld : ∀ F' H' L i x H'' d, Same F F' → G.HR F' H' L → ds[i]? = some d → J.yld i H' x H'' → ∃ F'', Same F' F'' ∧ G.HR F'' H'' L ∧ Rp G.K F'' x d
  stop : ∀ F' H' L i, Same F F' → G.HR F' H' L → ds.length ≤ i → J.stop i H'
section
variable {G : Gd} {F : Hp} {a b : Addr} {vs ws : List V} {ds es : List D}
theorem itok_lst (h : SqL G.K F a vs) (r : RpA G.K F vs ds) : ItOk G (Itl G.K a) F ds where
  go := fun F' H' L i s hr hi => by
    have hi' : i < vs.length := by rw [r.length]; exact hi
    exact ⟨vs, vs[i], (s.trans hr.sub).seq h, List.getElem?_eq_getElem hi'⟩
  yld := fun F' H' L i x H'' d s hr hd hy => by
    obtain ⟨rfl, hx⟩ := hy
    obtain ⟨v, h1, h2⟩ := r.get hd
    have e := hx vs ((s.trans hr.sub).seq h)
    rw [h1] at e
    cases e
    exact ⟨F', Same.refl _, hr, h2.mono s⟩
  stop := fun F' H' L i s hr hi => ⟨vs, (s.trans hr.sub).seq h, by rw [r.length]; exact hi⟩
theorem itok_tup (h : SqU G.K F a vs) (r : RpA G.K F vs ds) : ItOk G (Itt G.K a) F ds where
  go := fun F' H' L i s hr hi => by
    have hi' : i < vs.length := by rw [r.length]; exact hi
    exact ⟨vs, vs[i], sameT (s.trans hr.sub) h, List.getElem?_eq_getElem hi'⟩
  yld := fun F' H' L i x H'' d s hr hd hy => by
    obtain ⟨rfl, hx⟩ := hy
    obtain ⟨v, h1, h2⟩ := r.get hd
    have e := hx vs (sameT (s.trans hr.sub) h)
    rw [h1] at e
    cases e
    exact ⟨F', Same.refl _, hr, h2.mono s⟩
  stop := fun F' H' L i s hr hi => ⟨vs, sameT (s.trans hr.sub) h, by rw [r.length]; exact hi⟩
theorem itok_rng (lo : Int) (n : Nat) : ItOk G (Itr lo n) F ((List.range n).map fun (i : Nat) => PyData.int (lo + (i : Int))) where
  go := fun F' H' L i s hr hi => by
    rw [List.length_map, List.length_range] at hi
    exact hi
  yld := fun F' H' L i x H'' d s hr hd hy => by
    obtain ⟨rfl, rfl⟩ := hy
    rw [List.getElem?_map] at hd
    cases q : (List.range n)[i]? with
    | none => rw [q] at hd; cases hd
    | some j =>
      rw [q] at hd
      have ej : j = i := by
        have := List.getElem?_eq_some_iff.mp q
        obtain ⟨h, e⟩ := this
        rw [List.getElem_range] at e
        exact e.symm
      subst ej
      cases hd
      exact ⟨F', Same.refl _, hr, .int _⟩
  stop := fun F' H' L i s hr hi => by
    rw [List.length_map, List.length_range] at hi
    exact hi
theorem itok_rngC (lo c : Int) (n : Nat) : ItOk G (Itc lo c n) F ((List.range n).map fun (i : Nat) => PyData.int (lo + (i : Int) * c)) where
  go := fun F' H' L i s hr hi => by
    rw [List.length_map, List.length_range] at hi
    exact hi
  yld := fun F' H' L i x H'' d s hr hd hy => by
    obtain ⟨rfl, rfl⟩ := hy
    rw [List.getElem?_map] at hd
    cases q : (List.range n)[i]? with
    | none => rw [q] at hd; cases hd
    | some j =>
      rw [q] at hd
      have ej : j = i := by
        have := List.getElem?_eq_some_iff.mp q
        obtain ⟨h, e⟩ := this
        rw [List.getElem_range] at e
        exact e.symm
      subst ej
      cases hd
      exact ⟨F', Same.refl _, hr, .int _⟩
  stop := fun F' H' L i s hr hi => by
    rw [List.length_map, List.length_range] at hi
    exact hi
def enumD : Nat → List D → List D
  | _, [] => []
  | k, d :: ds => .tuple [.int (k : Nat), d] :: enumD (k + 1) ds
theorem enumD_len : ∀ (k : Nat) (ds : List D), (enumD k ds).length = ds.length
  | _, [] => rfl
  | k, d :: ds => congrArg (· + 1) (enumD_len (k + 1) ds)
theorem enumD_get : ∀ (k : Nat) (ds : List D) (i : Nat), (enumD k ds)[i]? = (ds[i]?).map fun d => .tuple [.int ((k + i : Nat) : Int), d]
  | _, [], i => by simp [enumD]
  | k, d :: ds, 0 => rfl
  | k, d :: ds, i + 1 => by
    show (enumD (k + 1) ds)[i]? = _
    rw [enumD_get (k + 1) ds i, List.getElem?_cons_succ, show k + 1 + i = k + (i + 1) from by omega]
theorem pair_new {F' H' : Hp} {L : List (Cl × V)} {T : Addr} {x y : V} {d e : D} (hr : G.HR F' H' L) (hT : H' T = none) (h1 : Rp G.K F' x d) (h2 : Rp G.K F' y e) : ∃ F'', Same F' F'' ∧ G.HR F'' (upd H' T (.tup [x, y])) L ∧ Rp G.K F'' (.ref T) (.tuple [d, e]) := by
  obtain ⟨s, q⟩ := hr.newF (o := .tup [x, y]) hT
  exact ⟨_, s, q, .tup (.inl upd_same) (.cons (h1.mono s) (.cons (h2.mono s) .nil))⟩
theorem itok_enum (h : SqL G.K F a vs) (r : RpA G.K F vs ds) : ItOk G (Ite G.K a) F (enumD 0 ds) where
  go := fun F' H' L i s hr hi => by
    rw [enumD_len] at hi
    have hi' : i < vs.length := by rw [r.length]; exact hi
    exact ⟨vs, vs[i], (s.trans hr.sub).seq h, List.getElem?_eq_getElem hi'⟩
  yld := fun F' H' L i x H'' d s hr hd hy => by
    obtain ⟨T, y, rfl, hT, rfl, hx⟩ := hy
    rw [enumD_get] at hd
    cases q : ds[i]? with
    | none => rw [q] at hd; cases hd
    | some d' =>
      rw [q] at hd
      cases hd
      obtain ⟨v, h1, h2⟩ := r.get q
      have e := hx vs ((s.trans hr.sub).seq h)
      rw [h1] at e
      cases e
      rw [show 0 + i = i from Nat.zero_add i]
      exact pair_new hr hT (.int _) (h2.mono s)
  stop := fun F' H' L i s hr hi => ⟨vs, (s.trans hr.sub).seq h, by rw [r.length]; rw [enumD_len] at hi; exact hi⟩
theorem itok_enumT (h : SqU G.K F a vs) (r : RpA G.K F vs ds) : ItOk G (IteT G.K a) F (enumD 0 ds) where
  go := fun F' H' L i s hr hi => by
    rw [enumD_len] at hi
    have hi' : i < vs.length := by rw [r.length]; exact hi
    exact ⟨vs, vs[i], sameT (s.trans hr.sub) h, List.getElem?_eq_getElem hi'⟩
  yld := fun F' H' L i x H'' d s hr hd hy => by
    obtain ⟨T, y, rfl, hT, rfl, hx⟩ := hy
    rw [enumD_get] at hd
    cases q : ds[i]? with
    | none => rw [q] at hd; cases hd
    | some d' =>
      rw [q] at hd
      cases hd
      obtain ⟨v, h1, h2⟩ := r.get q
      have e := hx vs (sameT (s.trans hr.sub) h)
      rw [h1] at e
      cases e
      rw [show 0 + i = i from Nat.zero_add i]
      exact pair_new hr hT (.int _) (h2.mono s)
  stop := fun F' H' L i s hr hi => ⟨vs, sameT (s.trans hr.sub) h, by rw [r.length]; rw [enumD_len] at hi; exact hi⟩
def zipD : List D → List D → List D
  | d :: ds, e :: es => .tuple [d, e] :: zipD ds es
  | _, _ => []
theorem zipD_len : ∀ (ds es : List D), (zipD ds es).length = min ds.length es.length
  | [], es => by simp [zipD]
  | _ :: _, [] => by simp [zipD]
  | d :: ds, e :: es => by
    show (zipD ds es).length + 1 = min (ds.length + 1) (es.length + 1)
    rw [zipD_len ds es]; omega
theorem zipD_get : ∀ (ds es : List D) (i : Nat) (p : D), (zipD ds es)[i]? = some p → ∃ d e, ds[i]? = some d ∧ es[i]? = some e ∧ p = .tuple [d, e]
  | [], es, i, p, h => by simp [zipD] at h
  | _ :: _, [], i, p, h => by simp [zipD] at h
  | d :: ds, e :: es, 0, p, h => ⟨d, e, rfl, rfl, (Option.some.inj h).symm⟩
  | d :: ds, e :: es, i + 1, p, h => zipD_get ds es i p h
theorem itok_zip (h : SqL G.K F a vs) (r : RpA G.K F vs ds) (h' : SqL G.K F b ws) (r' : RpA G.K F ws es) : ItOk G (Itz G.K a b) F (zipD ds es) where
  go := fun F' H' L i s hr hi => by
    rw [zipD_len] at hi
    have hi1 : i < vs.length := by rw [r.length]; omega
    have hi2 : i < ws.length := by rw [r'.length]; omega
    exact ⟨vs, ws, vs[i], ws[i], (s.trans hr.sub).seq h, (s.trans hr.sub).seq h', List.getElem?_eq_getElem hi1, List.getElem?_eq_getElem hi2⟩
  yld := fun F' H' L i x H'' d s hr hd hy => by
    obtain ⟨T, y, z, rfl, hT, rfl, hx, hz⟩ := hy
    obtain ⟨d1, d2, q1, q2, rfl⟩ := zipD_get _ _ _ _ hd
    obtain ⟨v, h1, h2⟩ := r.get q1
    obtain ⟨v', h1', h2'⟩ := r'.get q2
    have e := hx vs ((s.trans hr.sub).seq h)
    rw [h1] at e
    cases e
    have e := hz ws ((s.trans hr.sub).seq h')
    rw [h1'] at e
    cases e
    exact pair_new hr hT (h2.mono s) (h2'.mono s)
  stop := fun F' H' L i s hr hi => ⟨vs, ws, (s.trans hr.sub).seq h, (s.trans hr.sub).seq h', by rw [r.length, r'.length]; rw [zipD_len] at hi; omega⟩
theorem itok_zipT (h : SqU G.K F a vs) (r : RpA G.K F vs ds) (h' : SqU G.K F b ws) (r' : RpA G.K F ws es) : ItOk G (RZ.ItzT G.K a b) F (zipD ds es) where
  go := fun F' H' L i s hr hi => by
    rw [zipD_len] at hi
    have hi1 : i < vs.length := by rw [r.length]; omega
    have hi2 : i < ws.length := by rw [r'.length]; omega
    exact ⟨vs, ws, vs[i], ws[i], sameT (s.trans hr.sub) h, sameT (s.trans hr.sub) h', List.getElem?_eq_getElem hi1, List.getElem?_eq_getElem hi2⟩
  yld := fun F' H' L i x H'' d s hr hd hy => by
    obtain ⟨T, y, z, rfl, hT, rfl, hx, hz⟩ := hy
    obtain ⟨d1, d2, q1, q2, rfl⟩ := zipD_get _ _ _ _ hd
    obtain ⟨v, h1, h2⟩ := r.get q1
    obtain ⟨v', h1', h2'⟩ := r'.get q2
    have e := hx vs (sameT (s.trans hr.sub) h)
    rw [h1] at e
    cases e
    have e := hz ws (sameT (s.trans hr.sub) h')
    rw [h1'] at e
    cases e
    exact pair_new hr hT (h2.mono s) (h2'.mono s)
  stop := fun F' H' L i s hr hi => ⟨vs, ws, sameT (s.trans hr.sub) h, sameT (s.trans hr.sub) h', by rw [r.length, r'.length]; rw [zipD_len] at hi; omega⟩
end
/-! ### the walked things -/
def PoI (G : Gd) (W : WX) (F : Hp) (σ : L2.St) (T : List (Cl × V)) (Q : It → Hp → Prop) : Rz (List D) → Prop
  | .ok ds ρ => ∀ F' H' J, Same F F' → G.R F' H' ρ σ T → ItOk G J F' ds → Q J H'
  | .ex x ρ => PoX G W F σ T x ρ
def SndI (G : Gd) (W : WX) (t : TI) (f : Fn (List D)) : Prop :=
  ∀ n ρ r, f n ρ = some r → ∀ F H σ T Q, G.R F H ρ σ T → PoI G W F σ T Q r → t σ H Q
def XI {ι : Type} (G : Gd) (X : ι → Cx) (W : WX) (tg e : Expr) (f : Fn (List D)) : Prop := ∃ t : TI, (∀ i, PI (X i) tg e t) ∧ SndI G W t f
def asSeq (d : D) : Option (List D) := match d with
  | .list ds => some ds
  | .tuple ds => some ds
  | _ => none
section
variable {ι : Type} {G : Gd} {X : ι → Cx} {W : WX} {e tg : Expr} {es : List Expr}
/-- operands as frozen data -/
def fFzs (f : Fn (List Bv)) : Fn (List D) := fun n ρ => bnd (f n ρ) fun bs ρ1 => match fzBs ρ1 bs with
  | some (ds, ρ2) => some (.ok ds ρ2)
  | none => none
def PoFs (G : Gd) (W : WX) (F : Hp) (σ : L2.St) (T : List (Cl × V)) (Q : List V → Hp → Prop) : Rz (List D) → Prop
  | .ok ds ρ => ∀ F' H' vs, Same F F' → G.R F' H' ρ σ T → RpA G.K F' vs ds → Q vs H'
  | .ex x ρ => PoX G W F σ T x ρ
theorem snd_fzs {t : TA} {f : Fn (List Bv)} (h : SndBs G W t f) : ∀ n ρ r, fFzs f n ρ = some r → ∀ F H σ T Q, G.R F H ρ σ T → PoFs G W F σ T Q r → t σ H Q := fun n ρ r e F H σ T Q hR hP => by
  unfold fFzs at e
  cases q : f n ρ with
  | none => rw [q] at e; cases e
  | some r1 =>
    rw [q] at e
    refine h n ρ r1 q F H σ T Q hR ?_
    cases r1 with
    | ex x ρ' => cases e; exact hP
    | ok bs ρ1 =>
      rw [bnd_ok] at e
      cases q2 : fzBs ρ1 bs with
      | none => rw [q2] at e; cases e
      | some p =>
        obtain ⟨ds, ρ2⟩ := p
        rw [q2] at e
        cases e
        intro F1 H1 vs s1 R1 v1
        obtain ⟨F2, s2, R2, r2⟩ := fz_many R1 v1 q2
        exact hP F2 H1 vs (s1.trans s2) R2 r2
def fISeq (f : Fn Bv) : Fn (List D) := fun n ρ => bnd (fFzs (fCons f fNil) n ρ) fun ds ρ1 => match ds with
  | [d] => match asSeq d with
    | some xs => some (.ok xs ρ1)
    | none => none
  | _ => none
theorem snd_iseq {t : TE} {f : Fn Bv} (h : SndB G W t f) : SndI G W (iSeq G.K t) (fISeq f) := fun n ρ r e F H σ T Q hR hP => by
  unfold fISeq at e
  cases q : fFzs (fCons f fNil) n ρ with
  | none => rw [q] at e; cases e
  | some r1 =>
    rw [q] at e
    refine snd_fzs (snd_cons h snd_nil) n ρ r1 q F H σ T (fun vs H1 => match vs with | [x] => ∃ a, x = .ref a ∧ ((∃ xs, SqL G.K H1 a xs ∧ Q (Itl G.K a) H1) ∨ (∃ xs, SqT G.K H1 a xs ∧ Q (Itt G.K a) H1)) | _ => False) hR ?_
    cases r1 with
    | ex x ρ' => cases e; exact hP
    | ok ds ρ1 =>
      rw [bnd_ok] at e
      intro F1 H1 vs s1 R1 v1
      cases v1 with
      | nil => cases e
      | cons hd r =>
        cases r with
        | cons _ _ => cases e
        | nil =>
          dsimp only at e
          cases hd with
          | lst h1 r1 =>
            cases e
            exact ⟨_, rfl, .inl ⟨_, R1.sub.seq h1, hP F1 H1 _ s1 R1 (itok_lst h1 r1)⟩⟩
          | tup h1 r1 =>
            cases e
            exact ⟨_, rfl, .inr ⟨_, sameT R1.sub h1, hP F1 H1 _ s1 R1 (itok_tup h1 r1)⟩⟩
          | _ => cases e
theorem xi_seq {f : Fn Bv} (hK : ∀ i, (X i).K = G.K) (h : XB G X W e f) : XI G X W tg e (fISeq f) := by
  obtain ⟨t, h1, h2⟩ := h
  exact ⟨_, fun i => by have := pi_seq (tg := tg) (h1 i); rw [hK i] at this; exact this, snd_iseq h2⟩
def fIEnum (f : Fn Bv) : Fn (List D) := fun n ρ => bnd (fISeq f n ρ) fun ds ρ1 => some (.ok (enumD 0 ds) ρ1)
theorem snd_ienum {t : TE} {f : Fn Bv} (h : SndB G W t f) : SndI G W (iEnumA G.K (tCons t tNil)) (fIEnum f) := fun n ρ r e F H σ T Q hR hP => by
  unfold fIEnum fISeq at e
  cases q : fFzs (fCons f fNil) n ρ with
  | none => rw [q] at e; cases e
  | some r1 =>
    rw [q] at e
    refine snd_fzs (snd_cons h snd_nil) n ρ r1 q F H σ T _ hR ?_
    cases r1 with
    | ex x ρ' => cases e; exact hP
    | ok ds ρ1 =>
      rw [bnd_ok] at e
      intro F1 H1 vs s1 R1 v1
      cases v1 with
      | nil => cases e
      | cons hd r =>
        cases r with
        | cons _ _ => cases e
        | nil =>
          dsimp only at e
          cases hd with
          | lst h1 r1 =>
            cases e
            exact ⟨_, rfl, .inl ⟨_, R1.sub.seq h1, hP F1 H1 _ s1 R1 (itok_enum h1 r1)⟩⟩
          | tup h1 r1 =>
            cases e
            exact ⟨_, rfl, .inr ⟨_, sameT R1.sub h1, hP F1 H1 _ s1 R1 (itok_enumT h1 r1)⟩⟩
          | _ => cases e
theorem xi_enum {f : Fn Bv} {p pos tpos : Pos} {elts : List Expr} {kk : Nat} (hK : ∀ i, (X i).K = G.K) (hg : ∀ i, Gl (X i) "enumerate") (hm : ∀ i, (X i).mg "enumerate" = none) (h : XB G X W e f) (hs : ∀ i, starEach [e] (X i).env = [(false, eval e (X i).env)]) :
    XI G X W (.Tuple elts kk tpos) (.Call (.Name "enumerate" p) [e] [] pos) (fIEnum f) := by
  obtain ⟨t, h1, h2⟩ := h
  exact ⟨_, fun i => by have := pi_enumA (elts := elts) (kk := kk) (tpos := tpos) (p := p) (pos := pos) (hg i) (hm i) (pa_cons (h1 i) pa_nil (hs i)) (hs i); rw [hK i] at this; exact this, snd_ienum h2⟩
def fIZip (f g : Fn Bv) : Fn (List D) := fun n ρ => bnd (fFzs (fCons f (fCons g fNil)) n ρ) fun ds ρ1 => match ds with
  | [.list xs, .list ys] => some (.ok (zipD xs ys) ρ1)
  | [.tuple xs, .tuple ys] => some (.ok (zipD xs ys) ρ1)
  | _ => none
theorem snd_izip {t u : TE} {f g : Fn Bv} (h : SndB G W t f) (h' : SndB G W u g) : SndI G W (RZ.iZipA G.K (tCons t (tCons u tNil))) (fIZip f g) := fun n ρ r e F H σ T Q hR hP => by
  unfold fIZip at e
  cases q : fFzs (fCons f (fCons g fNil)) n ρ with
  | none => rw [q] at e; cases e
  | some r1 =>
    rw [q] at e
    refine snd_fzs (snd_cons h (snd_cons h' snd_nil)) n ρ r1 q F H σ T _ hR ?_
    cases r1 with
    | ex x ρ' => cases e; exact hP
    | ok ds ρ1 =>
      rw [bnd_ok] at e
      intro F1 H1 vs s1 R1 v1
      split at e
      · cases e
        cases v1 with
        | cons a1 v1 =>
          cases v1 with
          | cons a2 v1 =>
            cases v1
            cases a1 with
            | lst h1 r1 =>
              cases a2 with
              | lst h2 r2 => exact ⟨_, _, _, _, rfl, .inl ⟨R1.sub.seq h1, R1.sub.seq h2, hP F1 H1 _ s1 R1 (itok_zip h1 r1 h2 r2)⟩⟩
      · cases e
        cases v1 with
        | cons a1 v1 =>
          cases v1 with
          | cons a2 v1 =>
            cases v1
            cases a1 with
            | tup h1 r1 =>
              cases a2 with
              | tup h2 r2 => exact ⟨_, _, _, _, rfl, .inr ⟨sameT R1.sub h1, sameT R1.sub h2, hP F1 H1 _ s1 R1 (itok_zipT h1 r1 h2 r2)⟩⟩
      · cases e
theorem xi_zip {e2 : Expr} {f g : Fn Bv} {p pos tpos : Pos} {elts : List Expr} {kk : Nat} (hK : ∀ i, (X i).K = G.K) (hg : ∀ i, Gl (X i) "zip") (hm : ∀ i, (X i).mg "zip" = none) (h : XB G X W e f) (h' : XB G X W e2 g)
    (hs : ∀ i, starEach [e, e2] (X i).env = (false, eval e (X i).env) :: starEach [e2] (X i).env) (hs2 : ∀ i, starEach [e2] (X i).env = (false, eval e2 (X i).env) :: starEach [] (X i).env) (hpl : ∀ i, (backTo pos (starEach [e2] (X i).env)).any (·.1) = false) :
    XI G X W (.Tuple elts kk tpos) (.Call (.Name "zip" p) [e, e2] [] pos) (fIZip f g) := by
  obtain ⟨t, h1, h2⟩ := h
  obtain ⟨t', h1', h2'⟩ := h'
  exact ⟨_, fun i => by have := RZ.pi_zipA (elts := elts) (kk := kk) (tpos := tpos) (p := p) (hg i) (hm i) (pa_cons (h1 i) (pa_cons (h1' i) pa_nil (hs2 i)) (hs i)) (hs i) (hpl i); rw [hK i] at this; exact this, snd_izip h2 h2'⟩
/-- range -/
def smI (i : Int) : Bool := Nat.ble i.natAbs 1000000000
def rngD (lo : Int) (n : Nat) : List D := (List.range n).map fun (i : Nat) => PyData.int (lo + (i : Int))
def rngCD (lo c : Int) (n : Nat) : List D := (List.range n).map fun (i : Nat) => PyData.int (lo + (i : Int) * c)
def fIR1 (f : Fn Bv) : Fn (List D) := fun n ρ => bnd (fFzs (fCons f fNil) n ρ) fun ds ρ1 => match ds with
  | [.int j] => if smI j = true then some (.ok (rngD 0 j.toNat) ρ1) else none
  | _ => none
def fIR2 (f g : Fn Bv) : Fn (List D) := fun n ρ => bnd (fFzs (fCons f (fCons g fNil)) n ρ) fun ds ρ1 => match ds with
  | [.int i, .int j] => if (smI i && smI j) = true then some (.ok (rngD i (j - i).toNat) ρ1) else none
  | _ => none
def fIR3 (f g h : Fn Bv) : Fn (List D) := fun n ρ => bnd (fFzs (fCons f (fCons g (fCons h fNil))) n ρ) fun ds ρ1 => match ds with
  | [.int i, .int j, .int c] => if (smI i && smI j && decide (c = -1)) = true then some (.ok (rngCD i (-1) (i - j).toNat) ρ1) else none
  | _ => none
theorem smI_ok {i : Int} (h : smI i = true) : -(2 ^ 62) ≤ i ∧ i < 2 ^ 62 := by
  have h : i.natAbs ≤ 1000000000 := Nat.le_of_ble_eq_true h
  omega
theorem xi_rng1 {p pos : Pos} {f : Fn Bv} (hg : ∀ i, Gl (X i) "range") (hm : ∀ i, (X i).mg "range" = none) (ha : XB G X W e f) (hs : ∀ i, starEach [e] (X i).env = [(false, eval e (X i).env)]) : XI G X W tg (.Call (.Name "range" p) [e] [] pos) (fIR1 f) := by
  obtain ⟨t, h1, h2⟩ := ha
  refine ⟨_, fun i => pi_range1 (hg i) (hm i) (pa_cons (h1 i) pa_nil (hs i)) (hs i), fun n ρ r e F H σ T Q hR hP => ?_⟩
  unfold fIR1 at e
  cases q : fFzs (fCons f fNil) n ρ with
  | none => rw [q] at e; cases e
  | some r1 =>
    rw [q] at e
    refine snd_fzs (snd_cons h2 snd_nil) n ρ r1 q F H σ T _ hR ?_
    cases r1 with
    | ex x ρ' => cases e; exact hP
    | ok ds ρ1 =>
      rw [bnd_ok] at e
      intro F1 H1 vs s1 R1 v1
      split at e
      · split at e
        · rename_i hj
          cases e
          obtain ⟨q1, q2⟩ := smI_ok hj
          cases v1 with
          | cons a1 v1 =>
            cases v1
            cases a1
            exact ⟨_, rfl, q1, q2, hP F1 H1 _ s1 R1 (itok_rng 0 _)⟩
        · cases e
      · cases e
theorem xi_rng2 {e2 : Expr} {p pos : Pos} {f g : Fn Bv} (hg : ∀ i, Gl (X i) "range") (hm : ∀ i, (X i).mg "range" = none) (ha : XB G X W e f) (hb : XB G X W e2 g) (hs : ∀ i, starEach [e, e2] (X i).env = [(false, eval e (X i).env), (false, eval e2 (X i).env)]) (hs2 : ∀ i, starEach [e2] (X i).env = [(false, eval e2 (X i).env)]) :
    XI G X W tg (.Call (.Name "range" p) [e, e2] [] pos) (fIR2 f g) := by
  obtain ⟨t, h1, h2⟩ := ha
  obtain ⟨t', h1', h2'⟩ := hb
  refine ⟨_, fun i => pi_range2 (hg i) (hm i) (pa_cons (h1 i) (pa_cons (h1' i) pa_nil (hs2 i)) (by rw [hs i, hs2 i])) (hs i) (hs2 i), fun n ρ r e F H σ T Q hR hP => ?_⟩
  unfold fIR2 at e
  cases q : fFzs (fCons f (fCons g fNil)) n ρ with
  | none => rw [q] at e; cases e
  | some r1 =>
    rw [q] at e
    refine snd_fzs (snd_cons h2 (snd_cons h2' snd_nil)) n ρ r1 q F H σ T _ hR ?_
    cases r1 with
    | ex x ρ' => cases e; exact hP
    | ok ds ρ1 =>
      rw [bnd_ok] at e
      intro F1 H1 vs s1 R1 v1
      split at e
      · split at e
        · rename_i hj
          cases e
          rw [Bool.and_eq_true] at hj
          obtain ⟨q1, q2⟩ := smI_ok hj.1
          obtain ⟨q3, q4⟩ := smI_ok hj.2
          cases v1 with
          | cons a1 v1 =>
            cases v1 with
            | cons a2 v1 =>
              cases v1
              cases a1
              cases a2
              exact ⟨_, _, rfl, ⟨q1, q2, q3, q4⟩, hP F1 H1 _ s1 R1 (itok_rng _ _)⟩
        · cases e
      · cases e
theorem xi_rng3 {e2 e3 : Expr} {p pos : Pos} {f g h : Fn Bv} (hg : ∀ i, Gl (X i) "range") (hm : ∀ i, (X i).mg "range" = none) (ha : XB G X W e f) (hb : XB G X W e2 g) (hc : XB G X W e3 h) (hs : ∀ i, starEach [e, e2, e3] (X i).env = [(false, eval e (X i).env), (false, eval e2 (X i).env), (false, eval e3 (X i).env)])
    (hs2 : ∀ i, starEach [e2, e3] (X i).env = [(false, eval e2 (X i).env), (false, eval e3 (X i).env)]) (hs3 : ∀ i, starEach [e3] (X i).env = [(false, eval e3 (X i).env)])
    (hx : ∀ i, ∀ ta : TA, PA (X i) [e, e2, e3] ta → PI (X i) tg (.Call (.Name "range" p) [e, e2, e3] [] pos) (iRng3 ta)) :
    XI G X W tg (.Call (.Name "range" p) [e, e2, e3] [] pos) (fIR3 f g h) := by
  obtain ⟨t, h1, h2⟩ := ha
  obtain ⟨t', h1', h2'⟩ := hb
  obtain ⟨t'', h1'', h2''⟩ := hc
  refine ⟨_, fun i => hx i _ (pa_cons (h1 i) (pa_cons (h1' i) (pa_cons (h1'' i) pa_nil (hs3 i)) (by rw [hs2 i, hs3 i])) (by rw [hs i, hs2 i])), fun n ρ r e F H σ T Q hR hP => ?_⟩
  unfold fIR3 at e
  cases q : fFzs (fCons f (fCons g (fCons h fNil))) n ρ with
  | none => rw [q] at e; cases e
  | some r1 =>
    rw [q] at e
    refine snd_fzs (snd_cons h2 (snd_cons h2' (snd_cons h2'' snd_nil))) n ρ r1 q F H σ T _ hR ?_
    cases r1 with
    | ex x ρ' => cases e; exact hP
    | ok ds ρ1 =>
      rw [bnd_ok] at e
      intro F1 H1 vs s1 R1 v1
      split at e
      · split at e
        · rename_i hj
          cases e
          rw [Bool.and_eq_true, Bool.and_eq_true] at hj
          obtain ⟨q1, q2⟩ := smI_ok hj.1.1
          obtain ⟨q3, q4⟩ := smI_ok hj.1.2
          have ec := of_decide_eq_true hj.2
          subst ec
          cases v1 with
          | cons a1 v1 =>
            cases v1 with
            | cons a2 v1 =>
              cases v1 with
              | cons a3 v1 =>
                cases v1
                cases a1
                cases a2
                cases a3
                exact ⟨_, _, _, _, rfl, RgC.neg q1 q2 q3 q4, hP F1 H1 _ s1 R1 (itok_rngC _ _ _)⟩
        · cases e
      · cases e
end
end L3

namespace L3
open PySem PySem.Spec L2

inductive Ot where
  | nx (ρ : En)
  | rt (c : Cl) (ρ : En)
  | bk (ρ : En)
  | ct (ρ : En)
  | ex (x : Ex) (ρ : En)
abbrev FS := Nat → En → Option Ot
def bS {α : Type} (x : Option (Rz α)) (k : α → En → Option Ot) : Option Ot :=
  match x with
  | some (.ok a ρ) => k a ρ
  | some (.ex x ρ) => some (.ex x ρ)
  | none => none
@[simp] theorem bS_ok {α : Type} (a : α) (ρ : En) (k : α → En → Option Ot) : bS (some (.ok a ρ)) k = k a ρ := rfl
@[simp] theorem bS_ex {α : Type} (x : Ex) (ρ : En) (k : α → En → Option Ot) : bS (some (.ex x ρ)) k = some (.ex x ρ) := rfl
@[simp] theorem bS_none {α : Type} (k : α → En → Option Ot) : bS none k = none := rfl

def Kp (P : List Nat) (σ σ' : L2.St) : Prop := ∀ i ∈ P, σ'[i]? = σ[i]?
theorem Kp.refl {P : List Nat} (σ : L2.St) : Kp P σ σ := fun _ _ => rfl
theorem Kp.trans {P : List Nat} {a b c : L2.St} (h : Kp P a b) (k : Kp P b c) : Kp P a c := fun i hi => (k i hi).trans (h i hi)
theorem Kp.set {P : List Nat} {σ : L2.St} {i : Nat} {o : Option V} (h : i ∉ P) : Kp P σ (σ.set i o) := fun j hj => by
  rw [List.getElem?_set_ne]
  intro z
  subst z
  exact h hj

def PoS (G : Gd) (W : WX) (P : List Nat) (F : Hp) (σ : L2.St) (T : List (Cl × V)) (D : Ends) : Ot → Prop
  | .nx ρ => ∀ F' H' σ', Same F F' → G.R F' H' ρ σ' T → Kp P σ σ' → D.nx σ' H'
  | .rt c ρ => ∀ F' H' σ' v, Same F F' → G.R F' H' ρ σ' ((c, v) :: T) → Kp P σ σ' → D.rt v H'
  | .bk ρ => ∀ F' H' σ', Same F F' → G.R F' H' ρ σ' T → Kp P σ σ' → D.bk σ' H'
  | .ct ρ => ∀ F' H' σ', Same F F' → G.R F' H' ρ σ' T → Kp P σ σ' → D.ct σ' H'
  | .ex x ρ => ∀ F' H' σ' cls d, Same F F' → G.R F' H' ρ σ' T → Kp P σ σ' → XR G F' x cls d → W cls d σ' H'
def SndS (G : Gd) (W : WX) (P : List Nat) (t : TS) (f : FS) : Prop :=
  ∀ n ρ o, f n ρ = some o → ∀ F H σ T D, G.R F H ρ σ T → PoS G W P F σ T D o → t D σ H
section
variable {ι : Type}
def XS (G : Gd) (X : ι → Cx) (W : WX) (P : List Nat) (st : Stmt) (f : FS) : Prop := ∃ t : TS, (∀ i, PS (X i) st t) ∧ SndS G W P t f
def XSs (G : Gd) (X : ι → Cx) (W : WX) (P : List Nat) (st : List Stmt) (f : FS) : Prop := ∃ t : TS, (∀ i, PSs (X i) st t) ∧ SndS G W P t f
end
theorem PoS.mono {G : Gd} {W : WX} {P : List Nat} {F F1 : Hp} {σ σ1 : L2.St} {T : List (Cl × V)} {D : Ends} {o : Ot} (h : PoS G W P F σ T D o) (s : Same F F1) (k : Kp P σ σ1) : PoS G W P F1 σ1 T D o := by
  cases o with
  | nx ρ => exact fun F' H' σ' s' r k' => h F' H' σ' (s.trans s') r (k.trans k')
  | rt c ρ => exact fun F' H' σ' v s' r k' => h F' H' σ' v (s.trans s') r (k.trans k')
  | bk ρ => exact fun F' H' σ' s' r k' => h F' H' σ' (s.trans s') r (k.trans k')
  | ct ρ => exact fun F' H' σ' s' r k' => h F' H' σ' (s.trans s') r (k.trans k')
  | ex x ρ => exact fun F' H' σ' cls d s' r k' q => h F' H' σ' cls d (s.trans s') r (k.trans k') q
theorem PoS.px {G : Gd} {W : WX} {P : List Nat} {F : Hp} {σ : L2.St} {T : List (Cl × V)} {D : Ends} {x : Ex} {ρ : En} (h : PoS G W P F σ T D (.ex x ρ)) : PoX G W F σ T x ρ :=
  fun F' H' cls d s r q => h F' H' σ cls d s r (Kp.refl _) q

section
variable {ι : Type} {G : Gd} {X : ι → Cx} {W : WX} {P : List Nat} {e : Expr} {st : Stmt} {rest : List Stmt} {pos : Pos}
def sNil : FS := fun _ ρ => some (.nx ρ)
def sSeq (f g : FS) : FS := fun n ρ => match f n ρ with
  | some (.nx ρ1) => g n ρ1
  | o => o
theorem xss_nil : XSs G X W P [] sNil := ⟨_, fun _ => pss_nil, fun n ρ o e F H σ T D hR hP => by
  cases e
  exact hP F H σ (Same.refl _) hR (Kp.refl _)⟩
theorem xss_cons {f g : FS} (h1 : XS G X W P st f) (h2 : XSs G X W P rest g) : XSs G X W P (st :: rest) (sSeq f g) := by
  obtain ⟨t, a1, a2⟩ := h1
  obtain ⟨u, b1, b2⟩ := h2
  refine ⟨_, fun i => pss_cons (a1 i) (b1 i), fun n ρ o e F H σ T D hR hP => ?_⟩
  unfold sSeq at e
  cases q : f n ρ with
  | none => rw [q] at e; cases e
  | some o1 =>
    rw [q] at e
    refine a2 n ρ o1 q F H σ T _ hR ?_
    cases o1 with
    | nx ρ1 => exact fun F1 H1 σ1 s1 R1 k1 => b2 n ρ1 o e F1 H1 σ1 T D R1 (hP.mono s1 k1)
    | rt c ρ1 => cases e; exact hP
    | bk ρ1 => cases e; exact hP
    | ct ρ1 => cases e; exact hP
    | ex x ρ1 => cases e; exact hP
theorem xss_one {f : FS} (h1 : XS G X W P st f) : XSs G X W P [st] f := by
  obtain ⟨t, a1, a2⟩ := h1
  exact ⟨_, fun i => pss_one (a1 i), a2⟩
def sPass : FS := sNil
theorem xs_pass : XS G X W P (.Pass pos) sNil := ⟨_, fun _ => ps_pass, fun n ρ o e F H σ T D hR hP => by
  cases e
  exact hP F H σ (Same.refl _) hR (Kp.refl _)⟩
theorem xs_break : XS G X W P (.Break pos) (fun _ ρ => some (.bk ρ)) := ⟨_, fun _ => ps_break, fun n ρ o e F H σ T D hR hP => by
  cases e
  exact hP F H σ (Same.refl _) hR (Kp.refl _)⟩
theorem xs_continue : XS G X W P (.Continue pos) (fun _ ρ => some (.ct ρ)) := ⟨_, fun _ => ps_continue, fun n ρ o e F H σ T D hR hP => by
  cases e
  exact hP F H σ (Same.refl _) hR (Kp.refl _)⟩
def sExpr (f : Fn Bv) : FS := fun n ρ => bS (f n ρ) fun _ ρ1 => some (.nx ρ1)
theorem xs_expr {f : Fn Bv} (h : XB G X W e f) (hs : ∀ i, swapsWith e none pos.line (X i).env = pure false) : XS G X W P (.Expr e pos) (sExpr f) := by
  obtain ⟨t, h1, h2⟩ := h
  refine ⟨_, fun i => ps_expr (h1 i) (hs i), fun n ρ o e F H σ T D hR hP => ?_⟩
  unfold sExpr at e
  cases q : f n ρ with
  | none => rw [q] at e; cases e
  | some r1 =>
    rw [q] at e
    refine h2 n ρ r1 q F H σ T _ hR ?_
    cases r1 with
    | ex x ρ' => cases e; exact hP.px
    | ok b ρ1 =>
      cases e
      exact fun F1 H1 v s1 R1 v1 => hP F1 H1 σ s1 (bvT_drop b v R1) (Kp.refl _)
def sRet (f : Fn Cl) : FS := fun n ρ => bS (f n ρ) fun c ρ1 => some (.rt c ρ1)
theorem xs_ret {f : Fn Cl} (h : XE G X W e f) : XS G X W P (.Return (some e) pos) (sRet f) := by
  obtain ⟨t, h1, h2⟩ := h
  refine ⟨_, fun i => ps_ret (h1 i), fun n ρ o e F H σ T D hR hP => ?_⟩
  unfold sRet at e
  cases q : f n ρ with
  | none => rw [q] at e; cases e
  | some r1 =>
    rw [q] at e
    refine h2 n ρ r1 q F H σ T _ hR ?_
    cases r1 with
    | ex x ρ' => cases e; exact hP.px
    | ok b ρ1 =>
      cases e
      exact fun F1 H1 v s1 R1 => hP F1 H1 σ v s1 R1 (Kp.refl _)
theorem xs_retN : XS G X W P (.Return none pos) (fun _ ρ => some (.rt (.fz .none) ρ)) := ⟨_, fun _ => ps_retN, fun n ρ o e F H σ T D hR hP => by
  cases e
  exact hP F H σ .non (Same.refl _) (hR.push .non) (Kp.refl _)⟩
def sIf (t : Fn Bool) (f g : FS) : FS := fun n ρ => bS (t n ρ) fun c ρ1 => if c = true then f n ρ1 else g n ρ1
theorem xs_if {c : Expr} {a b : List Stmt} {t : Fn Bool} {f g : FS} (hc : XT G X W c t) (ha : XSs G X W P a f) (hb : XSs G X W P b g) : XS G X W P (.If c a b pos) (sIf t f g) := by
  obtain ⟨t', h1, h2⟩ := hc
  obtain ⟨ta, h3, h4⟩ := ha
  obtain ⟨tb, h5, h6⟩ := hb
  refine ⟨_, fun i => ps_if (h1 i) (h3 i) (h5 i), fun n ρ o e F H σ T D hR hP => ?_⟩
  unfold sIf at e
  cases q : t n ρ with
  | none => rw [q] at e; cases e
  | some r1 =>
    rw [q] at e
    refine h2 n ρ r1 q F H σ T _ hR ?_
    cases r1 with
    | ex x ρ' => cases e; exact hP.px
    | ok b ρ1 =>
      rw [bS_ok] at e
      intro F1 H1 s1 R1
      cases b with
      | true =>
        rw [if_pos rfl] at e
        show if true = true then _ else _
        rw [if_pos rfl]
        exact h4 n ρ1 o e F1 H1 σ T D R1 (hP.mono s1 (Kp.refl _))
      | false =>
        rw [if_neg Bool.false_ne_true] at e
        show if false = true then _ else _
        rw [if_neg Bool.false_ne_true]
        exact h6 n ρ1 o e F1 H1 σ T D R1 (hP.mono s1 (Kp.refl _))

/-! ### stores -/
def sSet (i : Nat) (f : Fn Cl) : FS := fun n ρ => bS (f n ρ) fun c ρ1 => if i < ρ1.length then some (.nx (ρ1.set i (some c))) else none
theorem snd_set {i : Nat} {t : TE} {f : Fn Cl} (hi : i ∉ P) (h : SndE G W t f) : SndS G W P (tAsg t (gName i)) (sSet i f) := fun n ρ o e F H σ T D hR hP => by
  unfold sSet at e
  cases q : f n ρ with
  | none => rw [q] at e; cases e
  | some r1 =>
    rw [q] at e
    refine h n ρ r1 q F H σ T _ hR ?_
    cases r1 with
    | ex x ρ' => cases e; exact hP.px
    | ok b ρ1 =>
      rw [bS_ok] at e
      split at e
      · rename_i hl
        cases e
        exact fun F1 H1 v s1 R1 => hP F1 H1 _ s1 (R1.set hl) (Kp.set hi)
      · cases e
theorem xs_set {i : Nat} {x : Str} {pos' : Pos} {f : Fn Cl} (hi : i ∉ P) (hp : ∀ t, (∀ j, PE (X j) e t) → ∀ j, PS (X j) (.Assign [.Name x pos'] e pos) (tAsg t (gName i))) (h : XE G X W e f) : XS G X W P (.Assign [.Name x pos'] e pos) (sSet i f) := by
  obtain ⟨t, h1, h2⟩ := h
  exact ⟨_, hp t h1, snd_set hi h2⟩
/-- a, b = e1, e2 into plain local names -/
def sPar (i j : Nat) (f g : Fn Cl) : FS := fun n ρ => bS (f n ρ) fun c ρ1 => bS (g n ρ1) fun d ρ2 => if i < ρ2.length ∧ j < ρ2.length then some (.nx ((ρ2.set i (some c)).set j (some d))) else none
theorem xs_par {i j : Nat} {a b : Expr} {f g : Fn Cl} {st : Stmt} (hi : i ∉ P) (hj : j ∉ P) (hp : ∀ t u, (∀ j, PE (X j) a t) → (∀ j, PE (X j) b u) → ∀ k, PS (X k) st (tPar i j (tCons t (tCons u tNil)))) (h : XE G X W a f) (h' : XE G X W b g) : XS G X W P st (sPar i j f g) := by
  obtain ⟨t, h1, h2⟩ := h
  obtain ⟨u, h3, h4⟩ := h'
  refine ⟨_, hp t u h1 h3, fun n ρ o e F H σ T D hR hP => ?_⟩
  unfold sPar at e
  cases q : f n ρ with
  | none => rw [q] at e; cases e
  | some r1 =>
    rw [q] at e
    refine h2 n ρ r1 q F H σ T _ hR ?_
    cases r1 with
    | ex x ρ' => cases e; exact hP.px
    | ok c ρ1 =>
      rw [bS_ok] at e
      intro F1 H1 v s1 R1
      cases q2 : g n ρ1 with
      | none => rw [q2] at e; cases e
      | some r2 =>
        rw [q2] at e
        refine h4 n ρ1 r2 q2 F1 H1 σ _ _ R1 ?_
        cases r2 with
        | ex x ρ' =>
          cases e
          exact fun F' H' cls d s r q => hP.px F' H' cls d (s1.trans s) r.tail q
        | ok d ρ2 =>
          rw [bS_ok] at e
          intro F2 H2 w s2 R2
          split at e
          · rename_i hl
            cases e
            refine ⟨v, w, rfl, hP F2 H2 _ (s1.trans s2) ?_ ((Kp.set hi).trans (Kp.set hj))⟩
            have R3 := R2.swap.set (i := i) hl.1
            exact R3.set (by rw [List.length_set]; exact hl.2)
          · cases e

/-! ### targets -/
abbrev FG := D → En → Option En
abbrev FGs := List D → En → Option En
def SndG (G : Gd) (P : List Nat) (t : TG) (f : FG) : Prop :=
  ∀ d ρ ρ', f d ρ = some ρ' → ∀ F H σ T v Q, G.R F H ρ σ T → Rp G.K F v d → (∀ σ', G.R F H ρ' σ' T → Kp P σ σ' → Q σ' H) → t v σ H Q
def SndGs (G : Gd) (P : List Nat) (t : TGs) (f : FGs) : Prop :=
  ∀ ds ρ ρ', f ds ρ = some ρ' → ∀ F H σ T vs Q, G.R F H ρ σ T → RpA G.K F vs ds → (∀ σ', G.R F H ρ' σ' T → Kp P σ σ' → Q σ' H) → t vs σ H Q
def XG (G : Gd) (X : ι → Cx) (P : List Nat) (tg : Expr) (f : FG) : Prop := ∃ t : TG, (∀ i, PG (X i) tg t) ∧ SndG G P t f
def XGs (G : Gd) (X : ι → Cx) (P : List Nat) (tg : List Expr) (f : FGs) : Prop := ∃ t : TGs, (∀ i, PGs (X i) tg t) ∧ SndGs G P t f
def gN (i : Nat) : FG := fun d ρ => if i < ρ.length then some (ρ.set i (some (.fz d))) else none
theorem snd_gn {i : Nat} (hi : i ∉ P) : SndG G P (gName i) (gN i) := fun d ρ ρ' e F H σ T v Q hR r hQ => by
  unfold gN at e
  split at e
  · rename_i hl
    cases e
    exact hQ _ ((hR.push r).set hl) (Kp.set hi)
  · cases e
theorem xg_name {i : Nat} {x : Str} (hi : i ∉ P) (h : ∀ j, PG (X j) (.Name x pos) (gName i)) : XG G X P (.Name x pos) (gN i) := ⟨_, h, snd_gn hi⟩
def gsNil : FGs := fun ds ρ => match ds with
  | [] => some ρ
  | _ => none
def gsCons (f : FG) (g : FGs) : FGs := fun ds ρ => match ds with
  | d :: ds => match f d ρ with
    | some ρ1 => g ds ρ1
    | none => none
  | [] => none
theorem snd_gsnil : SndGs G P gNil gsNil := fun ds ρ ρ' e F H σ T vs Q hR r hQ => by
  cases r with
  | nil => cases e; exact ⟨rfl, hQ σ hR (Kp.refl _)⟩
  | cons _ _ => cases e
theorem snd_gscons {t : TG} {u : TGs} {f : FG} {g : FGs} (h : SndG G P t f) (h' : SndGs G P u g) : SndGs G P (gCons t u) (gsCons f g) := fun ds ρ ρ' e F H σ T vs Q hR r hQ => by
  cases r with
  | nil => cases e
  | cons r1 r2 =>
    unfold gsCons at e
    dsimp only at e
    rename_i v vs' d ds'
    cases q : f d ρ with
    | none => rw [q] at e; cases e
    | some ρ1 =>
      rw [q] at e
      refine ⟨v, vs', rfl, h d ρ ρ1 q F H σ T v _ hR r1 fun σ1 R1 k1 => ?_⟩
      exact h' ds' ρ1 ρ' e F H σ1 T vs' Q R1 r2 fun σ2 R2 k2 => hQ σ2 R2 (k1.trans k2)
theorem xgs_nil : XGs G X P [] gsNil := ⟨_, fun _ => pgs_nil, snd_gsnil⟩
theorem xgs_cons {e : Expr} {es : List Expr} {f : FG} {g : FGs} (h : XG G X P e f) (h' : XGs G X P es g) (hs : ∀ i, (assignEach (e :: es) (X i).env).map (·.2) = assign e (X i).env :: (assignEach es (X i).env).map (·.2)) : XGs G X P (e :: es) (gsCons f g) := by
  obtain ⟨t, h1, h2⟩ := h
  obtain ⟨u, h3, h4⟩ := h'
  exact ⟨_, fun i => pgs_cons (h1 i) (h3 i) (hs i), snd_gscons h2 h4⟩
/-- (a, b, ..): the value a tuple -/
def gTp (n : Nat) (f : FGs) : FG := fun d ρ => match d with
  | .tuple ds => if ds.length = n then f ds ρ else none
  | _ => none
def gLs (n : Nat) (f : FGs) : FG := fun d ρ => match d with
  | .list ds => if ds.length = n then f ds ρ else none
  | _ => none
theorem snd_gtp {n : Nat} {t : TGs} {f : FGs} (h : SndGs G P t f) : SndG G P (gTup G.K n t) (gTp n f) := fun d ρ ρ' e F H σ T v Q hR r hQ => by
  unfold gTp at e
  split at e
  · split at e
    · rename_i hl
      cases r with
      | tup h1 r1 => exact ⟨_, _, rfl, sameT hR.sub h1, by rw [r1.length]; exact hl, h _ ρ ρ' e F H σ T _ Q hR r1 hQ⟩
    · cases e
  · cases e
theorem snd_gls {n : Nat} {t : TGs} {f : FGs} (h : SndGs G P t f) : SndG G P (gLst G.K n t) (gLs n f) := fun d ρ ρ' e F H σ T v Q hR r hQ => by
  unfold gLs at e
  split at e
  · split at e
    · rename_i hl
      cases r with
      | lst h1 r1 => exact ⟨_, _, rfl, hR.sub.seq h1, by rw [r1.length]; exact hl, h _ ρ ρ' e F H σ T _ Q hR r1 hQ⟩
    · cases e
  · cases e
theorem xg_tup {es : List Expr} {k n : Nat} {f : FGs} (hK : ∀ i, (X i).K = G.K) (hc : ∀ i, (X i).calm = true) (h : XGs G X P es f) (hn : ∀ i, (assignEach es (X i).env).length = n) (hst : ∀ i, (assignEach es (X i).env).findIdx? (·.1) = none) : XG G X P (.Tuple es k pos) (gTp n f) := by
  obtain ⟨t, h1, h2⟩ := h
  exact ⟨_, fun i => by have := pg_tup (k := k) (pos := pos) (hc i) (h1 i) (hn i) (hst i); rw [hK i] at this; exact this, snd_gtp h2⟩
theorem xg_lst {es : List Expr} {k n : Nat} {f : FGs} (hK : ∀ i, (X i).K = G.K) (hc : ∀ i, (X i).calm = true) (h : XGs G X P es f) (hn : ∀ i, (assignEach es (X i).env).length = n) (hst : ∀ i, (assignEach es (X i).env).findIdx? (·.1) = none) : XG G X P (.Tuple es k pos) (gLs n f) := by
  obtain ⟨t, h1, h2⟩ := h
  exact ⟨_, fun i => by have := pg_lst (k := k) (pos := pos) (hc i) (h1 i) (hn i) (hst i); rw [hK i] at this; exact this, snd_gls h2⟩
/-- target = value, by targets -/
def sAsg (g : FG) (f : Fn Bv) : FS := fun n ρ => bS (fFz f n ρ) fun c ρ1 => match c with
  | .fz d => match g d ρ1 with
    | some ρ2 => some (.nx ρ2)
    | none => none
  | _ => none
theorem xs_asg {tg : Expr} {f : Fn Bv} {g : FG} (h : XB G X W e f) (hg : XG G X P tg g) (hs : ∀ i, swapsWithSole [tg] e pos.line (X i).env = pure false) (hw : ∀ i, swappedStores [tg] e (X i).env = pure none)
    (h1 : ∀ i, (assignEach [tg] (X i).env).map (·.2) = [assign tg (X i).env]) : XS G X W P (.Assign [tg] e pos) (sAsg g f) := by
  obtain ⟨t, a1, a2⟩ := h
  obtain ⟨u, b1, b2⟩ := hg
  refine ⟨_, fun i => ps_asg (a1 i) (b1 i) (hs i) (hw i) (h1 i), fun n ρ o e F H σ T D hR hP => ?_⟩
  unfold sAsg at e
  cases q : fFz f n ρ with
  | none => rw [q] at e; cases e
  | some r1 =>
    rw [q] at e
    refine snd_fz a2 n ρ r1 q F H σ T _ hR ?_
    cases r1 with
    | ex x ρ' => cases e; exact hP.px
    | ok c ρ1 =>
      rw [bS_ok] at e
      intro F1 H1 v s1 R1
      split at e
      · rename_i d
        cases q2 : g d ρ1 with
        | none => rw [q2] at e; cases e
        | some ρ2 =>
          rw [q2] at e
          cases e
          exact b2 d ρ1 ρ2 q2 F1 H1 σ T v _ R1.tail R1.rp fun σ' R2 k => hP F1 H1 σ' s1 R2 k
      · cases e

/-! ### for -/
def forF (g : FG) (f : FS) (n : Nat) : List D → En → Option Ot
  | [], ρ => some (.nx ρ)
  | d :: ds, ρ => match g d ρ with
    | some ρ1 => match f n ρ1 with
      | some (.nx ρ2) => forF g f n ds ρ2
      | some (.ct ρ2) => forF g f n ds ρ2
      | some (.bk ρ2) => some (.nx ρ2)
      | some (.rt c ρ2) => some (.rt c ρ2)
      | some (.ex x ρ2) => some (.ex x ρ2)
      | none => none
    | none => none
def sFor (i : Fn (List D)) (g : FG) (f : FS) : FS := fun n ρ => bS (i n ρ) fun ds ρ1 => forF g f n ds ρ1
theorem snd_for {wi : TI} {tg : TG} {tb : TS} {i : Fn (List D)} {g : FG} {f : FS} (hi : SndI G W wi i) (hg : SndG G P tg g) (hb : SndS G W P tb f) : SndS G W P (tFor wi tg tb) (sFor i g f) := fun n ρ o e F H σ T D hR hP => by
  unfold sFor at e
  cases q : i n ρ with
  | none => rw [q] at e; cases e
  | some r1 =>
    rw [q] at e
    refine hi n ρ r1 q F H σ T _ hR ?_
    cases r1 with
    | ex x ρ' => cases e; exact hP.px
    | ok ds ρ1 =>
      rw [bS_ok] at e
      intro F1 H1 J s1 R1 ok
      have hP1 := hP.mono s1 (Kp.refl σ)
      refine ⟨fun k m σ' H' => ∃ ρ' F', m = ds.length - k ∧ k ≤ ds.length ∧ Same F1 F' ∧ G.R F' H' ρ' σ' T ∧ Kp P σ σ' ∧ forF g f n (ds.drop k) ρ' = some o, ⟨ds.length, ρ1, F1, by simp, Nat.zero_le _, Same.refl _, R1, Kp.refl _, by rw [List.drop_zero]; exact e⟩, ?_⟩
      rintro k m σ' H' ⟨ρ', F', rfl, hk, s', R', kp, eo⟩
      by_cases hlt : k < ds.length
      · rw [List.drop_eq_getElem_cons hlt] at eo
        unfold forF at eo
        cases q1 : g ds[k] ρ' with
        | none => rw [q1] at eo; cases eo
        | some ρ2 =>
          rw [q1] at eo
          dsimp only at eo
          refine .inr ⟨ok.go F' H' _ k s' R'.hr hlt, fun σ3 H3 => ∃ ρ3 F3, Same F1 F3 ∧ G.R F3 H3 ρ3 σ3 T ∧ Kp P σ σ3 ∧ forF g f n (ds.drop (k + 1)) ρ3 = some o, ?_, ?_⟩
          · rintro σ3 H3 ⟨ρ3, F3, s3, R3, k3, e3⟩
            exact ⟨ds.length - (k + 1), by omega, ρ3, F3, rfl, hlt, s3, R3, k3, e3⟩
          · intro x H2 hy
            obtain ⟨F2, s2, hr2, rx⟩ := ok.yld F' H' _ k x H2 ds[k] s' R'.hr (List.getElem?_eq_getElem hlt) hy
            refine hg ds[k] ρ' ρ2 q1 F2 H2 σ' T x _ ⟨hr2, R'.ok⟩ rx fun σ4 R4 k4 => ?_
            cases q2 : f n ρ2 with
            | none => rw [q2] at eo; cases eo
            | some o2 =>
              rw [q2] at eo
              refine hb n ρ2 o2 q2 F2 H2 σ4 T _ R4 ?_
              have s02 := s'.trans s2
              have k04 := kp.trans k4
              cases o2 with
              | nx ρ5 => exact fun F5 H5 σ5 s5 R5 k5 => ⟨ρ5, F5, s02.trans s5, R5, k04.trans k5, eo⟩
              | ct ρ5 => exact fun F5 H5 σ5 s5 R5 k5 => ⟨ρ5, F5, s02.trans s5, R5, k04.trans k5, eo⟩
              | bk ρ5 =>
                cases eo
                exact fun F5 H5 σ5 s5 R5 k5 => hP1 F5 H5 σ5 (s02.trans s5) R5 (k04.trans k5)
              | rt c ρ5 =>
                cases eo
                exact fun F5 H5 σ5 v s5 R5 k5 => hP1 F5 H5 σ5 v (s02.trans s5) R5 (k04.trans k5)
              | ex x ρ5 =>
                cases eo
                exact fun F5 H5 σ5 cls d s5 R5 k5 xr => hP1 F5 H5 σ5 cls d (s02.trans s5) R5 (k04.trans k5) xr
      · have ek : k = ds.length := by omega
        subst ek
        rw [List.drop_length] at eo
        cases eo
        exact .inl ⟨ok.stop F' H' _ _ s' R'.hr (Nat.le_refl _), hP1 F' H' σ' s' R' kp⟩
theorem xs_for {tg iter : Expr} {body : List Stmt} {i : Fn (List D)} {g : FG} {f : FS} (hp : ∀ j, PassesOwn (model (X j).prog (X j).w) (X j).A (X j).env (X j).xe) (hc : ∀ j, (X j).calm = true) (hi : XI G X W tg iter i) (hg : XG G X P tg g) (hb : XSs G X W P body f)
    (hs : ∀ j, ∀ x, foldedSetIterable iter (X j).env x = pure x) : XS G X W P (.For tg iter body [] pos) (sFor i g f) := by
  obtain ⟨wi, a1, a2⟩ := hi
  obtain ⟨tg', b1, b2⟩ := hg
  obtain ⟨tb, c1, c2⟩ := hb
  exact ⟨_, fun j => ps_for (hp j) (hc j) (a1 j) (b1 j) (c1 j) (hs j), snd_for a2 b2 c2⟩

/-! ### while -/
def whF (t : Fn Bool) (f : FS) (n : Nat) : Nat → En → Option Ot
  | 0, _ => none
  | m + 1, ρ => bS (t n ρ) fun c ρ1 => if c = true then (match f n ρ1 with
      | some (.nx ρ2) => whF t f n m ρ2
      | some (.ct ρ2) => whF t f n m ρ2
      | some (.bk ρ2) => some (.nx ρ2)
      | some (.rt c ρ2) => some (.rt c ρ2)
      | some (.ex x ρ2) => some (.ex x ρ2)
      | none => none) else some (.nx ρ1)
def sWh (t : Fn Bool) (f : FS) : FS := fun n ρ => whF t f n n ρ
theorem snd_wh {tc : TT} {tb : TS} {t : Fn Bool} {f : FS} (hc : SndT G W tc t) (hb : SndS G W P tb f) : SndS G W P (tWhile tc tb) (sWh t f) := fun n ρ o e F H σ T D hR hP => by
  refine ⟨fun m σ' H' => ∃ ρ' F', Same F F' ∧ G.R F' H' ρ' σ' T ∧ Kp P σ σ' ∧ whF t f n m ρ' = some o, ⟨n, ρ, F, Same.refl _, hR, Kp.refl _, e⟩, ?_⟩
  rintro m σ' H' ⟨ρ', F', s', R', kp, eo⟩
  cases m with
  | zero => cases eo
  | succ m =>
    unfold whF at eo
    cases q : t n ρ' with
    | none => rw [q] at eo; cases eo
    | some r1 =>
      rw [q] at eo
      refine hc n ρ' r1 q F' H' σ' T _ R' ?_
      cases r1 with
      | ex x ρ1 => cases eo; exact fun F1 H1 cls d s1 R1 xr => hP F1 H1 σ' cls d (s'.trans s1) R1 kp xr
      | ok c ρ1 =>
        rw [bS_ok] at eo
        intro F1 H1 s1 R1
        cases c with
        | false =>
          rw [if_neg Bool.false_ne_true] at eo
          rw [if_neg Bool.false_ne_true]
          cases eo
          exact hP F1 H1 σ' (s'.trans s1) R1 kp
        | true =>
          rw [if_pos rfl] at eo
          rw [if_pos rfl]
          refine ⟨fun σ3 H3 => ∃ ρ3 F3, Same F F3 ∧ G.R F3 H3 ρ3 σ3 T ∧ Kp P σ σ3 ∧ whF t f n m ρ3 = some o, fun σ3 H3 ⟨ρ3, F3, s3, R3, k3, e3⟩ => ⟨m, Nat.lt_succ_self _, ρ3, F3, s3, R3, k3, e3⟩, ?_⟩
          cases q2 : f n ρ1 with
          | none => rw [q2] at eo; cases eo
          | some o2 =>
            rw [q2] at eo
            refine hb n ρ1 o2 q2 F1 H1 σ' T _ R1 ?_
            have s01 := s'.trans s1
            cases o2 with
            | nx ρ5 => exact fun F5 H5 σ5 s5 R5 k5 => ⟨ρ5, F5, s01.trans s5, R5, kp.trans k5, eo⟩
            | ct ρ5 => exact fun F5 H5 σ5 s5 R5 k5 => ⟨ρ5, F5, s01.trans s5, R5, kp.trans k5, eo⟩
            | bk ρ5 =>
              cases eo
              exact fun F5 H5 σ5 s5 R5 k5 => hP F5 H5 σ5 (s01.trans s5) R5 (kp.trans k5)
            | rt c ρ5 =>
              cases eo
              exact fun F5 H5 σ5 v s5 R5 k5 => hP F5 H5 σ5 v (s01.trans s5) R5 (kp.trans k5)
            | ex x ρ5 =>
              cases eo
              exact fun F5 H5 σ5 cls d s5 R5 k5 xr => hP F5 H5 σ5 cls d (s01.trans s5) R5 (kp.trans k5) xr
theorem xs_wh {c : Expr} {body : List Stmt} {t : Fn Bool} {f : FS} (hp : ∀ j, PassesOwn (model (X j).prog (X j).w) (X j).A (X j).env (X j).xe) (hc : XT G X W c t) (hb : XSs G X W P body f) : XS G X W P (.While c body [] pos) (sWh t f) := by
  obtain ⟨tc, a1, a2⟩ := hc
  obtain ⟨tb, b1, b2⟩ := hb
  exact ⟨_, fun j => ps_while (hp j) (a1 j) (b1 j), snd_wh a2 b2⟩
end
end L3

namespace L3
open PySem PySem.Spec L2

/-! ### list comprehensions -/
theorem en_agree : ∀ {ρ : En} {σ σ' : L2.St}, EnOk ρ σ → σ'.length = σ.length → (∀ (i : Nat) (c : Cl), ρ[i]? = some (some c) → σ'[i]? = σ[i]?) → eL ρ σ' = eL ρ σ ∧ EnOk ρ σ'
  | [], [], [], _, _, _ => ⟨rfl, trivial⟩
  | [], [], _ :: _, _, hl, _ => by cases hl
  | some c :: ρ, some v :: σ, [], _, hl, _ => by cases hl
  | some c :: ρ, some v :: σ, o :: σ', h, hl, ha => by
    have h0 := ha 0 c rfl
    have e0 : o = some v := by simpa using h0
    subst e0
    obtain ⟨e1, e2⟩ := en_agree (ρ := ρ) (σ := σ) (σ' := σ') h (by simpa using hl) fun i c hc => by
      have := ha (i + 1) c (by rw [List.getElem?_cons_succ]; exact hc)
      simpa using this
    exact ⟨congrArg (fun z => (c, v) :: z) e1, e2⟩
  | none :: ρ, x :: σ, [], _, hl, _ => by cases hl
  | none :: ρ, x :: σ, o :: σ', h, hl, ha => by
    obtain ⟨e1, e2⟩ := en_agree (ρ := ρ) (σ := σ) (σ' := σ') h (by simpa using hl) fun i c hc => by
      have := ha (i + 1) c (by rw [List.getElem?_cons_succ]; exact hc)
      simpa using this
    exact ⟨e1, e2⟩
  | some _ :: _, none :: _, _, h, _, _ => h.elim
  | some _ :: _, [], _, h, _, _ => h.elim
  | none :: _, [], _, h, _, _ => h.elim
  | [], _ :: _, _, h, _, _ => h.elim
theorem R.agree {G : Gd} {F H : Hp} {ρ : En} {σ σ' : L2.St} {T : List (Cl × V)} (h : G.R F H ρ σ T) (hl : σ'.length = σ.length) (ha : ∀ (i : Nat) (c : Cl), ρ[i]? = some (some c) → σ'[i]? = σ[i]?) : G.R F H ρ σ' T := by
  obtain ⟨e1, e2⟩ := en_agree h.ok hl ha
  exact ⟨by rw [e1]; exact h.hr, e2⟩
/-- the slots vs emptied -/
def wipR (ρ : En) : List Nat → En
  | [] => ρ
  | v :: vs => (wipR ρ vs).set v none
def noneAt (ρ : En) (vs : List Nat) : Bool := vs.all fun j => match ρ[j]? with
  | some none => true
  | _ => false
theorem noneAt_ok {ρ : En} {vs : List Nat} (h : noneAt ρ vs = true) : ∀ j ∈ vs, ρ[j]? = some none := fun j hj => by
  have := List.all_eq_true.mp h j hj
  split at this
  · assumption
  · cases this
theorem wipR_len (ρ : En) : ∀ vs : List Nat, (wipR ρ vs).length = ρ.length
  | [] => rfl
  | v :: vs => by unfold wipR; rw [List.length_set, wipR_len ρ vs]
theorem wipR_at (ρ : En) : ∀ (vs : List Nat) (j : Nat), j ∈ vs → j < ρ.length → (wipR ρ vs)[j]? = some none
  | [], j, h, _ => by cases h
  | v :: vs, j, h, hl => by
    unfold wipR
    by_cases e : v = j
    · subst e
      rw [List.getElem?_set_self (by rw [wipR_len]; exact hl)]
    · rw [List.getElem?_set_ne e]
      exact wipR_at ρ vs j ((List.mem_cons.mp h).resolve_left fun z => e z.symm) hl
theorem R.wip {G : Gd} {F H : Hp} {ρ : En} {σ : L2.St} {T : List (Cl × V)} (h : G.R F H ρ σ T) : ∀ vs : List Nat, G.R F H (wipR ρ vs) (wipe σ vs) T
  | [] => h
  | v :: vs => (R.wip h vs).gone v none
theorem wipe_at (σ : L2.St) : ∀ (vs : List Nat) (j : Nat), j ∈ vs → j < σ.length → (wipe σ vs)[j]? = some none
  | [], j, h, _ => by cases h
  | v :: vs, j, h, hl => by
    unfold wipe
    by_cases e : v = j
    · subst e
      rw [List.getElem?_set_self (by rw [wipe_length]; exact hl)]
    · rw [List.getElem?_set_ne e]
      exact wipe_at σ vs j ((List.mem_cons.mp h).resolve_left fun z => e z.symm) hl
theorem wipe_eq {σ σ2 : L2.St} {vs : List Nat} (hl : σ2.length = σ.length) (h : ∀ j, j < σ.length → j ∉ vs → σ2[j]? = σ[j]?) : wipe σ2 vs = wipe σ vs := by
  refine List.ext_getElem? fun j => ?_
  by_cases hj : j < σ.length
  · by_cases m : j ∈ vs
    · rw [wipe_at σ2 vs j m (by rw [hl]; exact hj), wipe_at σ vs j m hj]
    · rw [wipe_out m, wipe_out m]
      exact h j hj m
  · rw [List.getElem?_eq_none (by rw [wipe_length, hl]; omega), List.getElem?_eq_none (by rw [wipe_length]; omega)]
def lcF (N : Nat) (g : FG) (t : Fn Bool) (e : Fn Bv) (vs : List Nat) (n : Nat) : List D → En → List D → Option (Rz Cl)
  | [], ρ, acc => some (.ok (.lst acc) ρ)
  | d :: ds, ρ, acc => match g d ρ with
    | some ρ2 => if ρ2.length = N then (match t n ρ2 with
      | some (.ok true ρ3) => match fFz e n ρ3 with
        | some (.ok (.fz y) ρ4) => lcF N g t e vs n ds (wipR ρ4 vs) (acc ++ [y])
        | _ => none
      | some (.ok false ρ3) => lcF N g t e vs n ds (wipR ρ3 vs) acc
      | _ => none) else none
    | none => none
def fLc (N : Nat) (vs : List Nat) (i : Fn (List D)) (g : FG) (t : Fn Bool) (e : Fn Bv) : Fn Cl := fun n ρ => bnd (i n ρ) fun ds ρ1 =>
  if (vs.all (fun j => decide (j < N)) && decide (ρ1.length = N) && decide (ds.length ≤ 1000000)) = true then lcF N g t e vs n ds (wipR ρ1 vs) [] else none
abbrev W0 : WX := fun _ _ _ _ => False
def outP (N : Nat) (vs : List Nat) : List Nat := (List.range N).filter fun j => !(vs.contains j)
theorem tM : (1000000 : Nat) < sizeLine := by rw [sizeLine_eq]; decide
section
variable {ι : Type} {G : Gd} {X : ι → Cx} {W : WX}
theorem snd_lc {N : Nat} {vs : List Nat} {wi : TI} {tg : TG} {tt : TT} {te : TE} {i : Fn (List D)} {g : FG} {t : Fn Bool} {e : Fn Bv} (hi : SndI G W wi i) (hg : SndG G (outP N vs) tg g) (ht : SndT G W0 tt t) (he : SndB G W0 te e) : SndE G W (tLc wi tg tt te vs) (fLc N vs i g t e) := fun n ρ r eq F H σ T Q hR hP => by
  unfold fLc at eq
  cases q : i n ρ with
  | none => rw [q] at eq; cases eq
  | some r1 =>
    rw [q] at eq
    refine hi n ρ r1 q F H σ T _ hR ?_
    cases r1 with
    | ex x ρ' => cases eq; exact hP
    | ok ds ρ1 =>
      rw [bnd_ok] at eq
      split at eq
      · rename_i hh
        rw [Bool.and_eq_true, Bool.and_eq_true] at hh
        obtain ⟨⟨hn, hN⟩, hz⟩ := hh
        have hN := of_decide_eq_true hN
        have hn : ∀ j ∈ vs, (wipR ρ1 vs)[j]? = some none := fun j hj => wipR_at ρ1 vs j hj (by
          have := of_decide_eq_true (List.all_eq_true.mp hn j hj)
          omega)
        have hz := of_decide_eq_true hz
        intro F1 H1 J s1 R1 ok Dn hD
        have lσ : ρ1.length = σ.length := R1.ok.len
        have Rw : G.R F1 H1 (wipR ρ1 vs) (wipe σ vs) T := R1.wip vs
        refine ⟨fun k m H' => ∃ ρ' F' acc, m = ds.length - k ∧ k ≤ ds.length ∧ acc.length ≤ k ∧ Same F1 F' ∧ G.R F' H' ρ' (wipe σ vs) ((.lst acc, .ref Dn) :: T) ∧ (∀ j ∈ vs, ρ'[j]? = some none) ∧ ρ'.length = N ∧ lcF N g t e vs n (ds.drop k) ρ' acc = some r,
          ⟨ds.length, wipR ρ1 vs, F1, [], by simp, Nat.zero_le _, Nat.le_refl _, Same.refl _, Rw.newLst hD .nil, hn, by rw [wipR_len]; exact hN, by rw [List.drop_zero]; exact eq⟩, ?_⟩
        rintro k m H' ⟨ρ', F', acc, rfl, hk, ha, s', R', hn', hN', eo⟩
        by_cases hlt : k < ds.length
        · rw [List.drop_eq_getElem_cons hlt] at eo
          unfold lcF at eo
          cases q1 : g ds[k] ρ' with
          | none => rw [q1] at eo; cases eo
          | some ρ2 =>
            rw [q1] at eo
            dsimp only at eo
            by_cases l2 : ρ2.length = N
            case neg => rw [if_neg l2] at eo; cases eo
            rw [if_pos l2] at eo
            refine .inr ⟨ok.go F' H' _ k s' R'.hr hlt, fun H3 => ∃ ρ3 F3 acc3, acc3.length ≤ k + 1 ∧ Same F1 F3 ∧ G.R F3 H3 ρ3 (wipe σ vs) ((.lst acc3, .ref Dn) :: T) ∧ (∀ j ∈ vs, ρ3[j]? = some none) ∧ ρ3.length = N ∧ lcF N g t e vs n (ds.drop (k + 1)) ρ3 acc3 = some r, ?_, ?_⟩
            · rintro H3 ⟨ρ3, F3, acc3, ha3, s3, R3, hn3, hN3, e3⟩
              exact ⟨ds.length - (k + 1), by omega, ρ3, F3, acc3, rfl, hlt, ha3, s3, R3, hn3, hN3, e3⟩
            · intro x H2 hy
              obtain ⟨F2, s2, hr2, rx⟩ := ok.yld F' H' _ k x H2 ds[k] s' R'.hr (List.getElem?_eq_getElem hlt) hy
              refine hg ds[k] ρ' ρ2 q1 F2 H2 (wipe σ vs) _ x _ ⟨hr2, R'.ok⟩ rx fun σ4 R4 k4 => ?_
              have l4 : σ4.length = σ.length := by
                have h1 := R4.ok.len
                have h2 := R'.ok.len
                rw [wipe_length] at h2
                omega
              have w4 : wipe σ4 vs = wipe σ vs := by
                have e1 : wipe σ4 vs = wipe (wipe σ vs) vs := wipe_eq (by rw [l4, wipe_length]) fun j hj m => by
                  refine k4 j (List.mem_filter.mpr ⟨List.mem_range.mpr ?_, by simp [m]⟩)
                  rw [wipe_length] at hj
                  omega
                rw [e1]
                exact wipe_eq (wipe_length _ _) fun j hj m => wipe_out m
              refine ⟨w4, ?_⟩
              have s02 := s'.trans s2
              cases q2 : t n ρ2 with
              | none => rw [q2] at eo; cases eo
              | some o2 =>
                rw [q2] at eo
                refine ht n ρ2 o2 q2 F2 H2 σ4 _ _ R4 ?_
                cases o2 with
                | ex x ρ3 => cases eo
                | ok b ρ3 =>
                  intro F3 H3 s3 R3
                  cases b with
                  | false =>
                    rw [if_neg Bool.false_ne_true]
                    dsimp only at eo
                    have Rn := R3.wip vs
                    rw [w4] at Rn
                    refine ⟨wipR ρ3 vs, F3, acc, Nat.le_succ_of_le ha, s02.trans s3, Rn, fun j hj => wipR_at ρ3 vs j hj ?_, ?_, eo⟩
                    · have := R3.ok.len
                      have hj' := hn' j hj
                      have := (List.getElem?_eq_some_iff.mp hj').1
                      omega
                    · have := R3.ok.len
                      rw [wipR_len]
                      omega
                  | true =>
                    rw [if_pos rfl]
                    dsimp only at eo
                    cases q3 : fFz e n ρ3 with
                    | none => rw [q3] at eo; cases eo
                    | some o3 =>
                      rw [q3] at eo
                      refine snd_fz he n ρ3 o3 q3 F3 H3 σ4 _ _ R3 ?_
                      cases o3 with
                      | ex x ρ4 => cases eo
                      | ok c ρ4 =>
                        intro F4 H4 y s4 R4'
                        cases c with
                        | fz dy =>
                          dsimp only at eo
                          have ry := R4'.rp
                          have R5 := R4'.tail
                          obtain ⟨A, cr⟩ := R5.cr
                          cases cr with
                          | lst h1 h2 r2 =>
                            refine ⟨_, h1, ?_, ?_⟩
                            · rw [r2.length]
                              exact Nat.lt_of_le_of_lt (Nat.le_trans ha (Nat.le_trans hk hz)) tM
                            · have R6 : G.R F4 (upd H4 Dn (.lst (_ ++ [y]))) ρ4 σ4 ((.lst (acc ++ [dy]), .ref Dn) :: T) :=
                                .mk' (R5.hr'.mut (fun A h => by cases h; rfl) (.lst upd_same h2 (r2.append (.cons ry .nil)))) R5.ok
                              have Rn := R6.wip vs
                              rw [w4] at Rn
                              refine ⟨wipR ρ4 vs, F4, acc ++ [dy], ?_, (s02.trans s3).trans s4, Rn, fun j hj => wipR_at ρ4 vs j hj ?_, ?_, eo⟩
                              · rw [List.length_append, List.length_singleton]; omega
                              · have := R6.ok.len
                                have hj' := hn' j hj
                                have := (List.getElem?_eq_some_iff.mp hj').1
                                omega
                              · have := R6.ok.len
                                rw [wipR_len]
                                omega
                        | lst _ => cases eo
                        | dct _ => cases eo
                        | dtt _ => cases eo
                        | dlk _ => cases eo
                        | dlt _ => cases eo
                        | bx _ _ => cases eo
                        | ins _ _ => cases eo
                        | exn _ _ => cases eo
                        | nst _ _ => cases eo
        · have ek : k = ds.length := by omega
          subst ek
          rw [List.drop_length] at eo
          cases eo
          refine .inl ⟨ok.stop F' H' _ _ s' R'.hr (Nat.le_refl _), hP F' H' _ (s1.trans s') (R'.agree (wipe_length _ _).symm fun j c hc => (wipe_out fun m => by rw [hn' j m] at hc; cases hc).symm)⟩
      · cases eq
end
end L3

namespace L3
open PySem PySem.Spec L2

/-! ### comprehensions in the text -/
structure Bi where
  s : Shared
  H : Hp
  C : Addr
  cl : List (Str × Addr)
  fp : List Addr
section
variable {ι : Type}
abbrev blkX (X : ι → Cx) (scope : Scope) : ι × Bi → Cx := fun p => (X p.1).blk p.2.s p.2.H scope (compEnvC scope p.2.cl p.2.C (X p.1).env) p.2.fp
def fYes : Fn Bool := fun _ ρ => some (.ok true ρ)
variable {G : Gd} {X : ι → Cx} {W : WX} {P : List Nat}
theorem xe_lc0 {elt tg iter : Expr} {scope : Scope} {own : List (Str × Nat)} {pos : Pos} {N : Nat} {i : Fn (List D)} {g : FG} {e : Fn Bv} (hc : ∀ j, (X j).calm = true) (hN : ∀ j, (X j).N.Nodup) (hi : XI G X W tg iter i) (ok : ∀ j, BlkOk (X j).N (X j).env.scope scope own)
    (hg : XG G (blkX X scope) (outP N (own.map (·.2))) tg g) (he : XB G (blkX X scope) W0 elt e) (hs : ∀ j, ∀ x, foldedSetIterable iter (X j).env x = pure x) :
    XE G X W (.ListComp elt [⟨tg, iter, [], 0⟩] scope pos) (fLc N (own.map (·.2)) i g fYes e) := by
  obtain ⟨wi, a1, a2⟩ := hi
  obtain ⟨tg', b1, b2⟩ := hg
  obtain ⟨te, c1, c2⟩ := he
  refine ⟨_, fun j => pe_lc (hc j) (hN j) (a1 j) (ok j) (fun s H C cl fp => b1 (j, ⟨s, H, C, cl, fp⟩)) (fun _ _ _ _ _ => pts_nil) (fun s H C cl fp => c1 (j, ⟨s, H, C, cl, fp⟩)) (hs j), snd_lc a2 b2 (fun n ρ r e F H σ T Q hR hP => ?_) c2⟩
  cases e
  exact hP F H (Same.refl _) hR
theorem xe_lc1 {elt tg iter c : Expr} {scope : Scope} {own : List (Str × Nat)} {pos : Pos} {N : Nat} {i : Fn (List D)} {g : FG} {t : Fn Bool} {e : Fn Bv} (hc : ∀ j, (X j).calm = true) (hN : ∀ j, (X j).N.Nodup) (hi : XI G X W tg iter i) (ok : ∀ j, BlkOk (X j).N (X j).env.scope scope own)
    (hg : XG G (blkX X scope) (outP N (own.map (·.2))) tg g) (ht : XT G (blkX X scope) W0 c t) (he : XB G (blkX X scope) W0 elt e) (hs : ∀ j, ∀ x, foldedSetIterable iter (X j).env x = pure x) :
    XE G X W (.ListComp elt [⟨tg, iter, [c], 0⟩] scope pos) (fLc N (own.map (·.2)) i g t e) := by
  obtain ⟨wi, a1, a2⟩ := hi
  obtain ⟨tg', b1, b2⟩ := hg
  obtain ⟨tt, d1, d2⟩ := ht
  obtain ⟨te, c1, c2⟩ := he
  exact ⟨_, fun j => pe_lc (hc j) (hN j) (a1 j) (ok j) (fun s H C cl fp => b1 (j, ⟨s, H, C, cl, fp⟩)) (fun s H C cl fp => pts_one (d1 (j, ⟨s, H, C, cl, fp⟩))) (fun s H C cl fp => c1 (j, ⟨s, H, C, cl, fp⟩)) (hs j), snd_lc a2 b2 d2 c2⟩
theorem xs_setLc0 {k : Nat} {y : Str} {py : Pos} {elt tg iter : Expr} {scope : Scope} {own : List (Str × Nat)} {pos spos : Pos} {N : Nat} {i : Fn (List D)} {g : FG} {e : Fn Bv} (hk : k ∉ P) (hc : ∀ j, (X j).calm = true) (hN : ∀ j, (X j).N.Nodup) (hy : ∀ j, (X j).N[k]? = some y) (hyl : ∀ j, (X j).env.scope.names.lookup y = some .local)
    (hsw : ∀ j, swapsWith (.ListComp elt [⟨tg, iter, [], 0⟩] scope pos) (some (.Name y py)) spos.line (X j).env = pure true) (hi : XI G X W tg iter i) (ok : ∀ j, BlkOk (X j).N (X j).env.scope scope own)
    (hg : XG G (blkX X scope) (outP N (own.map (·.2))) tg g) (he : XB G (blkX X scope) W0 elt e) (hs : ∀ j, ∀ x, foldedSetIterable iter (X j).env x = pure x) :
    XS G X W P (.Assign [.Name y py] (.ListComp elt [⟨tg, iter, [], 0⟩] scope pos) spos) (sSet k (fLc N (own.map (·.2)) i g fYes e)) := by
  obtain ⟨wi, a1, a2⟩ := hi
  obtain ⟨tg', b1, b2⟩ := hg
  obtain ⟨te, c1, c2⟩ := he
  refine ⟨_, fun j => ps_setLc (hc j) (hN j) (hy j) (hyl j) (hsw j) (a1 j) (ok j) (fun s H C cl fp => b1 (j, ⟨s, H, C, cl, fp⟩)) (fun _ _ _ _ _ => pts_nil) (fun s H C cl fp => c1 (j, ⟨s, H, C, cl, fp⟩)) (hs j), snd_set hk (snd_lc a2 b2 (fun n ρ r e F H σ T Q hR hP => ?_) c2)⟩
  cases e
  exact hP F H (Same.refl _) hR
theorem xs_setLc1 {k : Nat} {y : Str} {py : Pos} {elt tg iter c : Expr} {scope : Scope} {own : List (Str × Nat)} {pos spos : Pos} {N : Nat} {i : Fn (List D)} {g : FG} {t : Fn Bool} {e : Fn Bv} (hk : k ∉ P) (hc : ∀ j, (X j).calm = true) (hN : ∀ j, (X j).N.Nodup) (hy : ∀ j, (X j).N[k]? = some y) (hyl : ∀ j, (X j).env.scope.names.lookup y = some .local)
    (hsw : ∀ j, swapsWith (.ListComp elt [⟨tg, iter, [c], 0⟩] scope pos) (some (.Name y py)) spos.line (X j).env = pure true) (hi : XI G X W tg iter i) (ok : ∀ j, BlkOk (X j).N (X j).env.scope scope own)
    (hg : XG G (blkX X scope) (outP N (own.map (·.2))) tg g) (ht : XT G (blkX X scope) W0 c t) (he : XB G (blkX X scope) W0 elt e) (hs : ∀ j, ∀ x, foldedSetIterable iter (X j).env x = pure x) :
    XS G X W P (.Assign [.Name y py] (.ListComp elt [⟨tg, iter, [c], 0⟩] scope pos) spos) (sSet k (fLc N (own.map (·.2)) i g t e)) := by
  obtain ⟨wi, a1, a2⟩ := hi
  obtain ⟨tg', b1, b2⟩ := hg
  obtain ⟨tt, d1, d2⟩ := ht
  obtain ⟨te, c1, c2⟩ := he
  exact ⟨_, fun j => ps_setLc (hc j) (hN j) (hy j) (hyl j) (hsw j) (a1 j) (ok j) (fun s H C cl fp => b1 (j, ⟨s, H, C, cl, fp⟩)) (fun s H C cl fp => pts_one (d1 (j, ⟨s, H, C, cl, fp⟩))) (fun s H C cl fp => c1 (j, ⟨s, H, C, cl, fp⟩)) (hs j), snd_set hk (snd_lc a2 b2 d2 c2)⟩
end

/-! ### calls of defs -/
inductive Mo where
  | ok (c : Cl) (outs : List (Option Cl))
  | ex (x : Ex) (outs : List (Option Cl))
abbrev Mr := List Cl → Option Mo
def backs : List (Option Cl) → List V → List (Cl × V)
  | some c :: os, v :: vs => (c, v) :: backs os vs
  | none :: os, _ :: vs => backs os vs
  | _, _ => []
def MoP (G : Gd) (F : Hp) (vs : List V) (L : List (Cl × V)) (Q : VK) (E : XK) : Mo → Prop
  | .ok c outs => ∀ F' H' v, Same F F' → G.HR F' H' ((c, v) :: (backs outs vs ++ L)) → Q v H'
  | .ex x outs => ∀ F' H' cls d, Same F F' → G.HR F' H' (backs outs vs ++ L) → XR G F' x cls d → E cls d H'
/-- the promise of a def: called with such cells it hands back what m says -/
def spM (G : Gd) (np : Nat) (m : Mr) : Sp := fun vs H Q E => vs.length = np ∧ ∃ cs F L o, cs.length = np ∧ G.HR F H (cs.zip vs ++ L) ∧ m cs = some o ∧ MoP G F vs L Q E o
def takeA (ρ : En) : List Bv → Option (List Cl × En)
  | [] => some ([], ρ)
  | b :: bs => match takeA ρ bs with
    | some (cs, ρ1) => match b with
      | .vl c => some (c :: cs, ρ1)
      | .pl i => match (ρ1[i]?).join with
        | some (.fz d) => some (.fz d :: cs, ρ1)
        | some c => some (c :: cs, ρ1.set i none)
        | none => none
    | none => none
def giveA : En → List Bv → List (Option Cl) → En
  | ρ, .pl i :: bs, some c :: os => giveA (match ρ[i]? with | some none => ρ.set i (some c) | _ => ρ) bs os
  | ρ, .pl _ :: bs, none :: os => giveA ρ bs os
  | ρ, .vl _ :: bs, _ :: os => giveA ρ bs os
  | ρ, _, _ => ρ
section
variable {G : Gd} {F H : Hp} {ρ : En} {σ : L2.St} {T : List (Cl × V)}
theorem take_many : ∀ {bs : List Bv} {vs : List V} {cs : List Cl} {T : List (Cl × V)} {ρ' : En}, G.R F H ρ σ (bvTs bs vs T) → bvVs σ bs vs → takeA ρ bs = some (cs, ρ') → G.HR F H (cs.zip vs ++ (eL ρ' σ ++ T)) ∧ EnOk ρ' σ ∧ cs.length = vs.length
  | [], [], cs, T, ρ', hR, _, e => by
    cases e
    exact ⟨hR.hr, hR.ok, rfl⟩
  | [], _ :: _, _, _, _, _, h, _ => h.elim
  | _ :: _, [], _, _, _, _, h, _ => h.elim
  | b :: bs, v :: vs, cs, T, ρ', hR, hv, e => by
    unfold takeA at e
    cases q : takeA ρ bs with
    | none => rw [q] at e; cases e
    | some p =>
      obtain ⟨cs1, ρ1⟩ := p
      rw [q] at e
      dsimp only at e
      obtain ⟨h1, ok1, l1⟩ := take_many (T := bvT b v T) hR hv.2 q
      cases b with
      | vl c =>
        cases e
        refine ⟨?_, ok1, congrArg (· + 1) l1⟩
        show G.HR F H ((c, v) :: (cs1.zip vs ++ (eL ρ' σ ++ T)))
        have p1 : (cs1.zip vs ++ (eL ρ' σ ++ (c, v) :: T)).Perm ((c, v) :: (cs1.zip vs ++ (eL ρ' σ ++ T))) :=
          (List.Perm.append_left _ (mid _ _ _)).trans (mid _ _ _)
        exact h1.perm p1
      | pl i =>
        dsimp only at e
        have h1 : G.HR F H (cs1.zip vs ++ (eL ρ1 σ ++ T)) := h1
        have hv1 : σ[i]? = some (some v) := hv.1
        cases q2 : (ρ1[i]?).join with
        | none => rw [q2] at e; cases e
        | some c =>
          rw [q2] at e
          obtain ⟨w, h2, p2, ok2⟩ := en_get ok1 (join_some q2)
          rw [hv1] at h2
          cases h2
          have p3 : (cs1.zip vs ++ (eL ρ1 σ ++ T)).Perm ((c, v) :: (cs1.zip vs ++ (eL (ρ1.set i none) σ ++ T))) :=
            (List.Perm.append_left _ (List.Perm.append_right T p2)).trans (mid _ _ _)
          cases c with
          | fz d =>
            cases e
            refine ⟨?_, ok1, congrArg (· + 1) l1⟩
            exact h1.push (h1.perm p3).rp
          | lst _ => cases e; exact ⟨h1.perm p3, ok2, congrArg (· + 1) l1⟩
          | dct _ => cases e; exact ⟨h1.perm p3, ok2, congrArg (· + 1) l1⟩
          | dtt _ => cases e; exact ⟨h1.perm p3, ok2, congrArg (· + 1) l1⟩
          | dlk _ => cases e; exact ⟨h1.perm p3, ok2, congrArg (· + 1) l1⟩
          | dlt _ => cases e; exact ⟨h1.perm p3, ok2, congrArg (· + 1) l1⟩
          | bx _ _ => cases e; exact ⟨h1.perm p3, ok2, congrArg (· + 1) l1⟩
          | ins _ _ => cases e; exact ⟨h1.perm p3, ok2, congrArg (· + 1) l1⟩
          | exn _ _ => cases e; exact ⟨h1.perm p3, ok2, congrArg (· + 1) l1⟩
          | nst _ _ => cases e; exact ⟨h1.perm p3, ok2, congrArg (· + 1) l1⟩
theorem give_many : ∀ {bs : List Bv} {vs : List V} {os : List (Option Cl)} {ρ : En}, G.HR F H (backs os vs ++ (eL ρ σ ++ T)) → EnOk ρ σ → bvVs σ bs vs → G.R F H (giveA ρ bs os) σ T
  | [], [], os, ρ, h, ok, _ => by
    have e1 : backs os [] = [] := by
      cases os with
      | nil => rfl
      | cons o os => cases o <;> rfl
    rw [e1] at h
    cases os <;> exact ⟨h, ok⟩
  | [], _ :: _, _, _, _, _, h => h.elim
  | _ :: _, [], _, _, _, _, h => h.elim
  | b :: bs, v :: vs, [], ρ, h, ok, hv => by
    cases b <;> exact ⟨h, ok⟩
  | .vl c :: bs, v :: vs, o :: os, ρ, h, ok, hv => by
    refine give_many (bs := bs) (vs := vs) (os := os) ?_ ok hv.2
    cases o with
    | none => exact h
    | some c' => exact HR.tail (x := (c', v)) h
  | .pl i :: bs, v :: vs, none :: os, ρ, h, ok, hv => give_many (bs := bs) (vs := vs) (os := os) h ok hv.2
  | .pl i :: bs, v :: vs, some c :: os, ρ, h, ok, hv => by
    have hv1 : σ[i]? = some (some v) := hv.1
    have h : G.HR F H ((c, v) :: (backs os vs ++ (eL ρ σ ++ T))) := h
    unfold giveA
    cases q : ρ[i]? with
    | none => exact give_many (vs := vs) h.tail ok hv.2
    | some r =>
      cases r with
      | some c' => exact give_many (vs := vs) h.tail ok hv.2
      | none =>
        obtain ⟨ok2, p2⟩ := en_put c ok q hv1
        refine give_many (vs := vs) (h.perm ?_) ok2 hv.2
        exact (mid _ _ _).symm.trans (List.Perm.append_left _ (List.Perm.append_right T p2))
end
def fCall (m : Mr) (f : Fn (List Bv)) : Fn Cl := fun n ρ => bnd (f n ρ) fun bs ρ1 => match takeA ρ1 bs with
  | some (cs, ρ2) => match m cs with
    | some (.ok c outs) => some (.ok c (giveA ρ2 bs outs))
    | some (.ex x outs) => some (.ex x (giveA ρ2 bs outs))
    | none => none
  | none => none
section
variable {ι : Type} {G : Gd} {X : ι → Cx} {W : WX} {e : Expr} {es : List Expr}
theorem HR.rot {K : PySem.W.Frag} {cl : Str → Addr → Prop} {F H : Hp} {x : Cl × V} {A B C : List (Cl × V)} (h : HR K cl F H (x :: (A ++ (B ++ C)))) : HR K cl F H (A ++ (B ++ x :: C)) :=
  h.perm (((List.Perm.append_left A (mid x B C)).trans (mid x A (B ++ C))).symm)
theorem snd_call {np : Nat} {m : Mr} {t : TA} {f : Fn (List Bv)} (ht : SndBs G W t f) (hl : ∀ n ρ bs ρ', f n ρ = some (.ok bs ρ') → bs.length = np) : SndE G W (tCallS (spM G np m) (WE W) t) (fCall m f) := fun n ρ r e F H σ T Q hR hP => by
  unfold fCall at e
  cases q : f n ρ with
  | none => rw [q] at e; cases e
  | some r1 =>
    rw [q] at e
    refine ht n ρ r1 q F H σ T _ hR ?_
    cases r1 with
    | ex x ρ' => cases e; exact hP
    | ok bs ρ1 =>
      rw [bnd_ok] at e
      intro F1 H1 vs s1 R1 v1
      cases q2 : takeA ρ1 bs with
      | none => rw [q2] at e; cases e
      | some p =>
        obtain ⟨cs, ρ2⟩ := p
        rw [q2] at e
        dsimp only at e
        obtain ⟨hh, ok2, lc⟩ := take_many R1 v1 q2
        have lb : vs.length = np := by
          rw [← hl n ρ bs ρ1 q]
          have : ∀ {bs : List Bv} {vs : List V}, bvVs σ bs vs → vs.length = bs.length := by
            intro bs
            induction bs with
            | nil => intro vs h; cases vs with
              | nil => rfl
              | cons _ _ => exact h.elim
            | cons b bs ih => intro vs h; cases vs with
              | nil => exact h.elim
              | cons v vs => exact congrArg (· + 1) (ih h.2)
          exact this v1
        cases q3 : m cs with
        | none => rw [q3] at e; cases e
        | some o =>
          rw [q3] at e
          refine ⟨lb, cs, F1, eL ρ2 σ ++ T, o, lc.trans lb, hh, q3, ?_⟩
          cases o with
          | ok c outs =>
            cases e
            exact fun F' H' v s' h' => hP F' H' v (s1.trans s') (give_many (T := (c, v) :: T) h'.rot ok2 v1)
          | ex x outs =>
            cases e
            exact fun F' H' cls d s' h' xr => hP F' H' cls d (s1.trans s') (give_many h' ok2 v1) xr
theorem xe_call {np k : Nat} {m : Mr} {f : Fn (List Bv)} {x : Str} {p pos : Pos} {a : Addr} {fd : FuncData} {ps : List Str} (Fk : ∀ i, FnOk (X i).prog (X i).w (X i).K (X i).mg (X i).base (L2.CX (X i).prog (X i).w) k a fd ps (spM G np m)) (hr : ∀ i, Room k (X i).A) (hg : ∀ i, Gl (X i) x) (hm : ∀ i, (X i).mg x = some (.ref a))
    (hk : ∀ i, PySem.W.keepIn (X i).K (.ref a) = true) (hb : ∀ i, Binds (X i).K fd ps []) (tk : ∀ i, Takes (X i) W) (ha : XBs G X W (e :: es) f) (hl : ∀ n ρ bs ρ', f n ρ = some (.ok bs ρ') → bs.length = np) (hdb : (x == ("__debug__" : Str)) = false)
    (he : ∀ i, starEach (e :: es) (X i).env = (false, eval e (X i).env) :: starEach es (X i).env) (hpl : ∀ i, (backTo pos (starEach es (X i).env)).any (·.1) = false) : XE G X W (.Call (.Name x p) (e :: es) [] pos) (fCall m f) := by
  obtain ⟨t, h1, h2⟩ := ha
  exact ⟨_, fun i => pe_callS (E := WE W) (Fk i) (hr i) (hg i) (hm i) (hk i) (hb i) (fun σ => passAt (tk i) σ) (h1 i) hdb (he i) (hpl i), snd_call h2 hl⟩
def fCall0 (m : Mr) : Fn Cl := fun _ ρ => match m [] with
  | some (.ok c _) => some (.ok c ρ)
  | _ => none
theorem backs_nil (os : List (Option Cl)) : backs os [] = [] := by
  cases os with
  | nil => rfl
  | cons o os => cases o <;> rfl
theorem xe_call0 {k : Nat} {m : Mr} {x : Str} {p pos : Pos} {a : Addr} {fd : FuncData} (Fk : ∀ i, FnOk (X i).prog (X i).w (X i).K (X i).mg (X i).base (L2.CX (X i).prog (X i).w) k a fd [] (spM G 0 m)) (hr : ∀ i, Room k (X i).A) (hg : ∀ i, Gl (X i) x) (hm : ∀ i, (X i).mg x = some (.ref a))
    (hk : ∀ i, PySem.W.keepIn (X i).K (.ref a) = true) (hb : ∀ i, Binds (X i).K fd [] []) (hdb : (x == ("__debug__" : Str)) = false) : XE G X W (.Call (.Name x p) [] [] pos) (fCall0 m) :=
  ⟨_, fun i => pe_call0 (Fk i) (hr i) (hg i) (hm i) (hk i) (hb i) .nil passL hdb, fun n ρ r e F H σ T Q hR hP => by
    unfold fCall0 at e
    split at e
    · rename_i c outs q
      cases e
      refine ⟨rfl, [], F, eL ρ σ ++ T, _, rfl, hR.hr, q, fun F' H' v s' h' => ?_⟩
      have h' : G.HR F' H' ((c, v) :: (backs outs [] ++ (eL ρ σ ++ T))) := h'
      rw [backs_nil] at h'
      exact hP F' H' v s' (.mk' h' hR.ok)
    · cases e⟩
theorem len_nil {n : Nat} {ρ : En} {bs : List Bv} {ρ' : En} (h : fNil n ρ = some (.ok bs ρ')) : bs.length = 0 := by
  cases h
  rfl
theorem len_cons {f : Fn Bv} {g : Fn (List Bv)} {k : Nat} (hg : ∀ n ρ bs ρ', g n ρ = some (.ok bs ρ') → bs.length = k) : ∀ n ρ bs ρ', fCons f g n ρ = some (.ok bs ρ') → bs.length = k + 1 := fun n ρ bs ρ' h => by
  unfold fCons at h
  cases q : f n ρ with
  | none => rw [q] at h; cases h
  | some r1 =>
    rw [q] at h
    cases r1 with
    | ex x ρ1 => cases h
    | ok b ρ1 =>
      rw [bnd_ok] at h
      cases q2 : g n ρ1 with
      | none => rw [q2] at h; cases h
      | some r2 =>
        rw [q2] at h
        cases r2 with
        | ex x ρ2 => cases h
        | ok bs2 ρ2 =>
          cases h
          exact congrArg (· + 1) (hg n ρ1 bs2 _ q2)
end

/-! ### a def by its body -/
def outsOf (fl : List Bool) (ρ : En) : List (Option Cl) := List.zipWith (fun b r => if b = true then r else none) fl ρ
def fin (fl : List Bool) : Ot → Option Mo
  | .nx ρ => some (.ok (.fz .none) (outsOf fl ρ))
  | .rt c ρ => some (.ok c (outsOf fl ρ))
  | .ex x ρ => some (.ex x (outsOf fl ρ))
  | _ => none
def startR (N : Nat) (cs : List Cl) : En := cs.map some ++ List.replicate (N - cs.length) none
theorem start_ok : ∀ {cs : List Cl} {vs : List V} (k : Nat), cs.length = vs.length → EnOk (cs.map some ++ List.replicate k none) (vs.map some ++ List.replicate k none) ∧ eL (cs.map some ++ List.replicate k none) (vs.map some ++ List.replicate k none) = cs.zip vs
  | [], [], 0, _ => ⟨trivial, rfl⟩
  | [], [], k + 1, h => by
    obtain ⟨h1, h2⟩ := start_ok (cs := []) (vs := []) k rfl
    rw [List.replicate_succ]
    exact ⟨h1, h2⟩
  | c :: cs, v :: vs, k, h => by
    obtain ⟨h1, h2⟩ := start_ok (cs := cs) (vs := vs) k (by simpa using h)
    exact ⟨h1, congrArg (fun z => (c, v) :: z) h2⟩
  | [], _ :: _, _, h => by cases h
  | _ :: _, [], _, h => by cases h
theorem outs_ok : ∀ {ρ : En} {σ : L2.St} {vs : List V} {fl : List Bool}, EnOk ρ σ → (∀ (i : Nat) (v : V), fl[i]? = some true → vs[i]? = some v → σ[i]? = some (some v)) → ∃ M, (eL ρ σ).Perm (backs (outsOf fl ρ) vs ++ M)
  | [], [], vs, fl, _, _ => ⟨[], by cases fl <;> exact .refl _⟩
  | ρ, σ, [], fl, _, _ => ⟨eL ρ σ, by rw [backs_nil]; exact .refl _⟩
  | ρ, σ, _ :: _, [], _, _ => ⟨eL ρ σ, .refl _⟩
  | some c :: ρ, some w :: σ, v :: vs, b :: fl, ok, h => by
    obtain ⟨M, p⟩ := outs_ok (ρ := ρ) (σ := σ) (vs := vs) (fl := fl) ok fun i v' h1 h2 => by
      have := h (i + 1) v' (by rw [List.getElem?_cons_succ]; exact h1) (by rw [List.getElem?_cons_succ]; exact h2)
      simpa using this
    cases b with
    | true =>
      have e := h 0 v rfl rfl
      simp only [List.getElem?_cons_zero, Option.some.injEq] at e
      subst e
      exact ⟨M, List.Perm.cons _ p⟩
    | false => exact ⟨(c, w) :: M, (List.Perm.cons _ p).trans (mid _ _ _).symm⟩
  | none :: ρ, x :: σ, v :: vs, b :: fl, ok, h => by
    obtain ⟨M, p⟩ := outs_ok (ρ := ρ) (σ := σ) (vs := vs) (fl := fl) ok fun i v' h1 h2 => by
      have := h (i + 1) v' (by rw [List.getElem?_cons_succ]; exact h1) (by rw [List.getElem?_cons_succ]; exact h2)
      simpa using this
    cases b <;> exact ⟨M, p⟩
  | some _ :: _, none :: _, _, _, h, _ => h.elim
  | some _ :: _, [], _, _, h, _ => h.elim
  | none :: _, [], _, _, h, _ => h.elim
  | [], _ :: _, _, _, h, _ => h.elim
theorem start_get {N : List Str} {vs : List V} {i : Nat} {v : V} (h : vs[i]? = some v) : (L2.start N vs)[i]? = some (some v) := by
  unfold L2.start
  obtain ⟨hi, e⟩ := List.getElem?_eq_some_iff.mp h
  rw [List.getElem?_append_left (by rw [List.length_map]; exact hi), List.getElem?_map, h]
  rfl
section
variable {P : Program} {w : World} {K : PySem.W.Frag} {mg : Str → Option Value} {base : Heap}
theorem def_ok {x qual : Str} {st : Stmt} {f : Addr} {fd : FuncData} {N ps : List Str} {k np : Nat} {G : Gd} {fl : List Bool} {Pk : List Nat} {g : FS} {m : Mr} (F : Fun K x qual st f fd) (S : FnScope N ps (defScope st)) (hnp : ps.length = np) (hfl : ∀ i, fl[i]? = some true → i ∈ Pk) (hN : np ≤ N.length)
    (hbody : ∀ (cdv : Value) (A : Around) (outer : List Env) (s : Shared) (H : Hp) (E : XK), Room k (A.deeper (PyProof.Rows.envOfC qual (defScope st) s.heap.objs.size f cdv)) →
      XSs G (fun _ : Unit => cxOf (L2.CX P w) P w K mg base N qual (defScope st) f cdv A outer s H E) (fun cls d _ H => E cls d H) Pk (defBody st) g)
    (hm : ∀ cs o, m cs = some o → ∃ n out, g n (startR N.length cs) = some out ∧ fin fl out = some o) : FnOk P w K mg base (L2.CX P w) (k + 1) f fd ps (spM G np m) := by
  refine F.okX S (fun vs H Q E h => by rw [hnp]; exact h.1) fun cdv A outer s H vs Q E hr h => ?_
  obtain ⟨lv, cs, F0, L, o, lc, hh, q, hP⟩ := h
  obtain ⟨t, h1, h2⟩ := hbody cdv A outer s H E hr
  obtain ⟨n, out, e1, e2⟩ := hm cs o q
  refine ⟨t, h1 (), h2 n _ out e1 F0 H _ L _ ?_ ?_⟩
  · obtain ⟨a1, a2⟩ := start_ok (cs := cs) (vs := vs) (N.length - cs.length) (lc.trans lv.symm)
    unfold startR
    have e3 : L2.start N vs = vs.map some ++ List.replicate (N.length - cs.length) none := by unfold L2.start; rw [lc, lv]
    rw [e3]
    exact ⟨by rw [a2]; exact hh, a1⟩
  · have key : ∀ {F' H' : Hp} {ρ' : En} {σ' : L2.St} {T' : List (Cl × V)}, G.R F' H' ρ' σ' T' → Kp Pk (L2.start N vs) σ' → G.HR F' H' (backs (outsOf fl ρ') vs ++ T') := fun {F' H' ρ' σ' T'} R' kp => by
      obtain ⟨M, p⟩ := outs_ok (vs := vs) (fl := fl) R'.ok fun i v h3 h4 => by rw [kp i (hfl i h3)]; exact start_get h4
      refine ((R'.hr.perm (List.Perm.append_right T' p)).perm (L' := (backs (outsOf fl ρ') vs ++ T') ++ M) ?_).left
      rw [List.append_assoc, List.append_assoc]
      exact List.Perm.append_left _ List.perm_append_comm
    cases out with
    | nx ρ' =>
      cases e2
      intro F' H' σ' s' R' kp
      exact hP F' H' .non s' ((key R' kp).push .non)
    | rt c ρ' =>
      cases e2
      intro F' H' σ' v s' R' kp
      exact hP F' H' v s' ((key R' kp).perm (mid _ _ _))
    | ex x ρ' =>
      cases e2
      intro F' H' σ' cls d s' R' kp xr
      exact hP F' H' cls d s' (key R' kp) xr
    | bk ρ' => cases e2
    | ct ρ' => cases e2
end
end L3

namespace L3
open PySem PySem.Spec L2

/-! ### reading cells -/
section
variable {G : Gd} {F H : Hp} {c : Cl} {v : V} {A : List Addr}
theorem RpK.of {K : PySem.W.Frag} {F : Hp} : ∀ {kvs : List (Key × V)} {es : List (Key × D)}, RpKs K F kvs es → RpK K F kvs (es.map fun p => (kD p.1, p.2))
  | _, _, .nil => .nil
  | _, _, .cons h r => .cons h (RpK.of r)
theorem CR.rp {d : D} (s : Same F H) (h : G.CR F H c v A) (e : c.data = some d) : Rp G.K H v d := by
  cases h with
  | fz r => cases e; exact r.mono s
  | lst h1 h2 r => cases e; exact .lst (.inl (.inl h1)) (r.mono s)
  | dct h1 h2 r => cases e; exact .dct h1 (RpK.of (r.mono s))
  | dtt h1 h2 r => cases e
  | dlk h1 r => cases e
  | dlt h1 r => cases e
  | bx _ _ _ _ _ _ => cases e
  | ins hc h1 h2 h3 r => cases e
  | exn _ _ _ => cases e
  | lls _ _ _ => cases e
  | nst _ _ _ _ _ _ => cases e
theorem CR.rpF {d : D} (h : G.CR F H c v A) (e : c = .fz d) : Rp G.K F v d := by
  subst e
  cases h with
  | fz r => exact r
theorem CR.seqL {ds : List D} (s : Same F H) (h : G.CR F H c v A) (e : c.data = some (.list ds)) : ∃ a vs, v = .ref a ∧ SqL G.K H a vs ∧ RpA G.K F vs ds := by
  cases h with
  | fz r =>
    cases e
    cases r with
    | lst h1 r => exact ⟨_, _, rfl, s.seq h1, r⟩
  | lst h1 h2 r => cases e; exact ⟨_, _, rfl, .inl (.inl h1), r⟩
  | dct h1 h2 r => cases e
  | dtt h1 h2 r => cases e
  | dlk h1 r => cases e
  | dlt h1 r => cases e
  | bx _ _ _ _ _ _ => cases e
  | ins hc h1 h2 h3 r => cases e
  | exn _ _ _ => cases e
  | lls _ _ _ => cases e
  | nst _ _ _ _ _ _ => cases e
theorem CR.seqT {ds : List D} (s : Same F H) (h : G.CR F H c v A) (e : c.data = some (.tuple ds)) : ∃ a vs, v = .ref a ∧ SqU G.K F a vs ∧ RpA G.K F vs ds := by
  cases h with
  | fz r =>
    cases e
    cases r with
    | tup h1 r => exact ⟨_, _, rfl, h1, r⟩
  | lst h1 h2 r => cases e
  | dct h1 h2 r => cases e
  | dtt h1 h2 r => cases e
  | dlk h1 r => cases e
  | dlt h1 r => cases e
  | bx _ _ _ _ _ _ => cases e
  | ins hc h1 h2 h3 r => cases e
  | exn _ _ _ => cases e
  | lls _ _ _ => cases e
  | nst _ _ _ _ _ _ => cases e
end
section
variable {G : Gd} {F H : Hp} {cs : List Cl} {vs : List V} {L : List (Cl × V)}
theorem crs2 {c1 c2 : Cl} (h : CRs G F H [c1, c2] vs) : ∃ v1 v2 A1 A2, vs = [v1, v2] ∧ G.CR F H c1 v1 A1 ∧ G.CR F H c2 v2 A2 := by
  cases h with
  | cons h1 r =>
    cases r with
    | cons h2 r =>
      cases r
      obtain ⟨A1, h1⟩ := h1
      obtain ⟨A2, h2⟩ := h2
      exact ⟨_, _, A1, A2, rfl, h1, h2⟩
theorem crs1 {c1 : Cl} (h : CRs G F H [c1] vs) : ∃ v1 A1, vs = [v1] ∧ G.CR F H c1 v1 A1 := by
  cases h with
  | cons h1 r =>
    cases r
    obtain ⟨A1, h1⟩ := h1
    exact ⟨_, A1, rfl, h1⟩
theorem cr_int {i : Int} {v : V} {A : List Addr} (h : G.CR F H (.fz (.int i)) v A) : v = .int i := by
  cases h with
  | fz r => cases r; rfl
theorem cr_str {i : Str} {v : V} {A : List Addr} (h : G.CR F H (.fz (.str i)) v A) : v = .str i := by
  cases h with
  | fz r => cases r; rfl
theorem cr_bool {i : Bool} {v : V} {A : List Addr} (h : G.CR F H (.fz (.bool i)) v A) : v = .bl i := by
  cases h with
  | fz r => cases r; rfl
theorem HR.tupN {p : Addr} {ws : List V} {ds : List D} (hr : G.HR F H L) (hp : H p = none) (r : RpA G.K F ws ds) : ∃ F', Same F F' ∧ G.HR F' (upd H p (.tup ws)) ((.fz (.tuple ds), .ref p) :: L) := by
  obtain ⟨s, q⟩ := hr.newF (o := .tup ws) hp
  exact ⟨_, s, q.push (.tup (.inl upd_same) (r.mono s))⟩
theorem HR.lstN {p : Addr} {ws : List V} {ds : List D} (hr : G.HR F H L) (hp : H p = none) (r : RpA G.K F ws ds) : G.HR F (upd H p (.lst ws)) ((.lst ds, .ref p) :: L) :=
  hr.newO hp (.lst upd_same (hr.sub.free hp) r)
end

/-! ### + -/
def lsz (n : Nat) : Bool := decide (n ≤ 10000000)
theorem lsz_ok {n : Nat} (h : lsz n = true) : n ≤ sizeLine := by
  have := of_decide_eq_true h
  rw [sizeLine_eq]; omega
section
variable {X : Cx}
theorem op_catT0 : OpR X (binaryOp .Add) (fun x y H Q => ∃ a b ys, x = .ref a ∧ y = .ref b ∧ SqT X.K H a [] ∧ SqT X.K H b ys ∧ Q (.ref b) H) := by
  intro pins s σ H x y v u Q I rx ry h
  obtain ⟨a, b, ys, rfl, rfl, ha, hb, q⟩ := h
  cases rx
  cases ry
  obtain ⟨its, r1, p1, _⟩ := I.tuple ha
  obtain ⟨its2, r2, p2, _⟩ := I.tuple hb
  cases r1
  obtain ⟨⟨cls, dd, data, sl⟩, ho, hc, n, hd⟩ := id p1
  obtain ⟨⟨cls2, dd2, data2, sl2⟩, ho2, hc2, n2, hd2⟩ := id p2
  simp only at hc hd hc2 hd2
  subst hc hd hc2 hd2
  exact concat_meets ⟨_, ho, rfl⟩ ⟨_, ho2, rfl⟩ noFill_tuple_add seq_tuple_add PySem.F.slot_tuple_add PySem.F.entry_tuple_add (PySem.F.args_tuple_add_2 _ _)
    (PyProof.Rows.tuple_addW0 a b [].toArray its2.toArray n n2 dd dd2 sl sl2 rfl) ⟨ho, ho2, ⟨.ref b, H, I, rfl, q⟩⟩
end
def rAddA (K : PySem.W.Frag) : R2 := fun x y H Q => (rI0 (fun i j => .int (i + j)) x y H Q) ∨ ((fun x y H Q => ∃ i j, x = .str i ∧ y = .str j ∧ i.length + j.length ≤ sizeLine ∧ Q (.str (i ++ j)) H) : R2) x y H Q ∨ rCat x y H Q ∨ rCatT K x y H Q ∨
  ((fun x y H Q => ∃ a b ys, x = .ref a ∧ y = .ref b ∧ SqT K H a [] ∧ SqT K H b ys ∧ Q (.ref b) H) : R2) x y H Q
theorem op_addA {X : Cx} : OpR X (binaryOp .Add) (rAddA X.K) := op_add.or (op_add_str.or (op_cat.or (op_catT.or op_catT0)))
def gAdd : List Cl → Option Cl
  | [.fz (.int i), .fz (.int j)] => some (.fz (.int (i + j)))
  | [.fz (.str i), .fz (.str j)] => if lsz (i.length + j.length) = true then some (.fz (.str (i ++ j))) else none
  | [.lst xs, .lst ys] => if lsz (xs.length + ys.length) = true then some (.lst (xs ++ ys)) else none
  | [.fz (.tuple xs), .fz (.tuple ys)] => if lsz (xs.length + ys.length) = true then some (.fz (.tuple (xs ++ ys))) else none
  | _ => none
theorem prm_add {G : Gd} : Prm G (l2 (rAddA G.K)) gAdd := fun F H L cs vs c Q hr hc e hQ => by
  unfold gAdd at e
  split at e
  · obtain ⟨v1, v2, A1, A2, rfl, h1, h2⟩ := crs2 hc
    cases cr_int h1; cases cr_int h2; cases e
    exact .inl ⟨_, _, rfl, rfl, hQ F H _ (Same.refl _) (hr.push (.int _))⟩
  · obtain ⟨v1, v2, A1, A2, rfl, h1, h2⟩ := crs2 hc
    cases cr_str h1; cases cr_str h2
    split at e
    · rename_i hz
      cases e
      exact .inr (.inl ⟨_, _, rfl, rfl, lsz_ok hz, hQ F H _ (Same.refl _) (hr.push (.str _))⟩)
    · cases e
  · obtain ⟨v1, v2, A1, A2, rfl, h1, h2⟩ := crs2 hc
    split at e
    · rename_i hz
      cases e
      cases h1 with
      | lst a1 a2 a3 =>
        cases h2 with
        | lst b1 b2 b3 =>
          exact .inr (.inr (.inl ⟨_, _, _, _, rfl, rfl, a1, b1, by rw [a3.length, b3.length]; exact lsz_ok hz, fun p hp => hQ F _ _ (Same.refl _) (HR.lstN hr hp (a3.append b3))⟩))
    · cases e
  · rename_i xs ys
    obtain ⟨v1, v2, A1, A2, rfl, h1, h2⟩ := crs2 hc
    split at e
    · rename_i hz
      cases e
      obtain ⟨a, ws, rfl, q1, r1⟩ := h1.seqT hr.sub rfl
      obtain ⟨b, us, rfl, q2, r2⟩ := h2.seqT hr.sub rfl
      have r2' := h2.rpF rfl
      have r1' := h1.rpF rfl
      cases xs with
      | nil =>
        cases r1
        exact .inr (.inr (.inr (.inr ⟨_, _, _, rfl, rfl, sameT hr.sub q1, sameT hr.sub q2, hQ F H _ (Same.refl _) (hr.push r2')⟩)))
      | cons x xs =>
        refine .inr (.inr (.inr (.inl ⟨_, _, _, _, rfl, rfl, sameT hr.sub q1, sameT hr.sub q2, ?_, by rw [r1.length, r2.length]; exact lsz_ok hz, fun ez => ?_, fun _ p hp => ?_⟩)))
        · cases r1; exact fun z => nomatch z
        · subst ez
          cases r2
          rw [List.append_nil] at hQ
          exact hQ F H _ (Same.refl _) (hr.push r1')
        · obtain ⟨F', s, q⟩ := HR.tupN hr hp (r1.append r2)
          exact hQ F' _ _ s q
    · cases e
  · cases e
/-! ### - * // % -/
def gSub : List Cl → Option Cl
  | [.fz (.int i), .fz (.int j)] => some (.fz (.int (i - j)))
  | _ => none
theorem prm_sub {G : Gd} : Prm G (l2 (rI0 fun i j => .int (i - j))) gSub := fun F H L cs vs c Q hr hc e hQ => by
  unfold gSub at e
  split at e
  · obtain ⟨v1, v2, A1, A2, rfl, h1, h2⟩ := crs2 hc
    cases cr_int h1; cases cr_int h2; cases e
    exact ⟨_, _, rfl, rfl, hQ F H _ (Same.refl _) (hr.push (.int _))⟩
  · cases e
def mulBad (i j : Int) : Bool := decide (Builtin.Int.intBits i > shortFactorBits) && decide (Builtin.Int.intBits j > shortFactorBits) && Builtin.Int.intTooBig (Builtin.Int.intBits i + Builtin.Int.intBits j)
def CMulB (i j : Int) : Prop := mulBad i j = false
theorem op_mulB {X : Cx} : OpR X (binaryOp .Mult) (rI CMulB fun i j => .int (i * j)) := opI fun i j _ _ _ _ _ hc q => PyProof.Rows.mul_int q (by
  unfold IntMulOk
  have h : mulBad i j = false := hc
  unfold mulBad at h
  rw [h]
  exact Bool.false_ne_true)
/-- a tuple times an int that is no index too far: itself where it is empty or the int is 1, the empty tuple where the int is not positive -/
theorem tuple_mulB (l : Addr) (items : Array Value) (n : Nat) (dd : Option Addr) (sl : Array (Option Value)) (x : Int) (u : Tok) (far : (decide (x < -(2 ^ 63)) || decide (x ≥ 2 ^ 63)) = false) (neg : (items.isEmpty || x == 1) = false → x ≤ 0) :
    Meets (Builtin.«tuple.__mul__» ⟨[.ref l, .int x u], []⟩) (fun _ R s => s.heap.get? l = some { cls := .type "tuple", dict := dd, data := .seq items n, slots := sl } ∧
      if (items.isEmpty || x == 1) = true then R (.ok (.ret (.ref l))) s else R (.ok (.ret (.ref s.heap.objs.size))) { s with heap := s.heap.push { cls := .type "tuple", data := .seq #[] } }) :=
  .of_wp fun prog w A R s got => by
    have at_ := got.1
    have post := got.2
    have idx := AutoSeq1.idx_int
    have no : ∀ {b : Bool}, b = false → decide (b = true) = false := fun e => by rw [e]; rfl
    wp_walk using AutoSeq1.wpAny_loadPart' at_
    refine wpAny_ite_false (no far) ?_
    wp_walk using AutoSeq1.wpAny_loadPart' at_
    cases same : (items.isEmpty || x == 1) with
    | true =>
      rw [if_pos same] at post
      refine wpAny_ite_true (decide_eq_true rfl) ?_
      wp_walk using AutoSeq1.wpAny_loadPart' at_
      exact ⟨_, rfl, post⟩
    | false =>
      have low := neg same
      rw [if_neg (by rw [same]; exact Bool.false_ne_true)] at post
      refine wpAny_ite_false rfl ?_
      wp_walk using AutoSeq1.wpAny_loadPart' at_
      exact ⟨_, rfl, post⟩
theorem tuple_mulS (l : Addr) (items : Array Value) (n : Nat) (dd : Option Addr) (sl : Array (Option Value)) (x : Int) (u : Tok) (c0 : (decide (x < -(2 ^ 63)) || decide (x ≥ 2 ^ 63)) = false) (c1 : (items.isEmpty || x == 1) = true) :
    Meets (Builtin.«tuple.__mul__» ⟨[.ref l, .int x u], []⟩) (fun _ R s => s.heap.get? l = some { cls := .type "tuple", dict := dd, data := .seq items n, slots := sl } ∧ R (.ok (.ret (Value.ref l))) s) :=
  (tuple_mulB l items n dd sl x u c0 (by rw [c1]; exact nofun)).of_imp fun _ _ _ q => ⟨q.1, by rw [if_pos c1]; exact q.2⟩
theorem tuple_mul0 (l : Addr) (items : Array Value) (n : Nat) (dd : Option Addr) (sl : Array (Option Value)) (x : Int) (u : Tok) (c0 : (decide (x < -(2 ^ 63)) || decide (x ≥ 2 ^ 63)) = false) (c1 : (items.isEmpty || x == 1) = false) (c2 : x ≤ 0) :
    Meets (Builtin.«tuple.__mul__» ⟨[.ref l, .int x u], []⟩) (fun _ R s => s.heap.get? l = some { cls := .type "tuple", dict := dd, data := .seq items n, slots := sl } ∧
      R (.ok (.ret (Value.ref s.heap.objs.size))) { s with heap := s.heap.push { cls := Value.type "tuple", data := Data.seq #[] }, toks := s.toks }) :=
  (tuple_mulB l items n dd sl x u c0 fun _ => c2).of_imp fun _ _ _ q => ⟨q.1, by rw [if_neg (by rw [c1]; exact Bool.false_ne_true)]; exact q.2⟩

section
variable {X : Cx}
theorem c0_of {k : Int} (h1 : -(2 ^ 63) ≤ k) (h2 : k < 2 ^ 63) : (decide (k < -(2 ^ 63)) || decide (k ≥ 2 ^ 63)) = false := by
  rw [decide_eq_false (by omega), decide_eq_false (by omega)] <;> rfl
theorem op_repTS : OpR X (binaryOp .Mult) (fun x y H Q => ∃ l k xs, x = .ref l ∧ y = .int k ∧ SqT X.K H l xs ∧ (xs.isEmpty || k == 1) = true ∧ -(2 ^ 63) ≤ k ∧ k < 2 ^ 63 ∧ Q (.ref l) H) := by
  intro pins s σ H x y v u Q I rx ry h
  obtain ⟨l, k, xs, rfl, rfl, hT, hne, h1, h2, q⟩ := h
  cases rx
  obtain ⟨t, rfl⟩ := ry
  obtain ⟨its, r, ⟨⟨cls, dd, data, sl⟩, ho, hc, n, hd⟩, hs⟩ := I.tuple hT
  simp only at hc hd
  subst hc hd
  have e1 : (its.toArray.isEmpty || k == 1) = true := by
    have : its.toArray.isEmpty = xs.isEmpty := by cases r <;> simp
    rw [this]; exact hne
  exact wpAny_binaryOp_repeat_ref (T := "tuple") (U := "int") (by decide) ⟨_, ho, rfl⟩ (fun s' => typeIs_int s' k t) noFill_tuple_mul PySem.F.fills_int_mul PySem.F.slot_int_rmul repeat_tuple PySem.F.slot_int_index.lookup
    (call_meets PySem.F.slot_int_rmul (typeIs_int s k t) PySem.F.entry_int_rmul (PySem.F.args_int_rmul_2 _ _) (int_rmul_tuple k t l its.toArray n dd sl)
      ⟨ho, rfl, ⟨_, ho, rfl⟩, call_meets PySem.F.slot_tuple_mul ⟨_, ho, rfl⟩ PySem.F.entry_tuple_mul (PySem.F.args_tuple_mul_2 _ _) (tuple_mulS l its.toArray n dd sl k t (c0_of h1 h2) e1) ⟨ho, ⟨.ref l, H, I, rfl, q⟩⟩⟩)
theorem op_repT0 : OpR X (binaryOp .Mult) (fun x y H Q => ∃ l k xs, x = .ref l ∧ y = .int k ∧ SqT X.K H l xs ∧ xs ≠ [] ∧ -(2 ^ 63) ≤ k ∧ k ≤ 0 ∧ ∀ p, H p = none → Q (.ref p) (upd H p (.tup []))) := by
  intro pins s σ H x y v u Q I rx ry h
  obtain ⟨l, k, xs, rfl, rfl, hT, hne, h1, h2, q⟩ := h
  cases rx
  obtain ⟨t, rfl⟩ := ry
  obtain ⟨its, r, ⟨⟨cls, dd, data, sl⟩, ho, hc, n, hd⟩, hs⟩ := I.tuple hT
  simp only at hc hd
  subst hc hd
  have e0 : its.toArray.isEmpty = false := by
    cases r with
    | nil => exact absurd rfl hne
    | cons _ _ => rfl
  have e1 : (its.toArray.isEmpty || k == 1) = false := by
    rw [e0, Bool.false_or]
    exact beq_eq_false_iff_ne.mpr (by omega)
  refine wpAny_binaryOp_repeat_ref (T := "tuple") (U := "int") (by decide) ⟨_, ho, rfl⟩ (fun s' => typeIs_int s' k t) noFill_tuple_mul PySem.F.fills_int_mul PySem.F.slot_int_rmul repeat_tuple PySem.F.slot_int_index.lookup
    (call_meets PySem.F.slot_int_rmul (typeIs_int s k t) PySem.F.entry_int_rmul (PySem.F.args_int_rmul_2 _ _) (int_rmul_tuple k t l its.toArray n dd sl)
      ⟨ho, rfl, ⟨_, ho, rfl⟩, call_meets PySem.F.slot_tuple_mul ⟨_, ho, rfl⟩ PySem.F.entry_tuple_mul (PySem.F.args_tuple_mul_2 _ _) (tuple_mul0 l its.toArray n dd sl k t (c0_of h1 (by omega)) e1 h2) ⟨ho, ?_⟩⟩)
  exact ⟨.ref s.heap.objs.size, _, I.laid (t' := s.toks) (o := .tup []) (fun b ob q => Heap.get?_push_of_some _ q) (Nat.le_refl _) ⟨Nat.zero_le _, [], .nil, PyProof.Rows.IsTup.new s.heap _⟩, rfl, q _ (I.hok.fresh (Nat.le_refl _))⟩
end
def rMulA (K : PySem.W.Frag) : R2 := fun x y H Q => (rI CMulB (fun i j => .int (i * j)) x y H Q) ∨ rRep x y H Q ∨ rRepT K x y H Q ∨
  ((fun x y H Q => ∃ l k xs, x = .ref l ∧ y = .int k ∧ SqT K H l xs ∧ (xs.isEmpty || k == 1) = true ∧ -(2 ^ 63) ≤ k ∧ k < 2 ^ 63 ∧ Q (.ref l) H) : R2) x y H Q ∨
  ((fun x y H Q => ∃ l k xs, x = .ref l ∧ y = .int k ∧ SqT K H l xs ∧ xs ≠ [] ∧ -(2 ^ 63) ≤ k ∧ k ≤ 0 ∧ ∀ p, H p = none → Q (.ref p) (upd H p (.tup []))) : R2) x y H Q
theorem op_mulA {X : Cx} : OpR X (binaryOp .Mult) (rMulA X.K) := op_mulB.or (op_rep.or (op_repT.or (op_repTS.or op_repT0)))
def gMul : List Cl → Option Cl
  | [.fz (.int i), .fz (.int j)] => if mulBad i j = true then none else some (.fz (.int (i * j)))
  | [.lst xs, .fz (.int k)] => if (Nat.ble k.natAbs 10000000 && lsz (xs.length * k.toNat)) = true then some (.lst (List.replicate k.toNat xs).flatten) else none
  | [.fz (.tuple xs), .fz (.int k)] => if (Nat.ble k.natAbs 1000 && Nat.ble xs.length 1000) = true then some (.fz (.tuple (List.replicate k.toNat xs).flatten)) else none
  | _ => none
theorem prm_mul {G : Gd} : Prm G (l2 (rMulA G.K)) gMul := fun F H L cs vs c Q hr hc e hQ => by
  unfold gMul at e
  split at e
  · obtain ⟨v1, v2, A1, A2, rfl, h1, h2⟩ := crs2 hc
    cases cr_int h1; cases cr_int h2
    split at e
    · cases e
    · rename_i hz
      cases e
      exact .inl ⟨_, _, rfl, rfl, by unfold CMulB; simpa using hz, hQ F H _ (Same.refl _) (hr.push (.int _))⟩
  · rename_i xs k
    obtain ⟨v1, v2, A1, A2, rfl, h1, h2⟩ := crs2 hc
    cases cr_int h2
    split at e
    · rename_i hz
      cases e
      rw [Bool.and_eq_true] at hz
      have hk : k.natAbs ≤ 10000000 := Nat.le_of_ble_eq_true hz.1
      cases h1 with
      | lst a1 a2 a3 =>
        exact .inr (.inl ⟨_, _, _, rfl, rfl, a1, by omega, by omega, by rw [a3.length]; exact lsz_ok hz.2, fun p hp => hQ F _ _ (Same.refl _) (HR.lstN hr hp (a3.rep _))⟩)
    · cases e
  · rename_i xs k
    obtain ⟨v1, v2, A1, A2, rfl, h1, h2⟩ := crs2 hc
    cases cr_int h2
    split at e
    · rename_i hz
      cases e
      rw [Bool.and_eq_true] at hz
      have hk : k.natAbs ≤ 1000 := Nat.le_of_ble_eq_true hz.1
      have k1 : -1000 ≤ k := by omega
      have k2 : k ≤ 1000 := by omega
      have k3 : xs.length ≤ 1000 := Nat.le_of_ble_eq_true hz.2
      obtain ⟨a, ws, rfl, q1, r1⟩ := h1.seqT hr.sub rfl
      have rp := h1.rpF rfl
      have lw := r1.length
      by_cases hb : (ws.isEmpty || k == 1) = true
      · refine .inr (.inr (.inr (.inl ⟨_, _, _, rfl, rfl, sameT hr.sub q1, hb, by omega, by omega, ?_⟩)))
        have ex : (List.replicate k.toNat xs).flatten = xs := by
          rcases Bool.or_eq_true_iff.mp hb with z | z
          · cases r1 with
            | nil => simp
            | cons _ _ => cases z
          · have z' : k = 1 := by simpa using z
            subst z'
            simp
        rw [ex] at hQ
        exact hQ F H _ (Same.refl _) (hr.push rp)
      · have hb' : ws ≠ [] ∧ k ≠ 1 := by
          constructor
          · intro z; rw [z] at hb; exact hb rfl
          · intro z; rw [z] at hb; exact hb (by simp)
        by_cases hk : k ≤ 0
        · refine .inr (.inr (.inr (.inr ⟨_, _, _, rfl, rfl, sameT hr.sub q1, hb'.1, by omega, hk, fun p hp => ?_⟩)))
          have ek : k.toNat = 0 := by omega
          rw [ek] at hQ
          obtain ⟨F', s, q⟩ := HR.tupN hr hp (.nil)
          exact hQ F' _ _ s q
        · refine .inr (.inr (.inl ⟨_, _, _, rfl, rfl, sameT hr.sub q1, hb'.1, by omega, k2, by omega, fun p hp => ?_⟩))
          obtain ⟨F', s, q⟩ := HR.tupN hr hp (r1.rep k.toNat)
          exact hQ F' _ _ s q
    · cases e
  · cases e
def CDivB (i j : Int) : Prop := j ≠ 0 ∧ Builtin.divisionGoesByPylong i j = false
theorem op_fdivB {X : Cx} : OpR X (binaryOp .FloorDiv) (rI CDivB fun i j => .int (i.fdiv j)) := opI fun i j _ _ _ _ _ hc q => PyProof.Rows.floordiv_int hc.1 q (.inl hc.2)
def gFdiv : List Cl → Option Cl
  | [.fz (.int i), .fz (.int j)] => if (decide (j ≠ 0) && !Builtin.divisionGoesByPylong i j) = true then some (.fz (.int (i.fdiv j))) else none
  | _ => none
theorem prm_fdiv {G : Gd} : Prm G (l2 (rI CDivB fun i j => .int (i.fdiv j))) gFdiv := fun F H L cs vs c Q hr hc e hQ => by
  unfold gFdiv at e
  split at e
  · obtain ⟨v1, v2, A1, A2, rfl, h1, h2⟩ := crs2 hc
    cases cr_int h1; cases cr_int h2
    split at e
    · rename_i hz
      cases e
      rw [Bool.and_eq_true] at hz
      exact ⟨_, _, rfl, rfl, ⟨of_decide_eq_true hz.1, by simpa using hz.2⟩, hQ F H _ (Same.refl _) (hr.push (.int _))⟩
    · cases e
  · cases e
def gMod : List Cl → Option Cl
  | [.fz (.int i), .fz (.int j)] => if j = 0 then none else some (.fz (.int (i.fmod j)))
  | _ => none
theorem prm_mod {G : Gd} : Prm G (l2 (rI (fun _ j => j ≠ 0) fun i j => .int (i.fmod j))) gMod := fun F H L cs vs c Q hr hc e hQ => by
  unfold gMod at e
  split at e
  · obtain ⟨v1, v2, A1, A2, rfl, h1, h2⟩ := crs2 hc
    cases cr_int h1; cases cr_int h2
    split at e
    · cases e
    · rename_i hz
      cases e
      exact ⟨_, _, rfl, rfl, hz, hQ F H _ (Same.refl _) (hr.push (.int _))⟩
  · cases e
def gPow : List Cl → Option Cl
  | [.fz (.int i), .fz (.int j)] => if (decide (0 ≤ j) && decide (j ≤ 1000000) && decide (i.natAbs < 2 ^ 64)) = true then some (.fz (.int (i ^ j.toNat))) else none
  | _ => none
theorem prm_pow {G : Gd} : Prm G (l2 (rI CPow fun i j => .int (i ^ j.toNat))) gPow := fun F H L cs vs c Q hr hc e hQ => by
  unfold gPow at e
  split at e
  · obtain ⟨v1, v2, A1, A2, rfl, h1, h2⟩ := crs2 hc
    cases cr_int h1; cases cr_int h2
    split at e
    · rename_i hz
      cases e
      rw [Bool.and_eq_true, Bool.and_eq_true] at hz
      exact ⟨_, _, rfl, rfl, ⟨of_decide_eq_true hz.1.1, of_decide_eq_true hz.1.2, of_decide_eq_true hz.2⟩, hQ F H _ (Same.refl _) (hr.push (.int _))⟩
    · cases e
  · cases e
def gNeg : List Cl → Option Cl
  | [.fz (.int i)] => some (.fz (.int (-i)))
  | _ => none
theorem prm_neg {G : Gd} : Prm G (l1 (rU fun i => .int (-i))) gNeg := fun F H L cs vs c Q hr hc e hQ => by
  unfold gNeg at e
  split at e
  · obtain ⟨v1, A1, rfl, h1⟩ := crs1 hc
    cases cr_int h1
    cases e
    exact ⟨_, rfl, hQ F H _ (Same.refl _) (hr.push (.int _))⟩
  · cases e
/-! ### comparisons -/
def gI (p : Int → Int → Bool) : List Cl → Option Cl
  | [.fz (.int i), .fz (.int j)] => some (.fz (.bool (p i j)))
  | _ => none
theorem prm_i {G : Gd} {p : Int → Int → Bool} : Prm G (l2 (rI0 fun i j => .bl (p i j))) (gI p) := fun F H L cs vs c Q hr hc e hQ => by
  unfold gI at e
  split at e
  · obtain ⟨v1, v2, A1, A2, rfl, h1, h2⟩ := crs2 hc
    cases cr_int h1; cases cr_int h2
    cases e
    exact ⟨_, _, rfl, rfl, hQ F H _ (Same.refl _) (hr.push (.bl _))⟩
  · cases e
abbrev gLt := gI fun i j => decide (i < j)
abbrev gLe := gI fun i j => decide (i ≤ j)
abbrev gGt := gI fun i j => decide (j < i)
abbrev gGe := gI fun i j => decide (j ≤ i)
/-- the data of a cell, a nested one too -/
def Cl.datN : Cl → Option D
  | .nst dss (some d) => some (.list [.list (dss.map PyData.list), d])
  | .nst dss none => some (.list (dss.map PyData.list))
  | c => c.data
theorem CR.rpN {G : Gd} {F H : Hp} {c : Cl} {v : V} {A : List Addr} {d : D} (s : Same F H) (h : G.CR F H c v A) (e : c.datN = some d) : Rp G.K H v d := by
  cases h with
  | lls h f q => cases e; exact .lst (.inl (.inl h)) (q.rp s fun _ _ => rfl)
  | nst h f h' f' q r => cases e; exact .lst (.inl (.inl h)) (.cons (.lst (.inl (.inl h')) (q.rp s fun _ _ => rfl)) (.cons (r.mono s) .nil))
  | fz r => exact CR.rp s (.fz r) e
  | lst h1 h2 r => exact CR.rp s (.lst h1 h2 r) e
  | dct h1 h2 r => exact CR.rp s (.dct h1 h2 r) e
  | dtt h1 h2 r => cases e
  | dlk h1 r => cases e
  | dlt h1 r => cases e
  | bx _ _ _ _ _ _ => cases e
  | ins hc h1 h2 h3 r => cases e
  | exn _ _ _ => cases e
def gCmpN (p : D → D → Bool) : List Cl → Option Cl
  | [a, b] => match a.datN, b.datN with
    | some d, some e => if (SeqAt.shaped d && SeqAt.shaped e) = true then some (.fz (.bool (p d e))) else none
    | _, _ => none
  | _ => none
abbrev gEqN := gCmpN fun d e => PyData.eqv d e
abbrev gNeN := gCmpN fun d e => !PyData.eqv d e
theorem cmpN {G : Gd} {p : D → D → Bool} {F H : Hp} {L : List (Cl × V)} {cs : List Cl} {vs : List V} {c : Cl} (hr : G.HR F H L) (hc : CRs G F H cs vs) (e : gCmpN p cs = some c) :
    ∃ v1 v2 d d', vs = [v1, v2] ∧ Rp G.K H v1 d ∧ Rp G.K H v2 d' ∧ SeqAt.shaped d = true ∧ SeqAt.shaped d' = true ∧ c = .fz (.bool (p d d')) := by
  unfold gCmpN at e
  split at e
  · split at e
    · rename_i d d' q1 q2
      split at e
      · rename_i hz
        rw [Bool.and_eq_true] at hz
        have ⟨v1, v2, _, _, ev, h1, h2⟩ := crs2 hc
        cases e
        exact ⟨v1, v2, d, d', ev, h1.rpN hr.sub q1, h2.rpN hr.sub q2, hz.1, hz.2, rfl⟩
      · cases e
    · cases e
  · cases e
def gEq : List Cl → Option Cl
  | [a, b] => match a.data, b.data with
    | some d, some e => if (SeqAt.shaped d && SeqAt.shaped e) = true then some (.fz (.bool (PyData.eqv d e))) else none
    | _, _ => none
  | _ => none
def gNe : List Cl → Option Cl
  | [a, b] => match a.data, b.data with
    | some d, some e => if (SeqAt.shaped d && SeqAt.shaped e) = true then some (.fz (.bool (!PyData.eqv d e))) else none
    | _, _ => none
  | _ => none
theorem prm_eq {G : Gd} : Prm G (l2 (rEqD G.K)) gEq := fun F H L cs vs c Q hr hc e hQ => by
  unfold gEq at e
  split at e
  · split at e
    · rename_i d d' q1 q2
      split at e
      · rename_i hz
        rw [Bool.and_eq_true] at hz
        obtain ⟨v1, v2, A1, A2, rfl, h1, h2⟩ := crs2 hc
        cases e
        exact ⟨d, d', (h1.rp hr.sub q1).dp (SeqAt.canLay_of_shaped hz.1), (h2.rp hr.sub q2).dp (SeqAt.canLay_of_shaped hz.2), hz.1, hz.2, hQ F H _ (Same.refl _) (hr.push (.bl _))⟩
      · cases e
    · cases e
  · cases e
theorem prm_ne {G : Gd} : Prm G (l2 (rNeD G.K)) gNe := fun F H L cs vs c Q hr hc e hQ => by
  unfold gNe at e
  split at e
  · split at e
    · rename_i d d' q1 q2
      split at e
      · rename_i hz
        rw [Bool.and_eq_true] at hz
        obtain ⟨v1, v2, A1, A2, rfl, h1, h2⟩ := crs2 hc
        cases e
        exact ⟨d, d', (h1.rp hr.sub q1).dp (SeqAt.canLay_of_shaped hz.1), (h2.rp hr.sub q2).dp (SeqAt.canLay_of_shaped hz.2), hz.1, hz.2, hQ F H _ (Same.refl _) (hr.push (.bl _))⟩
      · cases e
    · cases e
  · cases e
theorem prm_eqN {G : Gd} : Prm G (l2 (rEqD G.K)) gEqN := fun F H L cs vs c Q hr hc e hQ => by
  have ⟨v1, v2, d, d', ev, r1, r2, z1, z2, ec⟩ := cmpN hr hc e
  cases ev
  cases ec
  exact ⟨d, d', r1.dp (SeqAt.canLay_of_shaped z1), r2.dp (SeqAt.canLay_of_shaped z2), z1, z2, hQ F H _ (Same.refl _) (hr.push (.bl _))⟩
theorem prm_neN {G : Gd} : Prm G (l2 (rNeD G.K)) gNeN := fun F H L cs vs c Q hr hc e hQ => by
  have ⟨v1, v2, d, d', ev, r1, r2, z1, z2, ec⟩ := cmpN hr hc e
  cases ev
  cases ec
  exact ⟨d, d', r1.dp (SeqAt.canLay_of_shaped z1), r2.dp (SeqAt.canLay_of_shaped z2), z1, z2, hQ F H _ (Same.refl _) (hr.push (.bl _))⟩
/-! ### is None -/
def isNoD : D → Bool
  | .none => true
  | _ => false
def gIsN : List Cl → Option Cl
  | [.fz d, .fz .none] => some (.fz (.bool (isNoD d)))
  | _ => none
def gNotN : List Cl → Option Cl
  | [.fz d, .fz .none] => some (.fz (.bool (!(isNoD d))))
  | _ => none
theorem rp_non {K : PySem.W.Frag} {F : Hp} {v : V} {d : D} (h : Rp K F v d) : decide (v = .non) = (isNoD d) := by
  cases h <;> rfl
theorem cr_non {G : Gd} {F H : Hp} {v : V} {A : List Addr} (h : G.CR F H (.fz .none) v A) : v = .non := by
  cases h with
  | fz r => cases r; rfl
theorem prm_isN {G : Gd} : Prm G (l2 fun x y H Q => y = .non ∧ Q (.bl (decide (x = .non))) H) gIsN := fun F H L cs vs c Q hr hc e hQ => by
  unfold gIsN at e
  split at e
  · obtain ⟨v1, v2, A1, A2, rfl, h1, h2⟩ := crs2 hc
    cases cr_non h2
    cases e
    refine ⟨rfl, ?_⟩
    rw [rp_non (h1.rpF rfl)]
    exact hQ F H _ (Same.refl _) (hr.push (.bl _))
  · cases e
theorem prm_notN {G : Gd} : Prm G (l2 fun x y H Q => y = .non ∧ Q (.bl (!decide (x = .non))) H) gNotN := fun F H L cs vs c Q hr hc e hQ => by
  unfold gNotN at e
  split at e
  · obtain ⟨v1, v2, A1, A2, rfl, h1, h2⟩ := crs2 hc
    cases cr_non h2
    cases e
    refine ⟨rfl, ?_⟩
    rw [rp_non (h1.rpF rfl)]
    exact hQ F H _ (Same.refl _) (hr.push (.bl _))
  · cases e
/-! ### subscripts -/
def gIx : List Cl → Option Cl
  | [c, .fz (.int i)] => match c.data with
    | some (.list ds) => (atI ds i).map .fz
    | some (.tuple ds) => (atI ds i).map .fz
    | some (.str z) => if z.length ≤ 10000000 then (atI z.cps.toList i).map fun c => .fz (.str ⟨#[c]⟩) else none
    | _ => none
  | _ => none
theorem atI_rp {K : PySem.W.Frag} {F : Hp} {vs : List V} {ds : List D} {i : Int} {d : D} (r : RpA K F vs ds) (h : atI ds i = some d) : ∃ v, atI vs i = some v ∧ Rp K F v d := by
  unfold atI at h ⊢
  rw [r.length]
  cases q : ixN ds.length i with
  | none => rw [q] at h; cases h
  | some j =>
    rw [q] at h
    exact r.get h
theorem prm_ix {G : Gd} : Prm G (l2 (rIx G.K)) gIx := fun F H L cs vs c Q hr hc e hQ => by
  unfold gIx at e
  split at e
  · obtain ⟨v1, v2, A1, A2, rfl, h1, h2⟩ := crs2 hc
    cases cr_int h2
    split at e
    · rename_i ds q
      obtain ⟨a, ws, rfl, q1, r1⟩ := h1.seqL hr.sub q
      rename_i i _
      cases q3 : atI ds i with
      | none => rw [q3] at e; cases e
      | some d =>
        rw [q3] at e
        cases e
        obtain ⟨v, q4, r4⟩ := atI_rp r1 q3
        exact .inl ⟨_, _, _, _, rfl, rfl, q1, q4, hQ F H _ (Same.refl _) (hr.push r4)⟩
    · rename_i ds q
      obtain ⟨a, ws, rfl, q1, r1⟩ := h1.seqT hr.sub q
      rename_i i _
      cases q3 : atI ds i with
      | none => rw [q3] at e; cases e
      | some d =>
        rw [q3] at e
        cases e
        obtain ⟨v, q4, r4⟩ := atI_rp r1 q3
        exact .inr (.inl ⟨_, _, _, _, rfl, rfl, sameT hr.sub q1, q4, hQ F H _ (Same.refl _) (hr.push r4)⟩)
    · rename_i z q
      have r := h1.rp hr.sub q
      cases r
      split at e
      · rename_i i hz
        have hz' : z.length ≤ 10000000 := by first | exact hz | exact i
        rename_i i2
        cases q3 : atI z.cps.toList i2 with
        | none => simp [q3] at e
        | some d =>
          simp only [q3, Option.map_some, Option.some.injEq] at e
          subst e
          exact .inr (.inr ⟨_, _, _, rfl, rfl, by rw [sizeLine_eq]; omega, q3, hQ F H _ (Same.refl _) (hr.push (.str _))⟩)
      · cases e
    · cases e
  · cases e
/-! ### built-in functions -/
def gLen : List Cl → Option Cl
  | [c] => match c.data with
    | some (.list ds) => some (.fz (.int ds.length))
    | some (.tuple ds) => some (.fz (.int ds.length))
    | some (.str z) => if z.length ≤ 10000000 then some (.fz (.int z.length)) else none
    | _ => none
  | _ => none
def rLenA (K : PySem.W.Frag) : List V → Hp → VK → Prop := fun xs H Q => (∃ p ys, xs = [.ref p] ∧ (SqL K H p ys ∨ SqT K H p ys) ∧ Q (.int ys.length) H) ∨ (∃ z, xs = [.str z] ∧ z.length ≤ sizeLine ∧ Q (.int z.length) H)
theorem call_lenA {X : Cx} : CallR X (.builtin "len") (rLenA X.K) := call_len_seq.or call_len_str
theorem prm_len {G : Gd} : Prm G (rLenA G.K) gLen := fun F H L cs vs c Q hr hc e hQ => by
  unfold gLen at e
  split at e
  · obtain ⟨v1, A1, rfl, h1⟩ := crs1 hc
    split at e
    · rename_i ds q
      cases e
      obtain ⟨a, ws, rfl, q1, r1⟩ := h1.seqL hr.sub q
      exact .inl ⟨_, _, rfl, .inl q1, by rw [r1.length]; exact hQ F H _ (Same.refl _) (hr.push (.int _))⟩
    · rename_i ds q
      cases e
      obtain ⟨a, ws, rfl, q1, r1⟩ := h1.seqT hr.sub q
      exact .inl ⟨_, _, rfl, .inr (sameT hr.sub q1), by rw [r1.length]; exact hQ F H _ (Same.refl _) (hr.push (.int _))⟩
    · rename_i z q
      have r := h1.rp hr.sub q
      cases r
      split at e
      · rename_i hz
        cases e
        exact .inr ⟨_, rfl, by rw [sizeLine_eq]; omega, hQ F H _ (Same.refl _) (hr.push (.int _))⟩
      · cases e
    · cases e
  · cases e
def gTuple : List Cl → Option Cl
  | [c] => match c.data with
    | some (.list ds) => some (.fz (.tuple ds))
    | some (.tuple ds) => some (.fz (.tuple ds))
    | _ => none
  | _ => none
def rTupA (K : PySem.W.Frag) : List V → Hp → VK → Prop := fun xs H Q => ∃ p ys, xs = [.ref p] ∧ ((SqL K H p ys ∧ ∀ l, H l = none → Q (.ref l) (upd H l (.tup ys))) ∨ (SqT K H p ys ∧ Q (.ref p) H))
theorem prm_tuple {G : Gd} : Prm G (rTupA G.K) gTuple := fun F H L cs vs c Q hr hc e hQ => by
  unfold gTuple at e
  split at e
  · obtain ⟨v1, A1, rfl, h1⟩ := crs1 hc
    split at e
    · rename_i ds q
      cases e
      obtain ⟨a, ws, rfl, q1, r1⟩ := h1.seqL hr.sub q
      refine ⟨_, _, rfl, .inl ⟨q1, fun p hp => ?_⟩⟩
      obtain ⟨F', s, q⟩ := HR.tupN hr hp r1
      exact hQ F' _ _ s q
    · rename_i ds q
      cases e
      obtain ⟨a, ws, rfl, q1, r1⟩ := h1.seqT hr.sub q
      exact ⟨_, _, rfl, .inr ⟨sameT hr.sub q1, hQ F H _ (Same.refl _) (hr.push (.tup q1 r1))⟩⟩
    · cases e
  · cases e
def gList : List Cl → Option Cl
  | [c] => match c.data with
    | some (.list ds) => some (.lst ds)
    | some (.tuple ds) => some (.lst ds)
    | _ => none
  | _ => none
def rListA (K : PySem.W.Frag) : List V → Hp → VK → Prop := fun xs H Q => ∃ p ys, xs = [.ref p] ∧ (SqL K H p ys ∨ SqT K H p ys) ∧ ∀ l, H l = none → Q (.ref l) (upd H l (.lst ys))
theorem prm_list {G : Gd} : Prm G (rListA G.K) gList := fun F H L cs vs c Q hr hc e hQ => by
  unfold gList at e
  split at e
  · obtain ⟨v1, A1, rfl, h1⟩ := crs1 hc
    split at e
    · rename_i ds q
      cases e
      obtain ⟨a, ws, rfl, q1, r1⟩ := h1.seqL hr.sub q
      exact ⟨_, _, rfl, .inl q1, fun p hp => hQ F _ _ (Same.refl _) (HR.lstN hr hp r1)⟩
    · rename_i ds q
      cases e
      obtain ⟨a, ws, rfl, q1, r1⟩ := h1.seqT hr.sub q
      exact ⟨_, _, rfl, .inr (sameT hr.sub q1), fun p hp => hQ F _ _ (Same.refl _) (HR.lstN hr hp r1)⟩
    · cases e
  · cases e
def gAbs : List Cl → Option Cl
  | [.fz (.int i)] => some (.fz (.int (if i < 0 then -i else i)))
  | _ => none
theorem prm_abs {G : Gd} : Prm G (fun xs H Q => ∃ i, xs = [.int i] ∧ Q (.int (if i < 0 then -i else i)) H) gAbs := fun F H L cs vs c Q hr hc e hQ => by
  unfold gAbs at e
  split at e
  · obtain ⟨v1, A1, rfl, h1⟩ := crs1 hc
    cases cr_int h1
    cases e
    exact ⟨_, rfl, hQ F H _ (Same.refl _) (hr.push (.int _))⟩
  · cases e
def gMax2 : List Cl → Option Cl
  | [.fz (.int i), .fz (.int j)] => some (.fz (.int (if j > i then j else i)))
  | _ => none
def gMin2 : List Cl → Option Cl
  | [.fz (.int i), .fz (.int j)] => some (.fz (.int (if j < i then j else i)))
  | _ => none
theorem prm_max2 {G : Gd} : Prm G (fun xs H Q => ∃ i j, xs = [.int i, .int j] ∧ Q (.int (if j > i then j else i)) H) gMax2 := fun F H L cs vs c Q hr hc e hQ => by
  unfold gMax2 at e
  split at e
  · obtain ⟨v1, v2, A1, A2, rfl, h1, h2⟩ := crs2 hc
    cases cr_int h1; cases cr_int h2
    cases e
    exact ⟨_, _, rfl, hQ F H _ (Same.refl _) (hr.push (.int _))⟩
  · cases e
theorem prm_min2 {G : Gd} : Prm G (fun xs H Q => ∃ i j, xs = [.int i, .int j] ∧ Q (.int (if j < i then j else i)) H) gMin2 := fun F H L cs vs c Q hr hc e hQ => by
  unfold gMin2 at e
  split at e
  · obtain ⟨v1, v2, A1, A2, rfl, h1, h2⟩ := crs2 hc
    cases cr_int h1; cases cr_int h2
    cases e
    exact ⟨_, _, rfl, hQ F H _ (Same.refl _) (hr.push (.int _))⟩
  · cases e
def gInt : List Cl → Option Cl
  | [.fz (.int i)] => some (.fz (.int i))
  | [.fz (.bool b)] => some (.fz (.int (if b then 1 else 0)))
  | _ => none
theorem prm_int {G : Gd} : Prm G (fun xs H Q => (∃ i, xs = [.int i] ∧ Q (.int i) H) ∨ ∃ k, xs = [.bl k] ∧ Q (.int (if k then 1 else 0)) H) gInt := fun F H L cs vs c Q hr hc e hQ => by
  unfold gInt at e
  split at e
  · obtain ⟨v1, A1, rfl, h1⟩ := crs1 hc
    cases cr_int h1
    cases e
    exact .inl ⟨_, rfl, hQ F H _ (Same.refl _) (hr.push (.int _))⟩
  · obtain ⟨v1, A1, rfl, h1⟩ := crs1 hc
    cases cr_bool h1
    cases e
    exact .inr ⟨_, rfl, hQ F H _ (Same.refl _) (hr.push (.int _))⟩
  · cases e
/-- the ints of a list -/
def intsD : List D → Option (List Int)
  | [] => some []
  | .int i :: ds => match intsD ds with
    | some ns => some (i :: ns)
    | none => none
  | _ :: _ => none
theorem intsD_ok : ∀ {ds : List D} {ns : List Int}, intsD ds = some ns → ds = ns.map PyData.int
  | [], ns, h => by cases h; rfl
  | .int i :: ds, ns, h => by
    unfold intsD at h
    cases q : intsD ds with
    | none => rw [q] at h; cases h
    | some ms =>
      rw [q] at h
      cases h
      rw [intsD_ok q]
      rfl
  | .none :: _, ns, h => by cases h
  | .bool _ :: _, ns, h => by cases h
  | .str _ :: _, ns, h => by cases h
  | .list _ :: _, ns, h => by cases h
  | .tuple _ :: _, ns, h => by cases h
  | .dict _ :: _, ns, h => by cases h
@[simp] theorem intsD_map : ∀ ns : List Int, intsD (ns.map PyData.int) = some ns
  | [] => rfl
  | n :: ns => by
    show (match intsD (ns.map PyData.int) with | some ms => some (n :: ms) | none => none) = _
    rw [intsD_map ns]
def boolsD : List D → Option (List Bool)
  | [] => some []
  | .bool i :: ds => match boolsD ds with
    | some ns => some (i :: ns)
    | none => none
  | _ :: _ => none
theorem boolsD_ok : ∀ {ds : List D} {ns : List Bool}, boolsD ds = some ns → ds = ns.map PyData.bool
  | [], ns, h => by cases h; rfl
  | .bool i :: ds, ns, h => by
    unfold boolsD at h
    cases q : boolsD ds with
    | none => rw [q] at h; cases h
    | some ms =>
      rw [q] at h
      cases h
      rw [boolsD_ok q]
      rfl
  | .none :: _, ns, h => by cases h
  | .int _ :: _, ns, h => by cases h
  | .str _ :: _, ns, h => by cases h
  | .list _ :: _, ns, h => by cases h
  | .tuple _ :: _, ns, h => by cases h
  | .dict _ :: _, ns, h => by cases h
@[simp] theorem boolsD_map : ∀ ns : List Bool, boolsD (ns.map PyData.bool) = some ns
  | [] => rfl
  | n :: ns => by
    show (match boolsD (ns.map PyData.bool) with | some ms => some (n :: ms) | none => none) = _
    rw [boolsD_map ns]
def gSum : List Cl → Option Cl
  | [c] => match c.data with
    | some (.list ds) => (intsD ds).map fun ns => .fz (.int ns.sum)
    | _ => none
  | _ => none
theorem prm_sum {G : Gd} : Prm G (rSum G.K) gSum := fun F H L cs vs c Q hr hc e hQ => by
  unfold gSum at e
  split at e
  · obtain ⟨v1, A1, rfl, h1⟩ := crs1 hc
    split at e
    · rename_i ds q
      obtain ⟨a, ws, rfl, q1, r1⟩ := h1.seqL hr.sub q
      cases q2 : intsD ds with
      | none => rw [q2] at e; cases e
      | some ns =>
        rw [q2] at e
        cases e
        have ed := intsD_ok q2
        subst ed
        have ew := r1.ints
        subst ew
        exact ⟨_, _, rfl, q1, hQ F H _ (Same.refl _) (hr.push (.int _))⟩
    · cases e
  · cases e
def gAll : List Cl → Option Cl
  | [c] => match c.data with
    | some (.list ds) => (boolsD ds).map fun ns => .fz (.bool (ns.all id))
    | _ => none
  | _ => none
def gAny : List Cl → Option Cl
  | [c] => match c.data with
    | some (.list ds) => (boolsD ds).map fun ns => .fz (.bool (ns.any id))
    | _ => none
  | _ => none
theorem prm_all {G : Gd} : Prm G (fun vs H Q => ∃ (a : Addr) (bs : List Bool), vs = [V.ref a] ∧ SqL G.K H a (bs.map V.bl) ∧ Q (.bl (bs.all id)) H) gAll := fun F H L cs vs c Q hr hc e hQ => by
  unfold gAll at e
  split at e
  · obtain ⟨v1, A1, rfl, h1⟩ := crs1 hc
    split at e
    · rename_i ds q
      obtain ⟨a, ws, rfl, q1, r1⟩ := h1.seqL hr.sub q
      cases q2 : boolsD ds with
      | none => rw [q2] at e; cases e
      | some ns =>
        rw [q2] at e
        cases e
        have ed := boolsD_ok q2
        subst ed
        have ew := r1.bools
        subst ew
        exact ⟨_, _, rfl, q1, hQ F H _ (Same.refl _) (hr.push (.bl _))⟩
    · cases e
  · cases e
theorem prm_any {G : Gd} : Prm G (fun vs H Q => ∃ (a : Addr) (bs : List Bool), vs = [V.ref a] ∧ SqL G.K H a (bs.map V.bl) ∧ Q (.bl (bs.any id)) H) gAny := fun F H L cs vs c Q hr hc e hQ => by
  unfold gAny at e
  split at e
  · obtain ⟨v1, A1, rfl, h1⟩ := crs1 hc
    split at e
    · rename_i ds q
      obtain ⟨a, ws, rfl, q1, r1⟩ := h1.seqL hr.sub q
      cases q2 : boolsD ds with
      | none => rw [q2] at e; cases e
      | some ns =>
        rw [q2] at e
        cases e
        have ed := boolsD_ok q2
        subst ed
        have ew := r1.bools
        subst ew
        exact ⟨_, _, rfl, q1, hQ F H _ (Same.refl _) (hr.push (.bl _))⟩
    · cases e
  · cases e
end L3

namespace L3
open PySem PySem.Spec L2

/-! ### error classes -/
/-- what the written part says of the error class at C -/
structure EcK (K : PySem.W.Frag) (C : Addr) : Prop where
  kp : PySem.W.keepIn K (.ref C) = true
  sub : PySem.W.subIn K (.ref C) (.type "BaseException") = some true
  ty : PySem.W.typeIn K (.ref C) = some (.type "type")
  cl : (PySem.W.clsIn K C).isSome = true
  hd : PySem.W.hasDictIn K C = true
  ga : PySem.W.findIn K (.ref C) "__getattribute__" = some (some (.builtin "BaseException.__getattribute__"))
  gg : PySem.W.findIn K (.ref C) "__getattr__" = some none
  ac : PySem.W.findIn K (.ref C) "__class__" = some (some (.builtin "object.__class__"))
  sp : PySem.W.specialIn K (.builtin "object.__class__") "__get__" = some (some (.builtin "getset_descriptor.__get__"))
  tk : PySem.W.takesIn K (.builtin "object.__class__") = some true
  mr : PySem.W.mroIn K C (.type "object") = some true
/-- one without an __init__ of its own -/
structure EcN (K : PySem.W.Frag) (C : Addr) : Prop extends EcK K C where
  ex : PySem.W.excIn K C [.type "ValueError", .type "Exception", .type "BaseException", .type "object"] "ValueError.__new__" = true
section
variable {X : Cx} {C : Addr}
theorem pmk_own0 {x : Str} {p pos : Pos} (T : EcN X.K C) (gC : X.mg x = some (.ref C)) (hg : Gl X x) (hdb : (x == ("__debug__" : Str)) = false) : PMk X (.Call (.Name x p) [] [] pos) (fun _ H Q => Q (.ref C) none H) := by
  intro pins s σ H Q I h
  refine wpAny_Call_Name_kw (ld_glob I hg gC ?_ hdb)
  refine PySem.W.callWith_K0 I.kIn T.kp ?_
  show wpAny _ _ (call (.ref C) []) _ _ _
  obtain ⟨bm, N, nm, qn, bs, hdct, sn, sub, ab, col, dd, k0, k1, k2, k3, k5, mN, hC, hN, hni, T'⟩ := exc_obj I.kIn T.ex
  refine wpAny_call_exc_subT PySem.F.excBase_ValueError T' hC hN hni (fun h' e hm => ?_) (by show 0 ≤ sizeLine; omega)
  exact mk_of I hm (raises_own T.sub T.ty) h (I.hok.gone hm.new)
end
section
variable {ι : Type} {G : Gd} {X : ι → Cx} {W : WX} {P : List Nat} {e : Expr} {es : List Expr} {pos : Pos}
def sRaise (c : Str) : FS := fun _ ρ => some (.ex ⟨c, []⟩ ρ)
theorem xs_raise0 {x : Str} {p p2 : Pos} {C : Addr} (hK : ∀ i, (X i).K = G.K) (hM : ∀ i, (X i).mg = G.mg) (hc : ∀ i, (X i).calm = true) (tk : ∀ i, Takes (X i) W) (T : EcN G.K C) (gC : G.mg x = some (.ref C)) (hg : ∀ i, Gl (X i) x) (hdb : (x == ("__debug__" : Str)) = false) :
    XS G X W P (.Raise (some (.Call (.Name x p) [] [] p2)) none pos) (sRaise x) :=
  ⟨_, fun i => ps_raise (hc i) (tk i) (pmk_own0 (by rw [hK i]; exact T) (by rw [hM i]; exact gC) (hg i) hdb), fun n ρ o eq F H σ T' D hR hP => by
    cases eq
    exact hP F H σ (.ref C) none (Same.refl _) hR (Kp.refl _) ⟨C, gC, rfl, .inl ⟨rfl, rfl⟩⟩⟩
/-- the promise of an __init__ that stores its arguments -/
def mkFs : List Str → List V → List (Str × V)
  | f :: fs, v :: vs => mkFs fs vs ++ [(f, v)]
  | _, _ => []
def mkFsD : List Str → List D → List (Str × D)
  | f :: fs, v :: vs => mkFsD fs vs ++ [(f, v)]
  | _, _ => []
theorem RpKs.append {K : PySem.W.Frag} {F : Hp} {κ : Type} : ∀ {a b : List (κ × V)} {c d : List (κ × D)}, RpKs K F a c → RpKs K F b d → RpKs K F (a ++ b) (c ++ d)
  | _, _, _, _, .nil, h => h
  | _, _, _, _, .cons h r, h' => .cons h (RpKs.append r h')
theorem mkFs_rp {K : PySem.W.Frag} {F : Hp} : ∀ (fs : List Str) {vs : List V} {ds : List D}, RpA K F vs ds → RpKs K F (mkFs fs vs) (mkFsD fs ds)
  | [], vs, ds, h => by cases h <;> exact .nil
  | f :: fs, _, _, .nil => .nil
  | f :: fs, _, _, .cons h r => RpKs.append (mkFs_rp fs r) (.cons h .nil)
def spInit (K : PySem.W.Frag) (fs : List Str) : Sp := fun vs H Q _ => ∃ (a C : Addr) (ws : List V), vs = .ref a :: ws ∧ ws.length = fs.length ∧ OexC K C ∧ (∀ f ∈ fs, PySem.W.findIn K (.ref C) f = some none) ∧ H a = some (exo a C none) ∧
  ∀ dx, H dx = none → dx ≠ a → Q .non (upd (upd H dx (exd dx (mkFs fs ws))) a (exo a C (some dx)))
/-- the class and its __init__ -/
structure EcI (P : Program) (w : World) (K : PySem.W.Frag) (mg : Str → Option Value) (base : Heap) (k : Nat) (C fI : Addr) (fd : FuncData) (fs : List Str) : Prop where
  ox : OexC K C
  ec : EcK K C
  noF : ∀ f ∈ fs, PySem.W.findIn K (.ref C) f = some none
  iC : PySem.W.findIn K (.ref C) "__init__" = some (some (.ref fI))
  tI : PySem.W.typeIn K (.ref fI) = some (.type "function")
  fn : FnOk P w K mg base (L2.CX P w) k fI fd ("self" :: fs) (spInit K fs)
  bi : Binds K fd ("self" :: fs) []
def sRaiseI (c : Str) (fs : List Str) (f : Fn (List Bv)) : FS := fun n ρ => bS (fFzs f n ρ) fun ds ρ1 => if ds.length = fs.length ∧ ds.length ≤ 100 then some (.ex ⟨c, mkFsD fs ds⟩ ρ1) else none
theorem xs_raiseI {x : Str} {p p2 : Pos} {C fI : Addr} {fd : FuncData} {k : Nat} {fs : List Str} {f : Fn (List Bv)} (hK : ∀ i, (X i).K = G.K) (hM : ∀ i, (X i).mg = G.mg) (hc : ∀ i, (X i).calm = true) (tk : ∀ i, Takes (X i) W) (T : ∀ i, EcI (X i).prog (X i).w (X i).K (X i).mg (X i).base k C fI fd fs) (hr : ∀ i, Room (k + 1) (X i).A)
    (gC : G.mg x = some (.ref C)) (hg : ∀ i, Gl (X i) x) (hdb : (x == ("__debug__" : Str)) = false) (ha : XBs G X W (e :: es) f) (he : ∀ i, starEach (e :: es) (X i).env = (false, eval e (X i).env) :: starEach es (X i).env) (hpl : ∀ i, (backTo p2 (starEach es (X i).env)).any (·.1) = false) :
    XS G X W P (.Raise (some (.Call (.Name x p) (e :: es) [] p2)) none pos) (sRaiseI x fs f) := by
  obtain ⟨t, h1, h2⟩ := ha
  by_cases hi : Nonempty ι
  case neg => exact ⟨fun _ _ _ => True, fun i => (hi ⟨i⟩).elim, fun _ _ _ _ _ _ _ _ _ _ _ => trivial⟩
  obtain ⟨i0⟩ := hi
  refine ⟨_, fun i => ps_raise (hc i) (tk i) (by
    have := pmk_oex (p := p) (sp := spInit (X i).K fs) (ds := []) (dvs := []) (T i).ox (T i).iC (T i).tI (T i).fn (hr i) (T i).bi .nil passL (hg i) (by rw [hM i]; exact gC) (h1 i) hdb (he i) (hpl i)
    rw [hK i] at this
    exact this), fun n ρ o eq F H σ T' D hR hP => ?_⟩
  have T0 := T i0
  unfold sRaiseI at eq
  cases q : fFzs f n ρ with
  | none => rw [q] at eq; cases eq
  | some r1 =>
    rw [q] at eq
    refine snd_fzs h2 n ρ r1 q F H σ T' _ hR ?_
    cases r1 with
    | ex x ρ' => cases eq; exact fun F' H' cls d s r xr => hP F' H' σ cls d s r (Kp.refl _) xr
    | ok ds ρ1 =>
      rw [bS_ok] at eq
      split at eq
      · rename_i hl
        cases eq
        intro F1 H1 vs s1 R1 r1
        have lv : vs.length = fs.length := by rw [r1.length]; exact hl.1
        refine ⟨by rw [r1.length]; exact Nat.le_trans hl.2 (by decide), fun a ha => ?_⟩
        rw [List.append_nil]
        refine ⟨a, C, vs, rfl, lv, by rw [← hK i0]; exact T0.ox, by rw [← hK i0]; exact T0.noF, upd_same, fun dx hd hne => ?_⟩
        have nda : H1 dx = none := by rw [upd_ne hne] at hd; exact hd
        refine ⟨rfl, dx, mkFs fs vs, upd_same, ?_, nda, ?_⟩
        · rw [upd_ne hne, upd_same]
        · have eH : upd (del (upd (upd (upd H1 a (exo a C none)) dx (exd dx (mkFs fs vs))) a (exo a C (some dx))) a) dx (.xd (mkFs fs vs)) = upd H1 dx (.xd (mkFs fs vs)) := by
            funext b
            by_cases hb : b = dx
            · subst hb; rw [upd_same, upd_same]
            · rw [upd_ne hb, upd_ne hb]
              by_cases hba : b = a
              · subst hba; rw [del_same]; exact ha.symm
              · rw [del_ne hba, upd_ne hba, upd_ne hb, upd_ne hba]
          rw [eH]
          obtain ⟨s2, q2⟩ := R1.hr.newF (o := .xd (mkFs fs vs)) nda
          exact hP _ _ σ (.ref C) (some dx) (s1.trans s2) ⟨q2, R1.ok⟩ (Kp.refl _) ⟨C, gC, rfl, .inr ⟨dx, _, rfl, upd_same, (mkFs_rp fs r1).mono s2⟩⟩
      · cases eq
end
/-! ### the __init__s -/
section
variable {P : Program} {w : World} {K : PySem.W.Frag} {mg : Str → Option Value} {base : Heap}
theorem init1_ok {qual : Str} {st : Stmt} {f : Addr} {fd : FuncData} {fn : Str} {p1 p2 p3 p4 : Pos} (F : Fun K "__init__" qual st f fd) (S : FnScope ["self", fn] ["self", fn] (defScope st)) (hb : defBody st = [.Assign [.Attribute (.Name "self" p1) fn p2] (.Name fn p3) p4])
    (v0 : Vis (defScope st) "self") (v1 : Vis (defScope st) fn) (hd : (fn == ("__debug__" : Str)) = false) (hcd : (fn == ("__classdict__" : Str)) = false) : FnOk P w K mg base (L2.CX P w) 1 f fd ["self", fn] (spInit K [fn]) := by
  refine F.okX S (fun vs H Q E h => ?_) fun cdv A outer s H vs Q E hr h => ?_
  · obtain ⟨a, C, ws, rfl, l, _⟩ := h
    exact congrArg (· + 1) l
  · obtain ⟨a, C, ws, rfl, l, T, no, ha, q⟩ := h
    obtain ⟨y, rfl⟩ : ∃ y, ws = [y] := by
      match ws, l with
      | [y], _ => exact ⟨y, rfl⟩
    rw [hb]
    refine ⟨_, pss_one (ps_ost (pe_var (i := 0) rfl v0) (pe_var (i := 1) rfl v1 hd hcd)), ?_⟩
    exact ⟨y, rfl, .ref a, rfl, a, C, rfl, T, no fn List.mem_cons_self, .inl ⟨ha, fun dx h1 h2 => q dx h1 h2⟩⟩
theorem init2_ok {qual : Str} {st : Stmt} {f : Addr} {fd : FuncData} {fn gn : Str} {p1 p2 p3 p4 q1 q2 q3 q4 : Pos} (F : Fun K "__init__" qual st f fd) (S : FnScope ["self", fn, gn] ["self", fn, gn] (defScope st)) (hb : defBody st = [.Assign [.Attribute (.Name "self" p1) fn p2] (.Name fn p3) p4, .Assign [.Attribute (.Name "self" q1) gn q2] (.Name gn q3) q4])
    (v0 : Vis (defScope st) "self") (v1 : Vis (defScope st) fn) (v2 : Vis (defScope st) gn) (hd : (fn == ("__debug__" : Str)) = false) (hcd : (fn == ("__classdict__" : Str)) = false) (hd2 : (gn == ("__debug__" : Str)) = false) (hcd2 : (gn == ("__classdict__" : Str)) = false) : FnOk P w K mg base (L2.CX P w) 1 f fd ["self", fn, gn] (spInit K [fn, gn]) := by
  refine F.okX S (fun vs H Q E h => ?_) fun cdv A outer s H vs Q E hr h => ?_
  · obtain ⟨a, C, ws, rfl, l, _⟩ := h
    exact congrArg (· + 1) l
  · obtain ⟨a, C, ws, rfl, l, T, no, ha, q⟩ := h
    obtain ⟨y, z, rfl⟩ : ∃ y z, ws = [y, z] := by
      match ws, l with
      | [y, z], _ => exact ⟨y, z, rfl⟩
    rw [hb]
    refine ⟨_, pss_cons (ps_ost (pe_var (i := 0) rfl v0) (pe_var (i := 1) rfl v1 hd hcd)) (pss_one (ps_ost (pe_var (i := 0) rfl v0) (pe_var (i := 2) rfl v2 hd2 hcd2))), ?_⟩
    refine ⟨y, rfl, .ref a, rfl, a, C, rfl, T, no fn List.mem_cons_self, .inl ⟨ha, fun dx h1 h2 => ?_⟩⟩
    refine ⟨z, rfl, .ref a, rfl, a, C, rfl, T, no gn (List.mem_cons_of_mem _ List.mem_cons_self), .inr ⟨dx, [(fn, y)], upd_same, ?_, (by show (1:Nat) ≤ 900; decide), ?_⟩⟩
    · rw [upd_ne h2, upd_same]
    · have eH : upd (upd (upd H dx (exd dx [(fn, y)])) a (exo a C (some dx))) dx (exd dx [(gn, z), (fn, y)]) = upd (upd H dx (exd dx (mkFs [fn, gn] [y, z]))) a (exo a C (some dx)) := by
        funext b
        by_cases hb : b = dx
        · subst hb; rw [upd_same, upd_ne h2, upd_same]; rfl
        · rw [upd_ne hb]
          by_cases hba : b = a
          · subst hba; rw [upd_same, upd_same]
          · rw [upd_ne hba, upd_ne hb, upd_ne hba, upd_ne hb]
      rw [eH]
      exact q dx h1 h2
end

/-! ### isinstance(x, T), T built-in -/
def tyD : D → Option String
  | .none => some "NoneType"
  | .bool _ => some "bool"
  | .int _ => some "int"
  | .str _ => some "str"
  | .list _ => some "list"
  | .tuple _ => some "tuple"
  | .dict _ => some "dict"
theorem ty_of {K : PySem.W.Frag} {H : Hp} {v : V} {d : D} (h : Rp K H v d) : ∃ T, tyD d = some T ∧ TyX K H v (.type T) := by
  cases h with
  | non => exact ⟨_, rfl, .base .non⟩
  | bl b => exact ⟨_, rfl, .base (.bl b)⟩
  | int b => exact ⟨_, rfl, .base (.int b)⟩
  | str b => exact ⟨_, rfl, .base (.str b)⟩
  | lst h r =>
    rcases h with (h | ⟨o, h⟩) | ⟨o, its, n, h1, h2, _⟩
    · exact ⟨_, rfl, .base (.lst h)⟩
    · exact ⟨_, rfl, .base (.frz h)⟩
    · exact ⟨_, rfl, .kList h1 h2⟩
  | tup h r =>
    rcases h.T with (h | ⟨o, h⟩) | ⟨o, its, n, h1, h2, _⟩
    · exact ⟨_, rfl, .base (.tup h)⟩
    · exact ⟨_, rfl, .fTuple h⟩
    · exact ⟨_, rfl, .kTuple h1 h2⟩
  | dct h r => exact ⟨_, rfl, .base (.dK h)⟩
def isiD (T : String) (d : D) : Option Bool := match tyD d with
  | some S => kitB S T
  | none => none
section
variable {ι : Type} {G : Gd} {X : ι → Cx} {W : WX} {e : Expr} {es : List Expr} {pos : Pos}
def fIsi (T : String) (f : Fn Bv) : Fn Cl := fun n ρ => bnd (fFz f n ρ) fun c ρ1 => match c with
  | .fz d => match isiD T d with
    | some b => some (.ok (.fz (.bool b)) ρ1)
    | none => none
  | _ => none
/-- the second argument is a built-in class by its name -/
theorem xe_isi {T : String} {x : Str} {p p2 : Pos} {f : Fn Bv} (hK : ∀ i, (X i).K = G.K) (hg : ∀ i, Gl (X i) "isinstance") (hm : ∀ i, (X i).mg "isinstance" = none) (hgT : ∀ i, Gl (X i) x) (hmT : ∀ i, (X i).mg x = none) (hv : bootBuiltins x = some (.type T)) (hx : x ≠ "__name__") (hxd : (x == ("__debug__" : Str)) = false) (ha : XB G X W e f)
    (hs1 : ∀ i, starEach [e, .Name x p2] (X i).env = (false, eval e (X i).env) :: starEach [.Name x p2] (X i).env) (hs2 : ∀ i, starEach [.Name x p2] (X i).env = (false, eval (.Name x p2) (X i).env) :: starEach [] (X i).env) (hpl : ∀ i, (backTo pos (starEach [.Name x p2] (X i).env)).any (·.1) = false) :
    XE G X W (.Call (.Name "isinstance" p) [e, .Name x p2] [] pos) (fIsi T f) := by
  obtain ⟨t, h1, h2⟩ := ha
  refine ⟨_, fun i => by
    have := pe_callB (x := "isinstance") (p := p) (pos := pos) call_isi (hg i) (hm i) (by decide +kernel) (pa_cons (h1 i) (pa_cons (pe_bltn (v := .ty T) (hgT i) (hmT i) hv rfl hx hxd) pa_nil (hs2 i)) (hs1 i)) (by decide) (by decide) (hs1 i) (hpl i)
    rw [hK i] at this
    exact this, fun n ρ r eq F H σ T' Q hR hP => ?_⟩
  unfold fIsi at eq
  cases q : fFz f n ρ with
  | none => rw [q] at eq; cases eq
  | some r1 =>
    rw [q] at eq
    refine snd_fz h2 n ρ r1 q F H σ T' _ hR ?_
    cases r1 with
    | ex x ρ' => cases eq; exact hP
    | ok c ρ1 =>
      rw [bnd_ok] at eq
      intro F1 H1 v s1 R1
      split at eq
      · rename_i d
        split at eq
        · rename_i b qb
          cases eq
          obtain ⟨S, q1, q2⟩ := ty_of (R1.rp.mono R1.sub)
          unfold isiD at qb
          rw [q1] at qb
          exact ⟨v, .ty T, _, _, b, rfl, .ty T, q2, kit_ty qb, hP F1 H1 _ s1 (R1.tail.push (.bl b))⟩
        · cases eq
      · cases eq
end

/-! ### slices -/
section
variable {X : Cx}
def cutD {α : Type} (xs : List α) (lo hi : Option Int) : List α := (xs.drop (HT.sIx xs.length 0 lo)).take (HT.sIx xs.length xs.length hi - HT.sIx xs.length 0 lo)
def rSlA (K : PySem.W.Frag) : V → Option Int → Option Int → Hp → VK → Prop := fun x lo hi H Q => rSlL K x lo hi H Q ∨ rSlT K x lo hi H Q ∨ rSlS x lo hi H Q
theorem sl_any : SlR X (rSlA X.K) := sl_list.or (sl_tup.or sl_str)
theorem cut_rp {K : PySem.W.Frag} {F : Hp} {vs : List V} {ds : List D} (r : RpA K F vs ds) (lo hi : Option Int) : RpA K F (cutV vs lo hi) (cutD ds lo hi) := by
  unfold cutV cutD
  rw [r.length]
  exact (r.drop _).take _
end
def asO (d : Option D) : Option (Option Int) := match d with
  | none => some none
  | some (.int i) => some (some i)
  | _ => none
def gSl (lo hi : Option Int) (c : Cl) : Option Cl := match c.data with
  | some (.list ds) => some (.lst (cutD ds lo hi))
  | some (.tuple ds) => if HT.sIx ds.length 0 lo = 0 ∧ HT.sIx ds.length ds.length hi = ds.length then none else some (.fz (.tuple (cutD ds lo hi)))
  | some (.str z) => if z.length ≤ 10000000 then some (.fz (.str (cutS z lo hi))) else none
  | _ => none
section
variable {ι : Type} {G : Gd} {X : ι → Cx} {W : WX} {e l u : Expr} {pos p2 : Pos}
theorem sl_go {F H : Hp} {L : List (Cl × V)} {c c' : Cl} {v : V} {lo hi : Option Int} {Q : VK} (hr : G.HR F H L) (hc : ∃ A, G.CR F H c v A) (e : gSl lo hi c = some c') (hQ : ∀ F' H' v, Same F F' → G.HR F' H' ((c', v) :: L) → Q v H') : rSlA G.K v lo hi H Q := by
  obtain ⟨A, h1⟩ := hc
  unfold gSl at e
  split at e
  · rename_i ds q
    cases e
    obtain ⟨a, ws, rfl, q1, r1⟩ := h1.seqL hr.sub q
    exact .inl ⟨_, _, rfl, q1, fun p hp => hQ F _ _ (Same.refl _) (HR.lstN hr hp (cut_rp r1 lo hi))⟩
  · rename_i ds q
    obtain ⟨a, ws, rfl, q1, r1⟩ := h1.seqT hr.sub q
    split at e
    · cases e
    · rename_i hn
      cases e
      refine .inr (.inl ⟨_, _, rfl, sameT hr.sub q1, by rw [r1.length]; exact hn, fun p hp => ?_⟩)
      obtain ⟨F', s, q⟩ := HR.tupN hr hp (cut_rp r1 lo hi)
      exact hQ F' _ _ s q
  · rename_i z q
    have r := h1.rp hr.sub q
    cases r
    split at e
    · rename_i hz
      cases e
      exact .inr (.inr ⟨_, rfl, by rw [sizeLine_eq]; omega, hQ F H _ (Same.refl _) (hr.push (.str _))⟩)
    · cases e
  · cases e
/-- e[l:] -/
def fSlL (f g : Fn Bv) : Fn Cl := fun n ρ => bnd (f n ρ) fun b ρ1 => bnd (fFz g n ρ1) fun c ρ2 => match c, lk ρ2 b with
  | .fz (.int i), some cb => match gSl (some i) none cb with
    | some c' => some (.ok c' ρ2)
    | none => none
  | _, _ => none
/-- e[:u] -/
def fSlU (f g : Fn Bv) : Fn Cl := fun n ρ => bnd (f n ρ) fun b ρ1 => bnd (fFz g n ρ1) fun c ρ2 => match c, lk ρ2 b with
  | .fz (.int i), some cb => match gSl none (some i) cb with
    | some c' => some (.ok c' ρ2)
    | none => none
  | _, _ => none
theorem sl_one {t tu : TE} {f g : Fn Bv} (h : SndB G W t f) (h' : SndB G W tu g) (n : Nat) (ρ : En) (r : Rz Cl) {k : Int → Option Int × Option Int}
    (eq : (bnd (f n ρ) fun b ρ1 => bnd (fFz g n ρ1) fun c ρ2 => match c, lk ρ2 b with
      | .fz (.int i), some cb => match gSl (k i).1 (k i).2 cb with
        | some c' => some (.ok c' ρ2)
        | none => none
      | _, _ => none) = some r) (F H : Hp) (σ : L2.St) (T : List (Cl × V)) (Q : VK) (hR : G.R F H ρ σ T) (hP : PoE G W F σ T Q r) :
    t σ H fun x H1 => tu σ H1 fun y H2 => ∃ i, y = .int i ∧ rSlA G.K x (k i).1 (k i).2 H2 Q := by
  cases q : f n ρ with
  | none => rw [q] at eq; cases eq
  | some r1 =>
    rw [q] at eq
    refine h n ρ r1 q F H σ T _ hR ?_
    cases r1 with
    | ex x ρ' => cases eq; exact hP
    | ok b ρ1 =>
      rw [bnd_ok] at eq
      intro F1 H1 v s1 R1 v1
      cases q2 : fFz g n ρ1 with
      | none => rw [q2] at eq; cases eq
      | some r2 =>
        rw [q2] at eq
        refine snd_fz h' n ρ1 r2 q2 F1 H1 σ _ _ R1 ?_
        cases r2 with
        | ex x ρ' => cases eq; exact PoX.dropT hP s1
        | ok c ρ2 =>
          rw [bnd_ok] at eq
          intro F2 H2 y s2 R2
          split at eq
          · rename_i i cb qb
            split at eq
            · rename_i c' qc
              cases eq
              have ry := R2.rp
              cases ry
              have cr := bv_cr (b := b) (v := v) R2.tail (fun x hx => by
                cases b with
                | pl j => cases hx
                | vl c0 => rw [List.mem_singleton.mp hx]; exact List.mem_cons_self) v1 qb
              have R3 : G.R F2 H2 ρ2 σ T := bvT_drop b v R2.tail
              exact ⟨i, rfl, sl_go R3.hr cr qc fun F' H' v' s' h' => hP F' H' v' ((s1.trans s2).trans s') (.mk' h' R3.ok)⟩
            · cases eq
          · cases eq
theorem xe_slL {f g : Fn Bv} (hK : ∀ i, (X i).K = G.K) (h : XB G X W e f) (h' : XB G X W l g) : XE G X W (.Subscript e (.Slice (some l) none none p2) pos) (fSlL f g) := by
  obtain ⟨t, a1, a2⟩ := h
  obtain ⟨tu, b1, b2⟩ := h'
  refine ⟨_, fun i => by have := pe_slice (X := X i) (pos := pos) (p2 := p2) sl_any (a1 i) (po_some (b1 i)) po_none; rw [hK i] at this; exact this, fun n ρ r eq F H σ T Q hR hP => ?_⟩
  exact sl_one a2 b2 n ρ r (k := fun i => (some i, none)) eq F H σ T Q hR hP
theorem xe_slU {f g : Fn Bv} (hK : ∀ i, (X i).K = G.K) (h : XB G X W e f) (h' : XB G X W u g) : XE G X W (.Subscript e (.Slice none (some u) none p2) pos) (fSlU f g) := by
  obtain ⟨t, a1, a2⟩ := h
  obtain ⟨tu, b1, b2⟩ := h'
  refine ⟨_, fun i => by have := pe_slice (X := X i) (pos := pos) (p2 := p2) sl_any (a1 i) po_none (po_some (b1 i)); rw [hK i] at this; exact this, fun n ρ r eq F H σ T Q hR hP => ?_⟩
  exact sl_one a2 b2 n ρ r (k := fun i => (none, some i)) eq F H σ T Q hR hP
end
/-! ### stars in displays -/
section
variable {ι : Type} {G : Gd} {X : ι → Cx} {W : WX} {e : Expr} {es : List Expr} {pos : Pos}
/-- display items: frozen data, a star's items spliced -/
def XDs (G : Gd) (X : ι → Cx) (W : WX) (es : List Expr) (f : Fn (List D)) : Prop := ∃ t : TA, (∀ i, PA (X i) es t) ∧ ∀ n ρ r, f n ρ = some r → ∀ F H σ T Q, G.R F H ρ σ T → PoFs G W F σ T Q r → t σ H Q
def dNil : Fn (List D) := fun _ ρ => some (.ok [] ρ)
def dCons (f : Fn Bv) (g : Fn (List D)) : Fn (List D) := fun n ρ => bnd (fFz f n ρ) fun c ρ1 => match c with
  | .fz d => bnd (g n ρ1) fun ds ρ2 => some (.ok (d :: ds) ρ2)
  | _ => none
def dStar (f : Fn Bv) (g : Fn (List D)) : Fn (List D) := fun n ρ => bnd (fFz f n ρ) fun c ρ1 => match c with
  | .fz d => match asSeq d with
    | some xs => bnd (g n ρ1) fun ds ρ2 => some (.ok (xs ++ ds) ρ2)
    | none => none
  | _ => none
theorem xds_nil : XDs G X W [] dNil := ⟨_, fun _ => pa_nil, fun n ρ r e F H σ T Q hR hP => by
  cases e
  exact hP F H [] (Same.refl _) hR .nil⟩
theorem xds_cons {f : Fn Bv} {g : Fn (List D)} (h : XB G X W e f) (h' : XDs G X W es g) (hs : ∀ i, starEach (e :: es) (X i).env = (false, eval e (X i).env) :: starEach es (X i).env) : XDs G X W (e :: es) (dCons f g) := by
  obtain ⟨t, a1, a2⟩ := h
  obtain ⟨u, b1, b2⟩ := h'
  refine ⟨_, fun i => pa_cons (a1 i) (b1 i) (hs i), fun n ρ r eq F H σ T Q hR hP => ?_⟩
  unfold dCons at eq
  cases q : fFz f n ρ with
  | none => rw [q] at eq; cases eq
  | some r1 =>
    rw [q] at eq
    refine snd_fz a2 n ρ r1 q F H σ T _ hR ?_
    cases r1 with
    | ex x ρ' => cases eq; exact hP
    | ok c ρ1 =>
      rw [bnd_ok] at eq
      intro F1 H1 v s1 R1
      split at eq
      · rename_i d
        have rv := R1.rp
        cases q2 : g n ρ1 with
        | none => rw [q2] at eq; cases eq
        | some r2 =>
          rw [q2] at eq
          refine b2 n ρ1 r2 q2 F1 H1 σ T _ R1.tail ?_
          cases r2 with
          | ex x ρ' => cases eq; exact PoX.mono hP s1
          | ok ds ρ2 =>
            cases eq
            exact fun F2 H2 vs s2 R2 r2 => hP F2 H2 _ (s1.trans s2) R2 (.cons (rv.mono s2) r2)
      · cases eq
theorem xds_star {f : Fn Bv} {g : Fn (List D)} {p : Pos} (hK : ∀ i, (X i).K = G.K) (h : XB G X W e f) (h' : XDs G X W es g) (hp : ∀ t u, (∀ i, PE (X i) e t) → (∀ i, PA (X i) es u) → ∀ i, PA (X i) (.Starred e p :: es) (fun σ H Q => t σ H fun x H1 => ∃ p xs, x = V.ref p ∧ (SqT (X i).K H1 p xs ∨ SqL (X i).K H1 p xs) ∧ u σ H1 fun ys H2 => Q (xs ++ ys) H2)) : XDs G X W (.Starred e p :: es) (dStar f g) := by
  obtain ⟨t, a1, a2⟩ := h
  obtain ⟨u, b1, b2⟩ := h'
  refine ⟨_, fun i => by have := hp t u a1 b1 i; rw [hK i] at this; exact this, fun n ρ r eq F H σ T Q hR hP => ?_⟩
  unfold dStar at eq
  cases q : fFz f n ρ with
  | none => rw [q] at eq; cases eq
  | some r1 =>
    rw [q] at eq
    refine snd_fz a2 n ρ r1 q F H σ T _ hR ?_
    cases r1 with
    | ex x ρ' => cases eq; exact hP
    | ok c ρ1 =>
      rw [bnd_ok] at eq
      intro F1 H1 v s1 R1
      split at eq
      · rename_i d
        have rv := R1.rp
        have fin : ∀ {xs : List D} {vs : List V} {a : Addr}, v = .ref a → (SqT G.K H1 a vs ∨ SqL G.K H1 a vs) → RpA G.K F1 vs xs → (bnd (g n ρ1) fun ds ρ2 => some (.ok (xs ++ ds) ρ2)) = some r → ∃ p ys, v = V.ref p ∧ (SqT G.K H1 p ys ∨ SqL G.K H1 p ys) ∧ u σ H1 fun zs H2 => Q (ys ++ zs) H2 := fun {xs vs a} ev hs rr eq => by
          refine ⟨a, vs, ev, hs, ?_⟩
          cases q2 : g n ρ1 with
          | none => rw [q2] at eq; cases eq
          | some r2 =>
            rw [q2] at eq
            refine b2 n ρ1 r2 q2 F1 H1 σ T _ R1.tail ?_
            cases r2 with
            | ex x ρ' => cases eq; exact PoX.mono hP s1
            | ok ds ρ2 =>
              cases eq
              exact fun F2 H2 vs s2 R2 r2 => hP F2 H2 _ (s1.trans s2) R2 ((rr.mono s2).append r2)
        cases rv with
        | lst h r => exact fin rfl (.inr (R1.sub.seq h)) r eq
        | tup h r => exact fin rfl (.inl (sameT R1.sub h)) r eq
        | _ => cases eq
      · cases eq
def fLstD (f : Fn (List D)) : Fn Cl := fun n ρ => bnd (f n ρ) fun ds ρ1 => if lsz ds.length = true then some (.ok (.lst ds) ρ1) else none
def fTupD (f : Fn (List D)) : Fn Cl := fun n ρ => bnd (f n ρ) fun ds ρ1 => if lsz ds.length = true then some (.ok (.fz (.tuple ds)) ρ1) else none
theorem xe_lstD {f : Fn (List D)} (h : XDs G X W es f) : XE G X W (.List es pos) (fLstD f) := by
  obtain ⟨t, a1, a2⟩ := h
  refine ⟨_, fun i => pe_lst (a1 i), fun n ρ r eq F H σ T Q hR hP => ?_⟩
  unfold fLstD at eq
  cases q : f n ρ with
  | none => rw [q] at eq; cases eq
  | some r1 =>
    rw [q] at eq
    refine a2 n ρ r1 q F H σ T _ hR ?_
    cases r1 with
    | ex x ρ' => cases eq; exact hP
    | ok ds ρ1 =>
      rw [bnd_ok] at eq
      split at eq
      · rename_i hz
        cases eq
        exact fun F1 H1 vs s1 R1 r1 => ⟨by rw [r1.length]; exact lsz_ok hz, fun p hp => hP _ _ _ s1 (R.newLst R1 hp r1)⟩
      · cases eq
theorem xe_tupD {f : Fn (List D)} {k : Nat} (h : XDs G X W es f) : XE G X W (.Tuple es k pos) (fTupD f) := by
  obtain ⟨t, a1, a2⟩ := h
  refine ⟨_, fun i => pe_tup (a1 i), fun n ρ r eq F H σ T Q hR hP => ?_⟩
  unfold fTupD at eq
  cases q : f n ρ with
  | none => rw [q] at eq; cases eq
  | some r1 =>
    rw [q] at eq
    refine a2 n ρ r1 q F H σ T _ hR ?_
    cases r1 with
    | ex x ρ' => cases eq; exact hP
    | ok ds ρ1 =>
      rw [bnd_ok] at eq
      split at eq
      · rename_i hz
        cases eq
        exact fun F1 H1 vs s1 R1 r1 => ⟨by rw [r1.length]; exact lsz_ok hz, fun p hp => let ⟨s2, R2⟩ := R.newTup R1 hp r1; hP _ _ _ (s1.trans s2) R2⟩
      · cases eq
end
end L3

set_option maxHeartbeats 1000000
namespace L2
open PySem PySem.Spec PyProof.Rows
/-! ### an exception of the body that has come to the handlers of this frame -/
/-- it flies over B; here the invariant holds, and it is no object of ours -/
structure Cau (X : Cx) (B : Heap) (pins : List (Addr × Obj)) (σ : St) (H : Hp) (a : Addr) (cls : Value) (d : Option Addr) (t : Shared) : Prop where
  inv : Inv X pins σ H t
  fly : HandSPX.FlyingZ B (X.env :: X.outer) a (Zc cls d) t.heap
  na : H a = none
section
variable {X : Cx} {B : Heap} {pins : List (Addr × Obj)} {σ : St} {H : Hp} {a : Addr} {cls : Value} {d : Option Addr} {t : Shared}
/-- it is none of the frames that stand -/
theorem Cau.off (C : Cau X B pins σ H a cls d t) : a ∉ frs (X.env :: X.outer) := fun hm => by
  have ⟨_, _, e, _, dd⟩ := C.fly.there
  have ⟨_, _, e', no⟩ := C.fly.2.2.1.mem hm
  cases e.symm.trans e'
  exact no _ dd
theorem Cau.offL (C : Cau X B pins σ H a cls d t) (hf : X.env.frame = some X.env.locals) : a ≠ X.env.locals := fun z =>
  C.off (by rw [z]; unfold frs; rw [List.filterMap_cons, hf]; exact List.mem_cons_self)
theorem Cau.offF (C : Cau X B pins σ H a cls d t) : a ∉ X.fs := fun hm => C.off (by unfold Cx.fs at hm; unfold frs at hm ⊢; cases q : X.env.frame with | none => rw [List.filterMap_cons, q]; exact hm | some f => rw [List.filterMap_cons, q]; exact List.mem_cons_of_mem _ hm)
/-- inside the suite of a clause that takes it -/
theorem Cau.open_ (C : Cau X B pins σ H a cls d t) (hf : X.env.frame = some X.env.locals) : ∃ oe, t.heap.get? a = some oe ∧ Zc cls d oe ∧ (∃ vs, oe.data = .fields vs) ∧ Inv (X.suite a ((a, oe) :: (X.pn ++ pins))) [] σ H t := by
  have ⟨oe, vs, e, z, dd⟩ := C.fly.there
  exact ⟨oe, e, z, ⟨vs, dd⟩, C.inv.suite e dd C.na (C.offL hf) C.offF⟩
end
end L2

set_option maxHeartbeats 1000000
namespace L2
open PySem PySem.Spec PyProof.Rows
/-- isinstance(e, c), e the exception that the suite holds; its dict may stand -/
def rIsF (K : PySem.W.Frag) (D : Addr) (d : Option Addr) (a : Addr) : List V → Hp → VK → Prop := fun xs H Q => ∃ (c : V) (cv : Value) (b : Bool), xs = [.ref a, c] ∧ (∀ u, RelV c u → u = cv) ∧ PySem.W.kitOne K (.ref D) cv = some b ∧ (d = none ∨ ∃ dd fs, d = some dd ∧ H dd = some (.xd fs)) ∧ Q (.bl b) H
theorem call_isF {X : Cx} {a D : Addr} {d : Option Addr} {oe : Obj} {pn : List (Addr × Obj)} (C : L3.EcK X.K D) (hz : Zc (.ref D) d oe) (hf : ∃ vs, oe.data = .fields vs) : CallR (X.suite a ((a, oe) :: pn)) (.builtin "isinstance") (rIsF X.K D d a) := by
  rintro pins s σ H _ us Q I rel ⟨c, cv, b, rfl, only, kit, d0, q⟩
  cases rel with | cons rx rel => ?_
  cases rel with | cons rt rel => ?_
  cases rel; cases rx
  cases only _ rt
  have at_ := (I.pin (a, oe) (.head _)).1
  have nc : PySem.W.notCls oe := hf.elim fun _ e => by unfold PySem.W.notCls; rw [e] <;> rfl
  have ⟨_, J⟩ : ∃ od, PySem.W.InstAt s.heap a oe D od := by
    rcases d0 with e | ⟨dx, fs, e, xd⟩
    · exact ⟨none, at_, hz.1, nc, by rw [hz.2, e]; trivial⟩
    · have ⟨m, ns, _⟩ : ObjOk X.prog X.w H s.heap dx (.xd fs) := I.hok dx _ xd
      exact (lookIn_ns ns).imp' some fun od w => ⟨at_, hz.1, nc, by rw [hz.2, e]; exact w.1⟩
  exact PySem.W.kia_one (PySem.W.kitx_exc C.cl C.ga C.gg C.sub C.ac C.sp C.tk C.mr) I.kIn J kit (fun z => nomatch z) fun tk => ⟨.bl b, H, I.kept (t' := tk) fun _ _ z => z, rfl, q⟩
/-! ### several clauses, each 'except c as n' -/
/-- the ends seen through the going of slot i -/
def Ends.gone (D : Ends) (i : Nat) : Ends := { nx := fun σ' H' => D.nx (σ'.set i none) H', rt := D.rt, bk := fun σ' H' => D.bk (σ'.set i none) H', ct := fun σ' H' => D.ct (σ'.set i none) H' }
def wManyAs (K : PySem.W.Frag) (i : Nat) (Wout : WX) (D : Ends) : List (Value × (Addr → Value → Option Addr → TS)) → WX
  | [] => Wout
  | (c, ts) :: r => fun cls d σ H => ∃ b, PySem.W.exmOne K cls c = some b ∧ (b = true → ∀ a, H a = none → ts a cls d (D.gone i) (σ.set i (some (.ref a))) H) ∧ (b = false → wManyAs K i Wout D r cls d σ H)
inductive HdsAs (X : Cx) (n : Str) : List ExceptHandler → List (Value × (Addr → Value → Option Addr → TS)) → Prop
  | nil : HdsAs X n [] []
  | cons {x : Str} {c : Value} {ts : Addr → Value → Option Addr → TS} {b₀ : Stmt} {suite : List Stmt} {np pos' : Pos} {hds : List ExceptHandler} {l : List (Value × (Addr → Value → Option Addr → TS))} (hc : Names X x c)
      (hsu : ∀ (a : Addr) (oe : Obj) (cls : Value) (d : Option Addr) (pn : List (Addr × Obj)), Zc cls d oe → (∃ vs, oe.data = .fields vs) → PSs (X.suite a ((a, oe) :: pn)) (b₀ :: suite) (ts a cls d)) (r : HdsAs X n hds l) :
      HdsAs X n (.ExceptHandler (some (.Name x np)) (some n) (b₀ :: suite) pos' :: hds) ((c, ts) :: l)
section
variable {X : Cx} {n : Str} {i : Nat} {body : List Stmt} {h₀ : ExceptHandler} {hds : List ExceptHandler} {l : List (Value × (Addr → Value → Option Addr → TS))} {pos : Pos} {tb : WX → TS} {Wout : WX}
/-- the clauses, one after the other, at a caught one: each is one of the library's clause rules -/
theorem clauses_ok {B : Heap} {pins : List (Addr × Obj)} {σ : St} {H : Hp} {a : Addr} {cls : Value} {d : Option Addr} {D : Ends} (hf : X.env.frame = some X.env.locals) (hN : X.N.Nodup) (hi : X.N[i]? = some n) (hln : X.env.kindOf n = some .local)
    {hds : List ExceptHandler} {l : List (Value × (Addr → Value → Option Addr → TS))} (hk : HdsAs X n hds l) :
    ∀ {t : Shared}, Cau X B pins σ H a cls d t → (∀ h', HandSPX.FlyingZ B (X.env :: X.outer) a (Zc cls d) h' → t.heap.UpToSlots h' → Cau X B pins σ H a cls d { t with heap := h' }) →
      (∀ h', HandSPX.HeldZ B (X.env :: X.outer) a (Zc cls d) X.env.locals h' → t.heap.UpToSlots h' → Wout cls d σ H → X.xe (.ref a) { t with heap := h' }) →
      wManyAs X.K i Wout D l cls d σ H → wpAny (model X.prog X.w) X.A (handleBy (.ref a) X.env hds) (SP X pins D) X.xe t := by
  induction hk with
  | nil => exact fun C _ out w => PX.no_clauseZ hf C.fly fun h' hh up => out h' hh up w
  | @cons x c ts b₀ suite np pos' hds2 l2 hc hsu _ ih =>
    intro t C again out ⟨b, hm, yes, no⟩
    have ⟨oe, _, _, _, S⟩ := C.open_ hf
    have test : ∀ {Q : Value → Shared → Prop} {E : Value → Shared → Prop}, Q c t → wpAny (model X.prog X.w) (X.A.mark (some (.ref a))) (eval (.Name x np) X.env) Q E t := fun q => by
      rcases hc with ⟨hg, hdb, hm | ⟨hm, hv, hn⟩⟩
      · exact ld_glob S hg hm q hdb
      · exact ld_blt S hg hm hv q hn hdb
    cases b with
    | false => exact PX.clause_passZ C.inv.kIn (fun _ z => z.1) C.fly hm test (ih C again out (no rfl))
    | true =>
      refine PX.clause_asZ C.inv.kIn (fun _ z => z.1) C.fly hm test fun h' fl up => ?_
      have ⟨oe, _, z, dd, S⟩ := (again h' fl up).open_ hf
      refine store_ok (X := X.suite a ((a, oe) :: (X.pn ++ pins))) S hN hi (.inl hln) (v := .ref a) rfl (fun s5 S5 => wpAny_mono ((hsu a oe cls d _ z dd).run [] s5 _ H _ S5 (yes rfl a C.na)) (fun f s6 e => ?_) fun _ _ z => z.elim) (.inr hln)
      cases f with
      | ret u => have ⟨v, σ', H', S6, r, q⟩ := e; exact gone_ok (S6.unsuite C.inv.ok) hN hi hln fun _ J => ⟨v, _, _, J, r, q⟩
      | next => have ⟨σ', H', S6, q⟩ := e; exact gone_ok (S6.unsuite C.inv.ok) hN hi hln fun _ J => ⟨_, _, J, q⟩
      | brk => have ⟨σ', H', S6, q⟩ := e; exact gone_ok (S6.unsuite C.inv.ok) hN hi hln fun _ J => ⟨_, _, J, q⟩
      | cont => have ⟨σ', H', S6, q⟩ := e; exact gone_ok (S6.unsuite C.inv.ok) hN hi hln fun _ J => ⟨_, _, J, q⟩
theorem ps_try_manyAs (hs : X.stack = X.env :: X.outer) (hf : X.env.frame = some X.env.locals) (hN : X.N.Nodup) (hi : X.N[i]? = some n) (hln : X.env.kindOf n = some .local) (tk : Takes X Wout)
    (hb : ∀ (W : WX) (pn : List (Addr × Obj)) (xe : Value → Shared → Prop), Takes (X.tr pn xe) W → PassesOwn (model X.prog X.w) X.A X.env xe → PSs (X.tr pn xe) body (tb W))
    (hh : HdsAs X n (h₀ :: hds) l) : PS X (.Try body (h₀ :: hds) [] [] pos) (fun D σ H => tb (wManyAs X.K i Wout D l) D σ H) where
  run pins s σ H D I h := by
    have ok := I.ok
    have fr : X.A.frames = some (X.env :: X.outer) := ok.frames.trans (congrArg some hs)
    refine wpAny_Try_except (wpAny_mono ((hb (wManyAs X.K i Wout D l) (X.pn ++ pins) _ ?_ PassesOwn.looking).run [] s σ H D (I.toTry _) h) ?_ fun _ _ he => he)
    · rintro u st ⟨a, B, sI, _, σ', H', cls, d, rfl, J, nb, up, sky, na, os, ag, w⟩
      have J := Inv.ofTry (pins := pins) J ok
      refine Sky.land Zc.steady fr hf (hs ▸ sky) fun h3 fl up3 => ?_
      have land : ∀ h', HandSPX.FlyingZ B (X.env :: X.outer) a (Zc cls d) h' → st.heap.UpToSlots h' → Cau X B pins σ' H' a cls d { st with heap := h' } := fun h' f u => ⟨J.landed nb f.1 (up.trans u) os ag, f, na⟩
      exact clauses_ok hf hN hi hln hh (land h3 fl up3) (fun h' f u => land h' f (up3.trans u)) (fun h' hd u w => tk _ _ ⟨a, B, sI, pins, σ', H', cls, d, rfl, J, nb, up.trans (up3.trans u), .inr (.inr (hs ▸ hd)), na, os, ag, w⟩) w
    · intro f st e
      cases f with
      | ret u => have ⟨v, σ', H', J, r, q⟩ := e; exact ⟨v, σ', H', J.ofTry ok, r, q⟩
      | next => have ⟨σ', H', J, q⟩ := e; exact wpAny_execs_nil ⟨σ', H', J.ofTry ok, q⟩
      | brk => have ⟨σ', H', J, q⟩ := e; exact ⟨σ', H', J.ofTry ok, q⟩
      | cont => have ⟨σ', H', J, q⟩ := e; exact ⟨σ', H', J.ofTry ok, q⟩
end
end L2
namespace L3
open PySem PySem.Spec L2
/-! ### an expression in an except suite: of the error x, e in slot i -/
section
variable {ι : Type} {G : Gd} {X : ι → Cx} {i : Nat} {n : Str}
def SE (G : Gd) (X : ι → Cx) (i : Nat) (e : Expr) (f : Ex → Option Cl) : Prop :=
  ∃ t : Addr → Value → Option Addr → TE, (∀ j a oe cls d pn, Zc cls d oe → (∃ vs, oe.data = .fields vs) → PE ((X j).suite a ((a, oe) :: pn)) e (t a cls d)) ∧
    ∀ a cls d x c F H ρ σ T (Q : VK), f x = some c → XR G F x cls d → σ[i]? = some (some (.ref a)) → G.R F H ρ σ T → (∀ F' H' v, Same F F' → G.R F' H' ρ σ ((c, v) :: T) → Q v H') → t a cls d σ H Q
/-- elements of a display: data, frozen -/
def SEs (G : Gd) (X : ι → Cx) (i : Nat) (es : List Expr) (f : Ex → Option (List D)) : Prop :=
  ∃ t : Addr → Value → Option Addr → TA, (∀ j a oe cls d pn, Zc cls d oe → (∃ vs, oe.data = .fields vs) → PA ((X j).suite a ((a, oe) :: pn)) es (t a cls d)) ∧
    ∀ a cls d x ds F H ρ σ T (Q : List V → Hp → Prop), f x = some ds → XR G F x cls d → σ[i]? = some (some (.ref a)) → G.R F H ρ σ T → (∀ vs, RpA G.K F vs ds → Q vs H) → t a cls d σ H Q
theorem se_str {s : Str} {k : Nat} {pos : Pos} : SE G X i (.Constant (.str s) k pos) (fun _ => some (.fz (.str s))) :=
  ⟨fun _ _ _ => tC (.str s), fun _ _ _ _ _ _ _ _ => pe_str, fun a cls d x c F H ρ σ T Q e _ _ hR hP => by
    cases e
    exact hP F H _ (Same.refl _) (hR.push (.str s))⟩
theorem lookup_ks {K : PySem.W.Frag} {F : Hp} {f : Str} : ∀ {fvs : List (Str × V)} {fs : List (Str × D)} {d : D}, RpKs K F fvs fs → fs.lookup f = some d → ∃ v, fvs.lookup f = some v ∧ Rp K F v d
  | _, _, d, .nil, e => by cases e
  | _, _, d, .cons (k := k) h r, e => by
    unfold List.lookup at e ⊢
    split at e
    · rename_i q
      cases e
      exact ⟨_, rfl, h⟩
    · rename_i q
      obtain ⟨v, h1, h2⟩ := lookup_ks r e
      exact ⟨v, h1, h2⟩

theorem XR.mono {F F' : Hp} {x : Ex} {cls : Value} {d : Option Addr} (h : XR G F x cls d) (e : Same F F') : XR G F' x cls d := by
  obtain ⟨C, h1, h2, h3⟩ := h
  refine ⟨C, h1, h2, ?_⟩
  rcases h3 with h3 | ⟨dd, fvs, h4, h5, h6⟩
  · exact .inl h3
  · exact .inr ⟨dd, fvs, h4, e _ _ h5, h6.mono e⟩
/-- e.f : cs the classes that have it -/
def seF (cs : List Str) (f : Str) : Ex → Option D := fun x => if cs.contains x.cls = true then x.fs.lookup f else none
def tE0 : TE := fun _ _ _ => False
theorem pe_no {Y : Cx} {e : Expr} : PE Y e tE0 := ⟨fun _ _ _ _ _ _ h => h.elim⟩
open Classical in
noncomputable def tFld (K : PySem.W.Frag) (i : Nat) (f : Str) (a : Addr) (cls : Value) (d : Option Addr) : TE :=
  if h : ∃ C, cls = .ref C ∧ XfC K C ∧ PySem.W.findIn K (.ref C) f = some none then tXf a cls d h.choose f (tVar i) else tE0
theorem pe_fld {j : ι} {a : Addr} {oe : Obj} {cls : Value} {d : Option Addr} {pn : List (Addr × Obj)} {f : Str} {p pos : Pos} (hn : ∀ j a oe pn, PE ((X j).suite a ((a, oe) :: pn)) (.Name n p) (tVar i)) (hK : ∀ j, (X j).K = G.K) (hz : Zc cls d oe) (hf : ∃ vs, oe.data = .fields vs)
    (hb : ∀ j, attributeBase (.Name n p) f (X j).env (eval (.Name n p) (X j).env) = eval (.Name n p) (X j).env) : PE ((X j).suite a ((a, oe) :: pn)) (.Attribute (.Name n p) f pos) (tFld G.K i f a cls d) := by
  unfold tFld
  split
  · rename_i h
    obtain ⟨h1, h2, h3⟩ := h.choose_spec
    have h2 : XfC (X j).K h.choose := by rw [hK j]; exact h2
    have h3 : PySem.W.findIn (X j).K (.ref h.choose) f = some none := by rw [hK j]; exact h3
    exact pe_xf h2 h3 hz hf (hn j a oe pn) (hb j)
  · exact pe_no
theorem snd_fld {cs : List Str} {f : Str} {a : Addr} {cls : Value} {d : Option Addr} {x : Ex} {dv : D} {F H : Hp} {ρ : En} {σ : L2.St} {T : List (Cl × V)} {Q : VK} (hC : ∀ c C, cs.contains c = true → G.mg c = some (.ref C) → XfC G.K C ∧ PySem.W.findIn G.K (.ref C) f = some none)
    (e : seF cs f x = some dv) (xr : XR G F x cls d) (hi : σ[i]? = some (some (.ref a))) (hR : G.R F H ρ σ T) (hP : ∀ v, Rp G.K F v dv → Q v H) : tFld G.K i f a cls d σ H Q := by
  unfold seF at e
  split at e
  · rename_i hc
    obtain ⟨C, h1, h2, h3⟩ := xr
    obtain ⟨k1, k2⟩ := hC _ C hc h1
    have ex : ∃ C, cls = .ref C ∧ XfC G.K C ∧ PySem.W.findIn G.K (.ref C) f = some none := ⟨C, h2, k1, k2⟩
    unfold tFld
    rw [dif_pos ex]
    obtain ⟨m1, m2, m3⟩ := ex.choose_spec
    rcases h3 with ⟨h4, _⟩ | ⟨dd, fvs, h4, h5, h6⟩
    · rw [h4] at e; cases e
    · obtain ⟨v, l, r⟩ := lookup_ks h6 e
      exact ⟨.ref a, hi, rfl, m1, dd, fvs, v, h4, hR.sub _ _ h5, l, hP v r⟩
  · cases e
theorem se_fld {cs : List Str} {f : Str} {p pos : Pos} (hn : ∀ j a oe pn, PE ((X j).suite a ((a, oe) :: pn)) (.Name n p) (tVar i)) (hK : ∀ j, (X j).K = G.K) (hC : ∀ c C, cs.contains c = true → G.mg c = some (.ref C) → XfC G.K C ∧ PySem.W.findIn G.K (.ref C) f = some none)
    (hb : ∀ j, attributeBase (.Name n p) f (X j).env (eval (.Name n p) (X j).env) = eval (.Name n p) (X j).env) : SE G X i (.Attribute (.Name n p) f pos) (fun x => (seF cs f x).map .fz) :=
  ⟨fun a cls d => tFld G.K i f a cls d, fun j a oe cls d pn hz hf => pe_fld hn hK hz hf hb, fun a cls d x c F H ρ σ T Q e xr hi hR hP => by
    dsimp only at e
    cases q : seF cs f x with
    | none => rw [q] at e; cases e
    | some dv =>
      rw [q] at e
      cases e
      exact snd_fld hC q xr hi hR fun v r => hP F H v (Same.refl _) (hR.push r)⟩
theorem ses_nil : SEs G X i [] (fun _ => some []) := ⟨fun _ _ _ => tNil, fun _ _ _ _ _ _ _ _ => pa_nil, fun a cls d x ds F H ρ σ T Q e _ _ hR hP => by
  cases e
  exact hP [] .nil⟩
theorem ses_fld {cs : List Str} {f : Str} {p pos : Pos} {es : List Expr} {g : Ex → Option (List D)} (hn : ∀ j a oe pn, PE ((X j).suite a ((a, oe) :: pn)) (.Name n p) (tVar i)) (hK : ∀ j, (X j).K = G.K) (hC : ∀ c C, cs.contains c = true → G.mg c = some (.ref C) → XfC G.K C ∧ PySem.W.findIn G.K (.ref C) f = some none)
    (hb : ∀ j, attributeBase (.Name n p) f (X j).env (eval (.Name n p) (X j).env) = eval (.Name n p) (X j).env) (hs : ∀ j, starEach (.Attribute (.Name n p) f pos :: es) (X j).env = (false, eval (.Attribute (.Name n p) f pos) (X j).env) :: starEach es (X j).env) (hr : SEs G X i es g) :
    SEs G X i (.Attribute (.Name n p) f pos :: es) (fun x => (seF cs f x).bind fun d => (g x).map (d :: ·)) := by
  obtain ⟨t, h1, h2⟩ := hr
  refine ⟨fun a cls d => tCons (tFld G.K i f a cls d) (t a cls d), fun j a oe cls d pn hz hf => pa_cons (pe_fld hn hK hz hf hb) (h1 j a oe cls d pn hz hf) (hs j), fun a cls d x ds F H ρ σ T Q e xr hi hR hP => ?_⟩
  dsimp only at e
  cases q : seF cs f x with
  | none => rw [q] at e; cases e
  | some dv =>
    rw [q] at e
    cases q2 : g x with
    | none => rw [q2] at e; cases e
    | some ds2 =>
      rw [q2] at e
      cases e
      exact snd_fld hC q xr hi hR fun v r => h2 a cls d x ds2 F H ρ σ T _ q2 xr hi hR fun vs rs => hP _ (.cons r rs)
theorem ses_str {s : Str} {k : Nat} {pos : Pos} {es : List Expr} {g : Ex → Option (List D)} (hs : ∀ j, starEach (.Constant (.str s) k pos :: es) (X j).env = (false, eval (.Constant (.str s) k pos) (X j).env) :: starEach es (X j).env) (hr : SEs G X i es g) :
    SEs G X i (.Constant (.str s) k pos :: es) (fun x => (g x).map (.str s :: ·)) := by
  obtain ⟨t, h1, h2⟩ := hr
  refine ⟨fun a cls d => tCons (tC (.str s)) (t a cls d), fun j a oe cls d pn hz hf => pa_cons pe_str (h1 j a oe cls d pn hz hf) (hs j), fun a cls d x ds F H ρ σ T Q e xr hi hR hP => ?_⟩
  dsimp only at e
  cases q2 : g x with
  | none => rw [q2] at e; cases e
  | some ds2 =>
    rw [q2] at e
    cases e
    exact h2 a cls d x ds2 F H ρ σ T _ q2 xr hi hR fun vs rs => hP _ (.cons (.str s) rs)
theorem se_lst {es : List Expr} {pos : Pos} {g : Ex → Option (List D)} (h : SEs G X i es g) (hg : ∀ x ds, g x = some ds → ds.length ≤ 1000) : SE G X i (.List es pos) (fun x => (g x).map .lst) := by
  obtain ⟨t, h1, h2⟩ := h
  refine ⟨fun a cls d => tLst (t a cls d), fun j a oe cls d pn hz hf => pe_lst (h1 j a oe cls d pn hz hf), fun a cls d x c F H ρ σ T Q e xr hi hR hP => ?_⟩
  dsimp only at e
  cases q : g x with
  | none => rw [q] at e; cases e
  | some ds =>
    rw [q] at e
    cases e
    refine h2 a cls d x ds F H ρ σ T _ q xr hi hR fun vs rs => ⟨by rw [rs.length]; exact line1000 (hg x ds q), fun p hp => ?_⟩
    exact hP F _ (.ref p) (Same.refl _) (hR.newLst hp rs)

/-! ### the suite: t = EXPR if isinstance(e, C) else .. -/
def fSu (k : Nat) (sub : Ex → Bool) (f : Ex → Option Cl) : Ex → FS := fun x _ ρ => if sub x = true then match f x with
  | some c => if k < ρ.length then some (.nx (ρ.set k (some c))) else none
  | none => none
  else none
def SU (G : Gd) (X : ι → Cx) (P : List Nat) (i : Nat) (st : List Stmt) (f : Ex → FS) : Prop :=
  ∃ t : Addr → Value → Option Addr → TS, (∀ j a oe cls d pn, Zc cls d oe → (∃ vs, oe.data = .fields vs) → PSs ((X j).suite a ((a, oe) :: pn)) st (t a cls d)) ∧
    ∀ a cls d x n o F H ρ σ T (D : Ends), f x n ρ = some o → XR G F x cls d → σ[i]? = some (some (.ref a)) → G.R F H ρ σ T → PoS G W0 P F σ T D o → t a cls d D σ H
open Classical in
noncomputable def tIsF (K : PySem.W.Frag) (cv : Addr) (i : Nat) (a : Addr) (cls : Value) (d : Option Addr) : TE :=
  if h : ∃ C, cls = .ref C ∧ EcK K C then tCB (rIsF K h.choose d a) (tCons (tVar i) (tCons (tC (.ref cv)) tNil)) else tE0
theorem su_isf {k : Nat} {c : Str} {cv : Addr} {ex orl : Expr} {f : Ex → Option Cl} {sub : Ex → Bool} {P : List Nat} {q1 q2 q3 q4 q5 : Pos} {st : Stmt} (hK : ∀ j, (X j).K = G.K) (hn : ∀ j a oe pn, PE ((X j).suite a ((a, oe) :: pn)) (.Name n q2) (tVar i)) (hk : k ∉ P)
    (hg : ∀ j, Gl (X j) "isinstance") (hm : ∀ j, (X j).mg "isinstance" = none) (hgC : ∀ j, Gl (X j) c) (hmC : ∀ j, (X j).mg c = some (.ref cv)) (hcd : (c == ("__debug__" : Str)) = false)
    (hs1 : ∀ j, starEach [.Name n q2, .Name c q3] (X j).env = (false, eval (.Name n q2) (X j).env) :: starEach [.Name c q3] (X j).env) (hs2 : ∀ j, starEach [.Name c q3] (X j).env = (false, eval (.Name c q3) (X j).env) :: starEach [] (X j).env) (hpl : ∀ j, (backTo q4 (starEach [.Name c q3] (X j).env)).any (·.1) = false)
    (hst : ∀ j a oe pn te, PE ((X j).suite a ((a, oe) :: pn)) (.IfExp (.Call (.Name "isinstance" q1) [.Name n q2, .Name c q3] [] q4) ex orl q5) te → PS ((X j).suite a ((a, oe) :: pn)) st (tAsg te (gName k)))
    (hv : ∀ j a oe pn whole, isTrue (.Call (.Name "isinstance" q1) [.Name n q2, .Name c q3] [] q4) ((X j).suite a ((a, oe) :: pn)).env whole = (do let v ← whole; standAt (Expr.pos (.Call (.Name "isinstance" q1) [.Name n q2, .Name c q3] [] q4)); holding [v] (truthy v)))
    (hsub : ∀ x C, sub x = true → G.mg x.cls = some (.ref C) → EcK G.K C ∧ PySem.W.kitOne G.K (.ref C) (.ref cv) = some true)
    (ha : SE G X i ex f) (hb : ∃ t, ∀ j a oe pn, PE ((X j).suite a ((a, oe) :: pn)) orl t) : SU G X P i [st] (fSu k sub f) := by
  obtain ⟨t, h1, h2⟩ := ha
  obtain ⟨u, h3⟩ := hb
  refine ⟨fun a cls d => tAsg (tIf (tB (tIsF G.K cv i a cls d)) (t a cls d) u) (gName k), fun j a oe cls d pn hz hf => pss_one (hst j a oe pn _ (pe_ifExp (pt_val ?_ (hv j a oe pn)) (h1 j a oe cls d pn hz hf) (h3 j a oe pn))), ?_⟩
  · unfold tIsF
    split
    · rename_i h
      obtain ⟨m1, m2⟩ := h.choose_spec
      have m2' : EcK (X j).K h.choose := by rw [hK j]; exact m2
      have hz' : Zc (.ref h.choose) d oe := by rw [← m1]; exact hz
      have := pe_callB (x := "isinstance") (p := q1) (pos := q4) (call_isF (X := X j) (a := a) (pn := pn) m2' hz' hf) (hg j) (hm j) (by decide +kernel) (pa_cons (hn j a oe pn) (pa_cons (pe_glob (v := .ref cv) (hgC j) (hmC j) rfl hcd) pa_nil (hs2 j)) (hs1 j)) (by decide) (by decide) (hs1 j) (hpl j)
      have eK : ((X j).suite a ((a, oe) :: pn)).K = G.K := hK j
      rw [show rIsF (X j).K h.choose d a = rIsF G.K h.choose d a from by rw [hK j]] at this
      exact this
    · exact pe_no
  · intro a cls d x n o F H ρ σ T D e xr hi hR hP
    unfold fSu at e
    split at e
    · rename_i hsb
      obtain ⟨C, x1, x2, x3⟩ := id xr
      obtain ⟨m1, m2⟩ := hsub x C hsb x1
      have hex : ∃ C, cls = .ref C ∧ EcK G.K C := ⟨C, x2, m1⟩
      cases q : f x with
      | none => rw [q] at e; cases e
      | some cc =>
        rw [q] at e
        dsimp only at e
        split at e
        · rename_i hl
          cases e
          show tIsF G.K cv i a cls d σ H _
          unfold tIsF
          rw [dif_pos hex]
          obtain ⟨y1, y2⟩ := hex.choose_spec
          have eC : hex.choose = C := Value.ref.inj (y1.symm.trans x2)
          rw [eC]
          refine ⟨.ref a, hi, ?_⟩
          refine ⟨.ref cv, .ref cv, true, rfl, fun u h => h, m2, ?_, true, rfl, ?_⟩
          · rcases x3 with ⟨_, x4⟩ | ⟨dd, fvs, x4, x5, _⟩
            · exact .inl x4
            · exact .inr ⟨dd, fvs, x4, hR.sub _ _ x5⟩
          · show if true = true then _ else _
            rw [if_pos rfl]
            exact h2 a cls d x cc F H ρ σ T _ q xr hi hR fun F' H' v s' R' => hP F' H' _ s' (R'.set hl) (Kp.set hk)
        · cases e
    · cases e
end

/-! ### try -/
inductive HdX {ι : Type} (G : Gd) (X : ι → Cx) (P : List Nat) (i : Nat) (n : Str) : List ExceptHandler → List ((Ex → Option Bool) × (Ex → FS)) → Prop
  | nil : HdX G X P i n [] []
  | cons {x : Str} {cv : Addr} {sub : Ex → Option Bool} {f : Ex → FS} {b₀ : Stmt} {suite : List Stmt} {np pos' : Pos} {hds : List ExceptHandler} {l : List ((Ex → Option Bool) × (Ex → FS))} (hc : ∀ j, Names (X j) x (.ref cv))
      (hsub : ∀ e C b, sub e = some b → G.mg e.cls = some (.ref C) → PySem.W.exmOne G.K (.ref C) (.ref cv) = some b) (hsu : SU G X P i (b₀ :: suite) f) (r : HdX G X P i n hds l) :
      HdX G X P i n (.ExceptHandler (some (.Name x np)) (some n) (b₀ :: suite) pos' :: hds) ((sub, f) :: l)
def Ot.gone (i : Nat) : Ot → Option Ot
  | .nx ρ => some (.nx (ρ.set i none))
  | .rt c ρ => some (.rt c ρ)
  | .bk ρ => some (.bk (ρ.set i none))
  | .ct ρ => some (.ct (ρ.set i none))
  | .ex _ _ => none
def hdl (i : Nat) : List ((Ex → Option Bool) × (Ex → FS)) → Ex → FS
  | [], x, _, ρ => some (.ex x ρ)
  | (sub, f) :: l, x, n, ρ => match sub x with
    | some true => if i < ρ.length then (f x n (ρ.set i none)).bind (Ot.gone i) else none
    | some false => hdl i l x n ρ
    | none => none
def sTry (i : Nat) (fb : FS) (l : List ((Ex → Option Bool) × (Ex → FS))) : FS := fun n ρ => match fb n ρ with
  | some (.ex x ρ1) => hdl i l x n ρ1
  | o => o
abbrev TrI (ι : Type) := ι × List (Addr × Obj) × (Value → Shared → Prop)
abbrev trX {ι : Type} (X : ι → Cx) (W : WX) : {p : TrI ι // Takes ((X p.1).tr p.2.1 p.2.2) W ∧ PassesOwn (model (X p.1).prog (X p.1).w) (X p.1).A (X p.1).env p.2.2} → Cx := fun p => (X p.1.1).tr p.1.2.1 p.1.2.2
section
variable {ι : Type} {G : Gd} {X : ι → Cx} {W : WX} {P : List Nat} {i : Nat} {n : Str}
theorem hdx_out {hds : List ExceptHandler} {l : List ((Ex → Option Bool) × (Ex → FS))} (h : HdX G X P i n hds l) : ∃ L : List (Value × (Addr → Value → Option Addr → TS)), (∀ j, HdsAs (X j) n hds L) ∧
    ∀ (D : Ends) x cls d k ρ o F H σ T, i ∉ P → hdl i l x k ρ = some o → XR G F x cls d → G.R F H ρ σ T → PoS G W P F σ T D o → wManyAs G.K i W D L cls d σ H := by
  induction h with
  | nil => exact ⟨[], fun _ => .nil, fun D x cls d k ρ o F H σ T _ e xr hR hP => by
      cases e
      exact hP F H σ cls d (Same.refl _) hR (Kp.refl _) xr⟩
  | @cons x cv sub f b₀ suite np pos' hds l hc hsub hsu r ih =>
    obtain ⟨L, h1, h2⟩ := ih
    obtain ⟨t, h3, h4⟩ := hsu
    refine ⟨(.ref cv, t) :: L, fun j => .cons (hc j) (fun a oe cls d pn => h3 j a oe cls d pn) (h1 j), fun D x cls d k ρ o F H σ T hi e xr hR hP => ?_⟩
    obtain ⟨C, x1, x2, x3⟩ := id xr
    unfold hdl at e
    cases q : sub x with
    | none => rw [q] at e; cases e
    | some b =>
      rw [q] at e
      refine ⟨b, by rw [x2]; exact hsub x C b q x1, ?_, ?_⟩
      · rintro rfl a na
        dsimp only at e
        split at e
        · rename_i hl
          cases q2 : f x k (ρ.set i none) with
          | none => rw [q2] at e; cases e
          | some o2 =>
            rw [q2] at e
            have e : Ot.gone i o2 = some o := e
            refine h4 a cls d x k o2 F H _ _ T _ q2 xr (List.getElem?_set_self (by rw [← hR.ok.len]; exact hl)) (hR.gone i _) ?_
            cases o2 with
            | nx ρ' => cases e; exact fun F' H' σ' s' R' k' => hP F' H' _ s' (R'.gone i none) ((Kp.set hi).trans (k'.trans (Kp.set hi)))
            | rt c ρ' => cases e; exact fun F' H' σ' v s' R' k' => hP F' H' σ' v s' R' ((Kp.set hi).trans k')
            | bk ρ' => cases e; exact fun F' H' σ' s' R' k' => hP F' H' _ s' (R'.gone i none) ((Kp.set hi).trans (k'.trans (Kp.set hi)))
            | ct ρ' => cases e; exact fun F' H' σ' s' R' k' => hP F' H' _ s' (R'.gone i none) ((Kp.set hi).trans (k'.trans (Kp.set hi)))
            | ex x ρ' => cases e
        · cases e
      · rintro rfl
        exact h2 D x cls d k ρ o F H σ T hi e xr hR hP
theorem xs_try {body : List Stmt} {h₀ : ExceptHandler} {hds : List ExceptHandler} {l : List ((Ex → Option Bool) × (Ex → FS))} {pos : Pos} {fb : FS} (hK : ∀ j, (X j).K = G.K) (hs : ∀ j, (X j).stack = (X j).env :: (X j).outer) (hf : ∀ j, (X j).env.frame = some (X j).env.locals) (hN : ∀ j, (X j).N.Nodup) (hi : ∀ j, (X j).N[i]? = some n) (hln : ∀ j, (X j).env.kindOf n = some .local)
    (hiP : i ∉ P) (tk : ∀ j, Takes (X j) W) (hb : ∀ Wb, XSs G (trX X Wb) Wb P body fb) (hh : HdX G X P i n (h₀ :: hds) l) : XS G X W P (.Try body (h₀ :: hds) [] [] pos) (sTry i fb l) := by
  obtain ⟨L, h1, h2⟩ := hdx_out (W := W) hh
  refine ⟨fun D σ H => (hb (wManyAs G.K i W D L)).choose D σ H, fun j => ?_, fun k ρ o e F H σ T D hR hP => ?_⟩
  · have := ps_try_manyAs (X := X j) (pos := pos) (tb := fun W' => (hb W').choose) (hs j) (hf j) (hN j) (hi j) (hln j) (tk j) (fun W' pn xe t1 t2 => (hb W').choose_spec.1 ⟨(j, pn, xe), t1, t2⟩) (h1 j)
    rw [hK j] at this
    exact this
  · unfold sTry at e
    cases q : fb k ρ with
    | none => rw [q] at e; cases e
    | some o1 =>
      rw [q] at e
      refine (hb (wManyAs G.K i W D L)).choose_spec.2 k ρ o1 q F H σ T D hR ?_
      cases o1 with
      | ex x ρ1 => exact fun F' H' σ' cls d s' R' k' xr => h2 D x cls d k ρ1 o F' H' σ' T hiP e xr R' (hP.mono s' k')
      | nx ρ1 => cases e; exact hP
      | rt c ρ1 => cases e; exact hP
      | bk ρ1 => cases e; exact hP
      | ct ρ1 => cases e; exact hP
end
end L3

set_option maxHeartbeats 1000000
namespace L2
open PySem PySem.Spec PyProof.Rows
/-- xs[i] of a list, i counted from either end -/
theorem get_listL {X : Cx} : PGet X (rIxL X.K) := by
  rintro pins s σ H _ _ v _ Q I rx ry ⟨p, xs, i, z, rfl, rfl, hq, he, q⟩
  have ⟨t, e⟩ := ry
  cases rx
  cases e
  have ⟨its, rel, pl, _⟩ := I.list hq
  have ⟨j, ix, hz, _, lo, hi⟩ := atI_get he
  have ⟨u, hu, ru⟩ := rel.get hz
  have got : EP X pins σ Q u s := ⟨z, H, I, ru, q⟩
  have item : ∀ m, m = j → its.toArray[m]? = some u := fun m e => e ▸ (List.getElem?_toArray ..).trans hu
  have size : its.toArray.size = xs.length := rel.length.symm
  have big := line63
  rcases Int.lt_or_le i 0 with neg | pos
  · refine wpAny_getItem_list_neg pl.isList neg (size ▸ lo) (by omega) (item _ ?_) got
    rw [size]
    exact Option.some.inj ((seqIndex_neg neg lo).symm.trans ix)
  · exact wpAny_getItem_list pl.isList pos (by omega) (item _ (Option.some.inj ((seqIndex_of pos hi).symm.trans ix))) got
end L2
namespace L3
open PySem PySem.Spec L2
section
variable {ι : Type} {G : Gd} {X : ι → Cx} {W : WX} {P : List Nat} {e ie : Expr} {pos : Pos}
/-- the cell of slot k changed -/
def setIx (ρ : En) (k : Nat) (j d : D) : Option En := match (ρ[k]?).join with
  | some (.lst ds) => match j with
    | .int i => match ixN ds.length i with
      | some m => some (ρ.set k (some (.lst (ds.set m d))))
      | none => none
    | _ => none
  | _ => none
theorem setIx_ok {F H : Hp} {ρ ρ' : En} {σ : L2.St} {T : List (Cl × V)} {k : Nat} {j d : D} {vj vd o : V} (e : setIx ρ k j d = some ρ') (hR : G.R F H ρ σ T) (rj : Rp G.K F vj j) (rd : Rp G.K F vd d) (ho : σ[k]? = some (some o)) {Q : Hp → Prop} (hQ : ∀ H', G.R F H' ρ' σ T → Q H') : rSetL o vj vd H Q := by
  unfold setIx at e
  split at e
  · rename_i ds q
    split at e
    · rename_i i
      split at e
      · rename_i m qm
        cases e
        cases rj
        obtain ⟨w, h1, R'⟩ := R.take hR (join_some q)
        rw [ho] at h1
        cases h1
        obtain ⟨A, cr⟩ := R'.cr
        cases cr with
        | lst h1 h2 r =>
          refine ⟨_, _, i, m, rfl, rfl, h1, by rw [r.length]; exact qm, hQ _ ?_⟩
          have R2 : G.R F (upd H _ (.lst (_))) (ρ.set k none) σ ((.lst (ds.set m d), .ref _) :: T) :=
            .mk' (R'.hr'.mut (fun A h => by cases h; rfl) (.lst upd_same h2 (r.set m rd))) R'.ok
          have hk : k < ρ.length := (List.getElem?_eq_some_iff.mp (join_some q)).1
          have R3 := R.put R2 (c := .lst (ds.set m d)) (i := k) (by rw [List.getElem?_set_self hk]) ho
          rw [List.set_set] at R3
          exact R3
      · cases e
    · cases e
  · cases e
def sSetIx (k : Nat) (fe fi : Fn Bv) : FS := fun n ρ => bS (fFz fe n ρ) fun c ρ1 => match c with
  | .fz d => if ((ρ1[k]?).join).isSome = true then bS (fFz fi n ρ1) fun c2 ρ2 => match c2 with
    | .fz j => match setIx ρ2 k j d with
      | some ρ3 => some (.nx ρ3)
      | none => none
    | _ => none
  else none
  | _ => none
theorem slot_of {F H : Hp} {ρ : En} {σ : L2.St} {T : List (Cl × V)} {k : Nat} (hR : G.R F H ρ σ T) (h : ((ρ[k]?).join).isSome = true) : ∃ o, σ[k]? = some (some o) := by
  obtain ⟨c, hc⟩ := Option.isSome_iff_exists.mp h
  obtain ⟨v, h1, _⟩ := hR.at (join_some hc)
  exact ⟨v, h1⟩
theorem xs_setIx {k : Nat} {x : Str} {px ps : Pos} {fe fi : Fn Bv} (hx : ∀ j, PE (X j) (.Name x px) (tVar k)) (hi : XB G X W ie fi) (he : XB G X W e fe)
    (hs : ∀ j, swapsWithSole [.Subscript (.Name x px) ie ps] e pos.line (X j).env = pure false) (hw : ∀ j, swappedStores [.Subscript (.Name x px) ie ps] e (X j).env = pure none) (h1 : ∀ j, (assignEach [.Subscript (.Name x px) ie ps] (X j).env).map (·.2) = [assign (.Subscript (.Name x px) ie ps) (X j).env])
    (ha : ∀ j v, assign (.Subscript (.Name x px) ie ps) (X j).env v = (do
      let ov ← holding [v] (eval (.Name x px) (X j).env)
      let iv ← holding [v, ov] (eval ie (X j).env)
      standAt ps
      holding [v, ov, iv] (setItem ov iv v)
      release [v, ov, iv] [])) : XS G X W P (.Assign [.Subscript (.Name x px) ie ps] e pos) (sSetIx k fe fi) := by
  obtain ⟨ti, a1, a2⟩ := hi
  obtain ⟨te, b1, b2⟩ := he
  refine ⟨_, fun j => ps_asg (b1 j) (pg_sub (hx j) (a1 j) set_list (ha j)) (hs j) (hw j) (h1 j), fun n ρ o eq F H σ T D hR hP => ?_⟩
  unfold sSetIx at eq
  cases q : fFz fe n ρ with
  | none => rw [q] at eq; cases eq
  | some r1 =>
    rw [q] at eq
    refine snd_fz b2 n ρ r1 q F H σ T _ hR ?_
    cases r1 with
    | ex x ρ' => cases eq; exact hP.px
    | ok c ρ1 =>
      rw [bS_ok] at eq
      intro F1 H1 v s1 R1
      cases c with
      | fz d =>
        dsimp only at eq
        split at eq
        · rename_i hk
          obtain ⟨ov, ho⟩ := slot_of R1 hk
          refine ⟨ov, ho, ?_⟩
          cases q2 : fFz fi n ρ1 with
          | none => rw [q2] at eq; cases eq
          | some r2 =>
            rw [q2] at eq
            refine snd_fz a2 n ρ1 r2 q2 F1 H1 σ _ _ R1 ?_
            cases r2 with
            | ex x ρ' =>
              cases eq
              exact fun F' H' cls d s r xr => hP F' H' σ cls d (s1.trans s) r.tail (Kp.refl _) xr
            | ok c2 ρ2 =>
              rw [bS_ok] at eq
              intro F2 H2 v2 s2 R2
              cases c2 with
              | fz dj =>
                dsimp only at eq
                cases q3 : setIx ρ2 k dj d with
                | none => rw [q3] at eq; cases eq
                | some ρ3 =>
                  rw [q3] at eq
                  cases eq
                  refine setIx_ok q3 R2.tail.tail R2.rp R2.tail.rp ho fun H' R' => hP F2 H' σ (s1.trans s2) R' (Kp.refl _)
              | lst _ => cases eq
              | dct _ => cases eq
              | dtt _ => cases eq
              | dlk _ => cases eq
              | dlt _ => cases eq
              | bx _ _ => cases eq
              | ins _ _ => cases eq
              | exn _ _ => cases eq
              | nst _ _ => cases eq
        · cases eq
      | lst _ => cases eq
      | dct _ => cases eq
      | dtt _ => cases eq
      | dlk _ => cases eq
      | dlt _ => cases eq
      | bx _ _ => cases eq
      | ins _ _ => cases eq
      | exn _ _ => cases eq
      | nst _ _ => cases eq
/-! ### op= -/
def SndIp (G : Gd) (t : TIp) (g : D → D → Option D) : Prop := ∀ a b d, g a b = some d → ∀ F H va vb (Q : VK), Rp G.K F va a → Rp G.K F vb b → (∀ v, Rp G.K F v d → Q v H) → t va vb H Q
def gIp (f : Int → Int → Int) : D → D → Option D := fun a b => match a, b with
  | .int i, .int j => some (.int (f i j))
  | _, _ => none
theorem snd_ipI {f : Int → Int → Int} : SndIp G (ipI f) (gIp f) := fun a b d e F H va vb Q ra rb hQ => by
  unfold gIp at e
  split at e
  · rename_i i j
    cases e
    cases ra
    cases rb
    exact ⟨i, j, rfl, rfl, hQ _ (.int _)⟩
  · cases e
def getIx (ρ : En) (k : Nat) (j : D) : Option D := match (ρ[k]?).join with
  | some (.lst ds) => match j with
    | .int i => atI ds i
    | _ => none
  | _ => none
theorem RpA.atI {K : PySem.W.Frag} {F : Hp} {vs : List V} {ds : List D} {i : Int} {d : D} (r : RpA K F vs ds) (e : L2.atI ds i = some d) : ∃ v, L2.atI vs i = some v ∧ Rp K F v d := by
  unfold L2.atI at e ⊢
  rw [r.length]
  cases q : ixN ds.length i with
  | none => rw [q] at e; cases e
  | some j =>
    rw [q] at e
    exact r.get e
def sAugIx (k : Nat) (fi fe : Fn Bv) (g : D → D → Option D) : FS := fun n ρ => if ((ρ[k]?).join).isSome = true then bS (fFz fi n ρ) fun c ρ1 => match c with
  | .fz j => match getIx ρ1 k j with
    | some a => bS (fFz fe n ρ1) fun c2 ρ2 => match c2 with
      | .fz b => match g a b with
        | some d => match setIx ρ2 k j d with
          | some ρ3 => some (.nx ρ3)
          | none => none
        | none => none
      | _ => none
    | none => none
  | _ => none
  else none
theorem xs_augIx {k : Nat} {x : Str} {px ps : Pos} {fe fi : Fn Bv} {op : Operator} {tip : TIp} {g : D → D → Option D} (hK : ∀ i, (X i).K = G.K) (hx : ∀ j, PE (X j) (.Name x px) (tVar k)) (hi : XB G X W ie fi) (he : XB G X W e fe) (hp : ∀ j, PIp (X j) op tip) (hg : SndIp G tip g)
    (ha : ∀ ov iv new, augStore ie ov iv new = (do holding [new, ov, iv] (setItem ov iv new); release [new, ov, iv] []; pure .next)) : XS G X W P (.AugAssign (.Subscript (.Name x px) ie ps) op e pos) (sAugIx k fi fe g) := by
  obtain ⟨ti, a1, a2⟩ := hi
  obtain ⟨te, b1, b2⟩ := he
  refine ⟨_, fun j => by
    have := ps_augS (pos := pos) (tpos := ps) (hx j) (a1 j) get_listL (b1 j) (hp j) set_list ha
    rw [hK j] at this
    exact this, fun n ρ o eq F H σ T D hR hP => ?_⟩
  unfold sAugIx at eq
  split at eq
  case isFalse => cases eq
  rename_i hk
  obtain ⟨ov, ho⟩ := slot_of hR hk
  refine ⟨ov, ho, ?_⟩
  cases q : fFz fi n ρ with
  | none => rw [q] at eq; cases eq
  | some r1 =>
    rw [q] at eq
    refine snd_fz a2 n ρ r1 q F H σ T _ hR ?_
    cases r1 with
    | ex x ρ' => cases eq; exact hP.px
    | ok c ρ1 =>
      rw [bS_ok] at eq
      intro F1 H1 v s1 R1
      cases c with
      | fz dj =>
        dsimp only at eq
        cases q1 : getIx ρ1 k dj with
        | none => rw [q1] at eq; cases eq
        | some da =>
          rw [q1] at eq
          dsimp only at eq
          unfold getIx at q1
          split at q1
          case h_2 => cases q1
          rename_i ds qd
          split at q1
          case h_2 => cases q1
          rename_i i
          obtain ⟨w, g1, A, cr⟩ := R1.at (join_some qd)
          rw [ho] at g1
          cases g1
          cases cr with
          | @lst p xs _ h1 h2 r =>
            obtain ⟨va, k1, k2⟩ := r.atI q1
            have ri := R1.rp
            cases ri
            refine ⟨p, xs, i, va, rfl, rfl, .inl (.inl h1), k1, ?_⟩
            have R1 := R1.push k2
            cases q2 : fFz fe n ρ1 with
            | none => rw [q2] at eq; cases eq
            | some r2 =>
              rw [q2] at eq
              refine snd_fz b2 n ρ1 r2 q2 F1 H1 σ _ _ R1 ?_
              cases r2 with
              | ex x ρ' =>
                cases eq
                exact fun F' H' cls d s r xr => hP F' H' σ cls d (s1.trans s) r.tail.tail (Kp.refl _) xr
              | ok c2 ρ2 =>
                rw [bS_ok] at eq
                intro F2 H2 v2 s2 R2
                cases c2 with
                | fz db =>
                  dsimp only at eq
                  cases q3 : g da db with
                  | none => rw [q3] at eq; cases eq
                  | some dd =>
                    rw [q3] at eq
                    dsimp only at eq
                    cases q4 : setIx ρ2 k (.int i) dd with
                    | none => rw [q4] at eq; cases eq
                    | some ρ3 =>
                      rw [q4] at eq
                      cases eq
                      refine hg da db dd q3 F2 H2 va v2 _ (k2.mono s2) R2.rp fun v3 r3 => ?_
                      exact setIx_ok q4 R2.tail.tail.tail (.int i) r3 ho fun H' R' => hP F2 H' σ (s1.trans s2) R' (Kp.refl _)
                | lst _ => cases eq
                | dct _ => cases eq
                | dtt _ => cases eq
                | dlk _ => cases eq
                | dlt _ => cases eq
                | bx _ _ => cases eq
                | ins _ _ => cases eq
                | exn _ _ => cases eq
                | nst _ _ => cases eq
      | lst _ => cases eq
      | dct _ => cases eq
      | dtt _ => cases eq
      | dlk _ => cases eq
      | dlt _ => cases eq
      | bx _ _ => cases eq
      | ins _ _ => cases eq
      | exn _ _ => cases eq
      | nst _ _ => cases eq
/-- name op= e -/
def sAug (k : Nat) (fe : Fn Bv) (g : D → D → Option D) : FS := fun n ρ => match (ρ[k]?).join with
  | some (.fz a) => bS (fFz fe n ρ) fun c ρ1 => match c with
    | .fz b => match g a b with
      | some d => if k < ρ1.length then some (.nx (ρ1.set k (some (.fz d)))) else none
      | none => none
    | _ => none
  | _ => none
theorem xs_aug {k : Nat} {x : Str} {px : Pos} {fe : Fn Bv} {op : Operator} {tip : TIp} {g : D → D → Option D} (hk : k ∉ P) (hp : ∀ te, (∀ j, PE (X j) e te) → ∀ j, PS (X j) (.AugAssign (.Name x px) op e pos) (tAug k te tip)) (he : XB G X W e fe) (hg : SndIp G tip g) :
    XS G X W P (.AugAssign (.Name x px) op e pos) (sAug k fe g) := by
  obtain ⟨te, b1, b2⟩ := he
  refine ⟨_, hp te b1, fun n ρ o eq F H σ T D hR hP => ?_⟩
  unfold sAug at eq
  split at eq
  case h_2 => cases eq
  rename_i a qa
  obtain ⟨va, g1, R0⟩ := R.take hR (join_some qa)
  have ra := R0.rp
  refine ⟨va, g1, ?_⟩
  cases q2 : fFz fe n ρ with
  | none => rw [q2] at eq; cases eq
  | some r2 =>
    rw [q2] at eq
    refine snd_fz b2 n ρ r2 q2 F H σ _ _ hR ?_
    cases r2 with
    | ex x ρ' => cases eq; exact hP.px
    | ok c2 ρ2 =>
      rw [bS_ok] at eq
      intro F2 H2 v2 s2 R2
      cases c2 with
      | fz db =>
        dsimp only at eq
        cases q3 : g a db with
        | none => rw [q3] at eq; cases eq
        | some dd =>
          rw [q3] at eq
          dsimp only at eq
          split at eq
          · rename_i hl
            cases eq
            refine hg a db dd q3 F2 H2 va v2 _ (ra.mono s2) R2.rp fun v3 r3 => ?_
            exact hP F2 H2 _ s2 ((R2.tail.push r3).set hl) (Kp.set hk)
          · cases eq
      | lst _ => cases eq
      | dct _ => cases eq
      | dtt _ => cases eq
      | dlk _ => cases eq
      | dlt _ => cases eq
      | bx _ _ => cases eq
      | ins _ _ => cases eq
      | exn _ _ => cases eq
      | nst _ _ => cases eq
end
end L3

namespace L3
open PySem PySem.Spec L2
/-! ### small checks for printed texts -/
def blkB (N : List Str) (sc scope : Scope) (own : List (Str × Nat)) : Bool :=
  (scope.kind == .function) && (scope.names.all fun y => scope.names.lookup y.1 == some y.2) && (own.all fun p => N[p.2]? == some p.1) &&
  (scope.names.all fun y => !(y.2 == .free) || (sc.names.lookup y.1 == some .cell || sc.names.lookup y.1 == some .free)) &&
  (scope.names.all fun y => !(y.2 == .local || y.2 == .cell) || ((own.map (·.1)).contains y.1 || !(N.contains y.1)))
theorem nk_eq {a b : NameKind} (h : (a == b) = true) : a = b := by
  cases a <;> cases b <;> first | rfl | cases h
theorem nko_eq {a : Option NameKind} {b : NameKind} (h : (a == some b) = true) : a = some b := by
  cases a with
  | none => cases h
  | some a => exact congrArg some (nk_eq h)
theorem nko_eq' {a b : Option NameKind} (h : (a == b) = true) : a = b := by
  cases b with
  | none => cases a with
    | none => rfl
    | some _ => cases h
  | some b => exact nko_eq h
theorem sk_eq {a b : ScopeKind} (h : (a == b) = true) : a = b := by
  cases a <;> cases b <;> first | rfl | cases h
theorem nk_rfl (a : NameKind) : (a == a) = true := by cases a <;> rfl
theorem blkB_ok {N : List Str} {sc scope : Scope} {own : List (Str × Nat)} (h : blkB N sc scope own = true) : BlkOk N sc scope own := by
  unfold blkB at h
  rw [Bool.and_eq_true, Bool.and_eq_true, Bool.and_eq_true, Bool.and_eq_true] at h
  obtain ⟨⟨⟨⟨h1, h2⟩, h3⟩, h4⟩, h5⟩ := h
  refine ⟨sk_eq h1, fun y hy => nko_eq (List.all_eq_true.mp h2 y hy), fun p hp => ?_, fun y hy e => ?_, fun y hy e => ?_⟩
  · exact beq_iff_eq.mp (List.all_eq_true.mp h3 p hp)
  · have := List.all_eq_true.mp h4 y hy
    rw [e, nk_rfl, Bool.not_true, Bool.false_or, Bool.or_eq_true] at this
    rcases this with z | z
    · exact .inl (nko_eq z)
    · exact .inr (nko_eq z)
  · have := List.all_eq_true.mp h5 y hy
    have e' : (y.2 == NameKind.local || y.2 == NameKind.cell) = true := by
      rcases e with e | e <;> rw [e] <;> rfl
    rw [e', Bool.not_true, Bool.false_or, Bool.or_eq_true] at this
    rcases this with z | z
    · exact .inl (List.contains_iff_mem.mp z)
    · refine .inr fun m => ?_
      rw [List.contains_iff_mem.mpr m] at z
      cases z
def flB (fl : List Bool) (P : List Nat) : Bool := (List.range fl.length).all fun i => !(fl[i]? == some true) || P.contains i
theorem flB_ok {fl : List Bool} {P : List Nat} (h : flB fl P = true) : ∀ i, fl[i]? = some true → i ∈ P := fun i e => by
  have hi : i < fl.length := (List.getElem?_eq_some_iff.mp e).1
  have := List.all_eq_true.mp h i (List.mem_range.mpr hi)
  rw [e] at this
  simpa using this
theorem u65 {k : Nat} {A : Around} (hr : Room k A) : A.units + 65 < cLine := by
  have := hr.un
  omega
/-! ### tables of error classes -/
section
variable {G : Gd}
def tblO (l : List (Str × Bool)) : Ex → Option Bool := fun x => l.lookup x.cls
theorem tbl_c {cv : Addr} {p : Str × Bool} {l : List (Str × Bool)} (h : ∃ C, G.mg p.1 = some (.ref C) ∧ PySem.W.exmOne G.K (.ref C) (.ref cv) = some p.2) (r : ∀ p ∈ l, ∃ C, G.mg p.1 = some (.ref C) ∧ PySem.W.exmOne G.K (.ref C) (.ref cv) = some p.2) :
    ∀ x ∈ p :: l, ∃ C, G.mg x.1 = some (.ref C) ∧ PySem.W.exmOne G.K (.ref C) (.ref cv) = some x.2 := fun x hx => by
  rcases List.mem_cons.mp hx with e | hx
  · rw [e]; exact h
  · exact r x hx
theorem tbl_ok {cv : Addr} {l : List (Str × Bool)} (h : ∀ p ∈ l, ∃ C, G.mg p.1 = some (.ref C) ∧ PySem.W.exmOne G.K (.ref C) (.ref cv) = some p.2) : ∀ e C b, tblO l e = some b → G.mg e.cls = some (.ref C) → PySem.W.exmOne G.K (.ref C) (.ref cv) = some b := fun e C b q m => by
  obtain ⟨C', h1, h2⟩ := h (e.cls, b) (PySem.mem_of_lookup q)
  have h1 : G.mg e.cls = some (.ref C') := h1
  rw [m] at h1
  cases h1
  exact h2
def tblB (l : List Str) : Ex → Bool := fun x => l.contains x.cls
theorem tbs_c {cv : Addr} {p : Str} {l : List Str} (h : ∃ C, G.mg p = some (.ref C) ∧ EcK G.K C ∧ PySem.W.kitOne G.K (.ref C) (.ref cv) = some true) (r : ∀ p ∈ l, ∃ C, G.mg p = some (.ref C) ∧ EcK G.K C ∧ PySem.W.kitOne G.K (.ref C) (.ref cv) = some true) :
    ∀ x ∈ p :: l, ∃ C, G.mg x = some (.ref C) ∧ EcK G.K C ∧ PySem.W.kitOne G.K (.ref C) (.ref cv) = some true := fun x hx => by
  rcases List.mem_cons.mp hx with e | hx
  · rw [e]; exact h
  · exact r x hx
theorem tbs_ok {cv : Addr} {l : List Str} (h : ∀ p ∈ l, ∃ C, G.mg p = some (.ref C) ∧ EcK G.K C ∧ PySem.W.kitOne G.K (.ref C) (.ref cv) = some true) : ∀ x C, tblB l x = true → G.mg x.cls = some (.ref C) → EcK G.K C ∧ PySem.W.kitOne G.K (.ref C) (.ref cv) = some true := fun x C q m => by
  obtain ⟨C', h1, h2⟩ := h x.cls (List.contains_iff_mem.mp q)
  rw [m] at h1
  cases h1
  exact h2
theorem tbf_c {f : Str} {p : Str} {l : List Str} (h : ∃ C, G.mg p = some (.ref C) ∧ XfC G.K C ∧ PySem.W.findIn G.K (.ref C) f = some none) (r : ∀ p ∈ l, ∃ C, G.mg p = some (.ref C) ∧ XfC G.K C ∧ PySem.W.findIn G.K (.ref C) f = some none) :
    ∀ x ∈ p :: l, ∃ C, G.mg x = some (.ref C) ∧ XfC G.K C ∧ PySem.W.findIn G.K (.ref C) f = some none := fun x hx => by
  rcases List.mem_cons.mp hx with e | hx
  · rw [e]; exact h
  · exact r x hx
theorem tbf_ok {f : Str} {l : List Str} (h : ∀ p ∈ l, ∃ C, G.mg p = some (.ref C) ∧ XfC G.K C ∧ PySem.W.findIn G.K (.ref C) f = some none) : ∀ c C, l.contains c = true → G.mg c = some (.ref C) → XfC G.K C ∧ PySem.W.findIn G.K (.ref C) f = some none := fun c C q m => by
  obtain ⟨C', h1, h2⟩ := h c (List.contains_iff_mem.mp q)
  rw [m] at h1
  cases h1
  exact h2
end
/-! ### {} -/
section
variable {ι : Type} {G : Gd} {X : ι → Cx} {W : WX} {pos : Pos}
def fDct0 : Fn Cl := fun _ ρ => some (.ok (.dct []) ρ)
theorem xe_dct0 : XE G X W (.Dict [] [] pos) fDct0 := ⟨_, fun _ => pe_dnewK, fun n ρ r e F H σ T Q hR hP => by
  cases e
  intro p hp
  exact hP F _ _ (Same.refl _) (.mk' (hR.hr.newO hp (.dct upd_same (by
    cases q : F p with
    | none => rfl
    | some o => rw [hR.sub _ _ q] at hp; cases hp) .nil)) hR.ok)⟩
end
end L3

set_option maxHeartbeats 1000000
namespace L3
open PySem PySem.Spec L2 PyProof.Rows HT
/-! ### t[::k] of a tuple, k neither 0 nor 1 -/
/-- the place where the cut of n begins, .. -/
def stpO (k : Int) (n : Nat) : Int := (Builtin.Slice.sliceAdjust none none k n).1
/-- .. how many it takes, .. -/
def stpN (k : Int) (n : Nat) : Nat := Builtin.Slice.slicePlaces (stpO k n) (Builtin.Slice.sliceAdjust none none k n).2 k
/-- .. and which -/
def stpJ (k : Int) (n : Nat) : List Nat := (List.range (stpN k n)).map fun (j : Nat) => (stpO k n + (j : Int) * k).toNat
def stpL {α : Type} (k : Int) (xs : List α) : List α := (stpJ k xs.length).filterMap fun j => xs[j]?
theorem fm_congr {α β : Type} {f g : α → Option β} {l : List α} (h : ∀ x ∈ l, f x = g x) : l.filterMap f = l.filterMap g := by
  induction l with
  | nil => rfl
  | cons x l ih =>
    have := ih fun y hy => h y (.tail _ hy)
    simp only [List.filterMap_cons, h x (.head _), this]
theorem stpL_rev {α : Type} (xs : List α) : stpL (-1) xs = xs.reverse := by
  have o : stpO (-1) xs.length = (xs.length : Int) - 1 := rfl
  have n : stpN (-1) xs.length = xs.length := by
    show (if (-1 : Int) > 0 then _ else if (xs.length : Int) - 1 > -1 then ((xs.length : Int) - 1 - -1 - 1) / - -1 + 1 else 0).toNat = _
    split
    · contradiction
    · rw [show (- -1 : Int) = 1 from rfl, Int.ediv_one]
      split <;> omega
  unfold stpL stpJ
  rw [o, n, List.filterMap_map]
  have all : ∀ ys : List α, ys.length ≤ xs.length → (∀ (j : Nat) (h : j < ys.length), xs[((xs.length : Int) - 1 + (j : Int) * -1).toNat]? = some ys[j]) → (List.range ys.length).filterMap ((fun j => xs[j]?) ∘ fun (j : Nat) => ((xs.length : Int) - 1 + (j : Int) * -1).toNat) = ys := fun ys _ h => by
    have e : (List.range ys.length).filterMap ((fun j => xs[j]?) ∘ fun (j : Nat) => ((xs.length : Int) - 1 + (j : Int) * -1).toNat) = (List.range ys.length).filterMap fun j => ys[j]? :=
      fm_congr fun j hj => (h j (List.mem_range.mp hj)).trans (List.getElem?_eq_getElem _).symm
    rw [e]
    clear e h
    induction ys with
    | nil => rfl
    | cons y ys ih => rw [List.length_cons, List.range_succ_eq_map, List.filterMap_cons, List.filterMap_map]; exact congrArg (y :: ·) (ih (by simp at *; omega))
  have := all xs.reverse (by simp) fun j h => by
    rw [List.length_reverse] at h
    rw [List.getElem_reverse, ← List.getElem?_eq_getElem]
    congr 1
    omega
  rw [List.length_reverse] at this
  rw [this]
/-- what is picked out of two lists that belong together belongs together -/
theorem Vals.picks {vs : List V} {us : List Value} (h : Vals vs us) (js : List Nat) : Vals (js.filterMap fun j => vs[j]?) (js.filterMap fun j => us[j]?) := by
  induction js with
  | nil => exact .nil
  | cons j js ih =>
    rw [List.filterMap_cons, List.filterMap_cons]
    cases q : vs[j]? with
    | some x => have ⟨u, hu, r⟩ := h.get q; rw [hu]; exact .cons r ih
    | none =>
      have := List.getElem?_eq_none_iff.mp q
      rw [List.getElem?_eq_none (h.length ▸ this)]
      exact ih
section
variable {prog : Program} {w : World} {A : Around} {E : Value → Shared → Prop} {s : Shared}
theorem applied_cut {sl : Addr} {k : Int} {u : Tok} {n : Nat} {Q : Int × Int × Nat → Shared → Prop} (hs : s.heap.IsSliceOf sl .none .none (.int k u)) (h0 : k ≠ 0) (h : Q (stpO k n, k, stpN k n) s) :
    wpAny (model prog w) A (Builtin.Slice.sliceApplied (.ref sl) (pure (n : Int))) Q E s := by
  have ⟨o, ho, _, hd⟩ := hs
  have no : (k == 0) = false := beq_eq_false_iff_ne.mpr h0
  unfold Builtin.Slice.sliceApplied
  refine wpAny_bind (m := Builtin.Slice.sliceFields _) (wpAny_bind (wpAny_field ho hd (x := .none) rfl (wpAny_bind (wpAny_field ho hd (x := .none) rfl (wpAny_bind (wpAny_field ho hd (x := .int k u) rfl (wpAny_pure ?_)))))))
  refine wpAny_bind (slicePart_ (.int k u) ?_)
  simp only [Option.getD_some, no, Bool.false_eq_true, if_false]
  exact wpAny_bind (slicePart_ .none (wpAny_bind (slicePart_ .none (wpAny_bind (wpAny_pure (wpAny_pure h))))))
theorem meets_cut (t sl : Addr) (items : Array Value) (k : Int) (u : Tok) (h0 : k ≠ 0) (h1 : k ≠ 1) (hz : (stpL k items.toList).length ≤ sizeLine) :
    Meets (Builtin.«tuple.__getitem__» ⟨[.ref t, .ref sl], []⟩) (fun _ R s => IsTup s.heap t items ∧ s.heap.IsSliceOf sl .none .none (.int k u) ∧
      R (.ok (.ret (.ref s.heap.objs.size))) { s with heap := s.heap.push { cls := .type "tuple", data := .seq (stpL k items.toList).toArray } }) :=
  .of_wp fun prog w A R s ⟨ht, hs, h⟩ => by
    have is : s.TypeIs (.ref sl) "slice" := hs.imp fun _ z => ⟨z.1, z.2.1⟩
    unfold Builtin.«tuple.__getitem__»
    wp_walk using tupleItemsOf_ ht, wpAny_typeOf is, applied_cut hs h0
    have took : ((List.range (stpN k items.size)).filterMap fun (j : Nat) => items[(stpO k items.size + (j : Int) * k).toNat]?).toArray = (stpL k items.toList).toArray := by
      unfold stpL stpJ
      rw [List.filterMap_map]
      exact congrArg List.toArray (fm_congr fun j _ => (Array.getElem?_toList ..).symm)
    rw [took]
    refine wpAny_ite_false (decide_eq_false (by rw [List.size_toArray]; omega)) ?_
    wp_walk
    exact ⟨_, rfl, h⟩
end
/-- a[::k], the step read by tk: z is what the reading says of the thing and the step -/
theorem pe_stp {X : Cx} {e ek : Expr} {te : TE} {tk : TE} {p3 pos : Pos} {r : V → L2.St → Hp → VK → Prop} {z : V → Option Int → Hp → VK → Prop} (hr : ∀ x σ H Q, r x σ H Q → tPart tk σ H fun o H2 => z x o H2 Q)
    (hz : ∀ x o H Q, z x o H Q → ∃ a xs k, x = .ref a ∧ o = some k ∧ k ≠ 0 ∧ k ≠ 1 ∧ (stpL k xs).length ≤ xs.length ∧ SqT X.K H a xs ∧ ∀ p, H p = none → Q (.ref p) (upd H p (.tup (stpL k xs)))) (he : PE X e te) (hk : PE X ek tk) :
    PE X (.Subscript e (.Slice none none (some ek) p3) pos) (fun σ H Q => te σ H fun x H1 => r x σ H1 Q) where
  run pins s σ H Q I h := Subscript_ (thn (he.run pins s σ H _ I h) fun v s1 c => by
    have ⟨x, H1, J, rel, q⟩ := c
    refine wpAny_Slice ?_
    rw [evalPart_none]
    refine wpAny_pure (wpAny_pure (thn ((po_some hk).run pins s1 σ H1 _ J (hr x σ H1 Q q)) fun vs s2 c => ?_))
    have ⟨o, H2, L, part, q⟩ := c
    have ⟨a, xs, k, ex, eo, k0, k1, fit, at_, fin⟩ := hz x o H2 Q q
    clear q
    cases ex
    cases rel
    cases eo
    cases part with | int _ u => ?_
    have N := L.kept (t' := s2.toks) (h' := s2.heap.push { cls := .type "slice", data := .fields #[.none, .none, .int k u] }) fun _ _ z => Heap.get?_push_of_some _ z
    have ⟨its, rs, tup, room⟩ := N.tuple at_
    have len := rs.length
    have same : Vals (stpL k xs) (stpL k its) := by unfold stpL; rw [len]; exact Vals.picks rs _
    have le := same.length
    refine tail_any (ops := [.ref a, .ref s2.heap.objs.size]) tup.typeIs PyProof.Rows.slot_tuple_getitem.lookup (getItem_meets tup.typeIs (by decide) PyProof.Rows.slot_tuple_getitem entry_tuple_getitem (args_tuple_getitem _ _)
      (meets_cut a _ its.toArray k u k0 k1 (le ▸ Nat.le_trans fit room)) ⟨tup, Heap.IsSliceOf.new .., ?_⟩) (by with_unfolding_all rfl)
    exact ⟨.ref _, _, N.laid (t' := s2.toks) (o := .tup (stpL k xs)) (fun _ _ z => Heap.get?_push_of_some _ z) (Nat.le_refl _) ⟨Nat.le_trans fit room, _, same, IsTup.new _ _⟩, rfl, fin _ (N.hok.fresh (Nat.le_refl _))⟩)
/-! ### t[::-1] -/
def tRevA (K : PySem.W.Frag) (te : TE) : TE := fun σ H Q => te σ H fun x H1 => ∃ a xs, x = .ref a ∧ SqT K H1 a xs ∧ ∀ p, H1 p = none → Q (.ref p) (upd H1 p (.tup xs.reverse))
theorem pe_revA {X : Cx} {e : Expr} {te : TE} {k : Nat} {p1 p2 p3 pos : Pos} (he : PE X e te) : PE X (.Subscript e (.Slice none none (some (.UnaryOp .USub (.Constant (.int 1) k p1) p2)) p3) pos) (tRevA X.K te) :=
  pe_stp (tk := tUn (rU fun i => .int (-i)) (tC (.int 1))) (r := fun x _ H Q => ∃ a xs, x = .ref a ∧ SqT X.K H a xs ∧ ∀ p, H p = none → Q (.ref p) (upd H p (.tup xs.reverse))) (z := fun x o H Q => o = some (-1) ∧ ∃ a xs, x = .ref a ∧ SqT X.K H a xs ∧ ∀ p, H p = none → Q (.ref p) (upd H p (.tup xs.reverse)))
    (fun _ _ _ _ q => ⟨1, rfl, -1, rfl, rfl, q⟩) (fun _ _ _ _ ⟨eo, a, xs, ex, h, q⟩ => ⟨a, xs, -1, ex, eo, by decide, by decide, by rw [stpL_rev, List.length_reverse] <;> exact Nat.le_refl _, h, by rw [stpL_rev]; exact q⟩) he (pe_un un_neg pe_int)
section
variable {ι : Type} {G : Gd} {X : ι → Cx} {W : WX} {e : Expr} {es : List Expr} {pos : Pos}
def fRevT (f : Fn Bv) : Fn Cl := fun n ρ => bnd (fFz f n ρ) fun c ρ1 => match c with
  | .fz (.tuple ds) => some (.ok (.fz (.tuple ds.reverse)) ρ1)
  | _ => none
theorem xe_revT {f : Fn Bv} {k : Nat} {p1 p2 p3 : Pos} (hK : ∀ i, (X i).K = G.K) (h : XB G X W e f) : XE G X W (.Subscript e (.Slice none none (some (.UnaryOp .USub (.Constant (.int 1) k p1) p2)) p3) pos) (fRevT f) := by
  obtain ⟨t, h1, h2⟩ := h
  refine ⟨_, fun i => by
    have := pe_revA (k := k) (p1 := p1) (p2 := p2) (p3 := p3) (pos := pos) (h1 i)
    rw [hK i] at this
    exact this, fun n ρ r eq F H σ T' Q hR hP => ?_⟩
  unfold fRevT at eq
  cases q : fFz f n ρ with
  | none => rw [q] at eq; cases eq
  | some r1 =>
    rw [q] at eq
    refine snd_fz h2 n ρ r1 q F H σ T' _ hR ?_
    cases r1 with
    | ex x ρ' => cases eq; exact hP
    | ok c ρ1 =>
      rw [bnd_ok] at eq
      intro F1 H1 v s1 R1
      split at eq
      · rename_i ds
        cases eq
        have r := R1.rp
        cases r with
        | tup hq ra =>
          refine ⟨_, _, rfl, sameT R1.sub hq, fun p hp => ?_⟩
          obtain ⟨s2, R2⟩ := R1.tail.newTup hp ra.reverse
          exact hP _ _ _ (s1.trans s2) R2
      · cases eq
/-! ### isinstance(x, (T1, T2)) -/
def isiD2 (T U : String) (d : D) : Option Bool := match tyD d with
  | some S => match kitB S T with
    | some true => some true
    | some false => kitB S U
    | none => none
  | none => none
theorem kitAny2 {K : PySem.W.Frag} {S T U : String} {b : Bool} (h : (match kitB S T with
    | some true => some true
    | some false => kitB S U
    | none => none) = some b) : PySem.W.kitAny K (.type S) [.type T, .type U] = some b := by
  cases q : kitB S T with
  | none => rw [q] at h; cases h
  | some c =>
    rw [q] at h
    have e1 := kit_ty (K := K) q
    unfold PySem.W.kitAny
    rw [e1]
    cases c with
    | true => cases h; rfl
    | false =>
      have e2 := kit_ty (K := K) h
      dsimp only
      unfold PySem.W.kitAny
      rw [e2]
      cases b <;> rfl
def fIsi2 (T U : String) (f : Fn Bv) : Fn Cl := fun n ρ => bnd (fFz f n ρ) fun c ρ1 => match c with
  | .fz d => match isiD2 T U d with
    | some b => some (.ok (.fz (.bool b)) ρ1)
    | none => none
  | _ => none
theorem xe_isi2 {T U : String} {x y : Str} {p p2 p3 p4 : Pos} {k : Nat} {f : Fn Bv} (hK : ∀ i, (X i).K = G.K) (hg : ∀ i, Gl (X i) "isinstance") (hm : ∀ i, (X i).mg "isinstance" = none) (hgT : ∀ i, Gl (X i) x) (hmT : ∀ i, (X i).mg x = none) (hv : bootBuiltins x = some (.type T)) (hx : x ≠ "__name__") (hxd : (x == ("__debug__" : Str)) = false)
    (hgU : ∀ i, Gl (X i) y) (hmU : ∀ i, (X i).mg y = none) (hvU : bootBuiltins y = some (.type U)) (hxU : y ≠ "__name__") (hxdU : (y == ("__debug__" : Str)) = false) (ha : XB G X W e f)
    (hs1 : ∀ i, starEach [e, .Tuple [.Name x p2, .Name y p3] k p4] (X i).env = (false, eval e (X i).env) :: starEach [.Tuple [.Name x p2, .Name y p3] k p4] (X i).env) (hs2 : ∀ i, starEach [.Tuple [.Name x p2, .Name y p3] k p4] (X i).env = (false, eval (.Tuple [.Name x p2, .Name y p3] k p4) (X i).env) :: starEach [] (X i).env)
    (hpl : ∀ i, (backTo pos (starEach [.Tuple [.Name x p2, .Name y p3] k p4] (X i).env)).any (·.1) = false) (hs3 : ∀ i, starEach [.Name x p2, .Name y p3] (X i).env = (false, eval (.Name x p2) (X i).env) :: starEach [.Name y p3] (X i).env) (hs4 : ∀ i, starEach [.Name y p3] (X i).env = (false, eval (.Name y p3) (X i).env) :: starEach [] (X i).env) :
    XE G X W (.Call (.Name "isinstance" p) [e, .Tuple [.Name x p2, .Name y p3] k p4] [] pos) (fIsi2 T U f) := by
  obtain ⟨t, h1, h2⟩ := ha
  refine ⟨_, fun i => by
    have := pe_callB (x := "isinstance") (p := p) (pos := pos) call_isiT (hg i) (hm i) (by decide +kernel) (pa_cons (h1 i) (pa_cons (pe_tup (x1 := k) (pos := p4) (pa_cons (pe_bltn (v := .ty T) (hgT i) (hmT i) hv rfl hx hxd) (pa_cons (pe_bltn (v := .ty U) (hgU i) (hmU i) hvU rfl hxU hxdU) pa_nil (hs4 i)) (hs3 i))) pa_nil (hs2 i)) (hs1 i)) (by decide) (by decide) (hs1 i) (hpl i)
    rw [hK i] at this
    exact this, fun n ρ r eq F H σ T' Q hR hP => ?_⟩
  unfold fIsi2 at eq
  cases q : fFz f n ρ with
  | none => rw [q] at eq; cases eq
  | some r1 =>
    rw [q] at eq
    refine snd_fz h2 n ρ r1 q F H σ T' _ hR ?_
    cases r1 with
    | ex x ρ' => cases eq; exact hP
    | ok c ρ1 =>
      rw [bnd_ok] at eq
      intro F1 H1 v s1 R1
      split at eq
      · rename_i d
        split at eq
        · rename_i b qb
          cases eq
          refine ⟨by show (2 : Nat) ≤ sizeLine; decide, fun tp ntp => ?_⟩
          obtain ⟨s2, q2⟩ := R1.tail.hr.newF (o := .tup [.ty T, .ty U]) ntp
          have R2 : G.R (upd F1 tp (.tup [.ty T, .ty U])) (upd H1 tp (.tup [.ty T, .ty U])) ρ1 σ T' := ⟨q2, R1.ok⟩
          obtain ⟨S, q1, q3⟩ := ty_of (R1.rp.mono (s2.trans R2.sub))
          unfold isiD2 at qb
          rw [q1] at qb
          exact ⟨v, tp, [.ty T, .ty U], _, [.type T, .type U], b, rfl, upd_same, .cons (.ty T) (.cons (.ty U) .nil), q3, kitAny2 qb, hP _ _ _ (s1.trans s2) (R2.push (.bl b))⟩
        · cases eq
      · cases eq
end
end L3

set_option maxHeartbeats 1000000
namespace L3
open PySem PySem.Spec L2 PyProof.Rows
/-! ### x.m(e, ..), x a slot's cell -/
section
variable {ι : Type} {G : Gd} {X : ι → Cx} {W : WX} {e : Expr} {es : List Expr} {pos : Pos}
def fMth (ok : Cl → Bool) (k : Nat) (f : Fn (List Bv)) (g : Cl → List D → Option (D × Cl)) : Fn Cl := fun n ρ => match (ρ[k]?).join with
  | some c0 => if ok c0 = true then bnd (fFzs f n ρ) fun as ρ1 => match (ρ1[k]?).join with
    | some c => match g c as with
      | some (d, c') => some (.ok (.fz d) (ρ1.set k (some c')))
      | none => none
    | none => none
  else none
  | none => none
def SndM (G : Gd) (T : String) (ok : Cl → Bool) (r : V → List V → Hp → VK → Prop) (g : Cl → List D → Option (D × Cl)) : Prop :=
  (∀ c v F H A, ok c = true → Same F H → G.CR F H c v A → tyV G.K T v H) ∧
  ∀ c as d c', g c as = some (d, c') → ∀ F H L v ws (Q : VK), G.HR F H ((c, v) :: L) → RpA G.K F ws as → (∀ F' H' u, Same F F' → G.HR F' H' ((c', v) :: (.fz d, u) :: L) → Q u H') → r v ws H Q
theorem snd_mth {T : String} {ok : Cl → Bool} {k : Nat} {t : TA} {f : Fn (List Bv)} {r : V → List V → Hp → VK → Prop} {g : Cl → List D → Option (D × Cl)} (ht : SndBs G W t f) (hs : SndM G T ok r g) : SndE G W (tBM G.K T r (tVar k) t) (fMth ok k f g) := fun n ρ rr eq F H σ T' Q hR hP => by
  unfold fMth at eq
  split at eq
  case h_2 => cases eq
  rename_i c0 q0
  split at eq
  case isFalse => cases eq
  rename_i hok
  obtain ⟨v, hv, A, cr⟩ := hR.at (join_some q0)
  refine ⟨v, hv, hs.1 c0 v F H A hok hR.sub cr, ?_⟩
  cases q : fFzs f n ρ with
  | none => rw [q] at eq; cases eq
  | some r1 =>
    rw [q] at eq
    refine snd_fzs ht n ρ r1 q F H σ T' _ hR ?_
    cases r1 with
    | ex x ρ' => cases eq; exact hP
    | ok as ρ1 =>
      rw [bnd_ok] at eq
      intro F1 H1 ws s1 R1 ra
      split at eq
      case h_2 => cases eq
      rename_i c q1
      split at eq
      case h_2 => cases eq
      rename_i d c' q2
      cases eq
      obtain ⟨w, hw, R2⟩ := R.take R1 (join_some q1)
      rw [hv] at hw
      cases hw
      refine hs.2 c as d c' q2 F1 H1 _ v ws _ R2.hr' ra fun F' H' u s2 hr => ?_
      have hk : k < ρ1.length := (List.getElem?_eq_some_iff.mp (join_some q1)).1
      have R3 : G.R F' H' (ρ1.set k none) σ ((c', v) :: (.fz d, u) :: T') := by
        refine ⟨hr.perm ?_, R2.ok⟩
        have p1 : (eL (ρ1.set k none) σ ++ (c', v) :: (Cl.fz d, u) :: T').Perm ((c', v) :: (Cl.fz d, u) :: (eL (ρ1.set k none) σ ++ T')) :=
          (mid _ _ _).trans (List.Perm.cons _ (mid _ _ _))
        exact p1.symm
      have R4 := R.put R3 (c := c') (i := k) (by rw [List.getElem?_set_self hk]) hv
      rw [List.set_set] at R4
      exact hP F' H' u (s1.trans s2) R4
theorem xe_mth {T : String} {ok : Cl → Bool} {k : Nat} {x m : Str} {p1 p2 : Pos} {f : Fn (List Bv)} {r : V → List V → Hp → VK → Prop} {g : Cl → List D → Option (D × Cl)} (hK : ∀ i, (X i).K = G.K) (hp : ∀ t, (∀ j, PA (X j) (e :: es) t) → ∀ j, PE (X j) (.Call (.Attribute (.Name x p1) m p2) (e :: es) [] pos) (tBM (X j).K T r (tVar k) t)) (hs : SndM G T ok r g) (h : XBs G X W (e :: es) f) :
    XE G X W (.Call (.Attribute (.Name x p1) m p2) (e :: es) [] pos) (fMth ok k f g) := by
  obtain ⟨t, h1, h2⟩ := h
  exact ⟨_, fun i => by have := hp t h1 i; rw [hK i] at this; exact this, snd_mth h2 hs⟩
/-! ### lists' methods -/
def isL : Cl → Bool
  | .lst _ => true
  | _ => false
theorem isL_ty : ∀ c v F H A, isL c = true → Same F H → G.CR F H c v A → tyV G.K "list" v H := fun c v F H A h s cr => by
  cases cr with
  | lst h1 h2 r => exact .inl ⟨rfl, _, .inl (.inl h1)⟩
  | fz _ => cases h
  | dct _ _ _ => cases h
  | dtt _ _ _ => cases h
  | dlk _ _ => cases h
  | dlt _ _ => cases h
  | bx _ _ _ _ _ _ => cases h
  | ins _ _ _ _ _ => cases h
  | exn _ _ _ => cases h
  | lls _ _ _ => cases h
  | nst _ _ _ _ _ _ => cases h
def gApp : Cl → List D → Option (D × Cl)
  | .lst ds, [d] => if Nat.ble ds.length 10000000 = true then some (.none, .lst (ds ++ [d])) else none
  | _, _ => none
theorem sm_app : SndM G "list" isL rAppend gApp := ⟨isL_ty, fun c as d c' eq F H L v ws Q hr ra hQ => by
  unfold gApp at eq
  split at eq
  case h_2 => cases eq
  rename_i ds y
  split at eq
  case isFalse => cases eq
  rename_i hl
  cases eq
  obtain ⟨A, cr⟩ := hr.head
  cases cr with
  | lst h1 h2 r =>
    cases ra with
    | cons ry ra =>
      cases ra
      have hl := Nat.le_of_ble_eq_true hl
      refine ⟨_, _, _, rfl, rfl, h1, by rw [r.length, sizeLine_eq]; omega, hQ F _ .non (Same.refl _) ?_⟩
      have h3 := hr.mut (c' := .lst (ds ++ [y])) (fun A h => by cases h; rfl) (.lst upd_same h2 (r.append (.cons ry .nil)))
      exact (HR.push h3 .non).swap⟩
/-! ### in, not in -/
def flatD : D → Bool
  | .none => true
  | .bool _ => true
  | .int _ => true
  | .str _ => true
  | _ => false
theorem flat_rp {K : PySem.W.Frag} {F : Hp} {v : V} {d : D} (h : Rp K F v d) (hd : flatD d = true) : flatV v = true := by
  cases h <;> first | rfl | cases hd
theorem flat_rpA {K : PySem.W.Frag} {F : Hp} : ∀ {vs : List V} {ds : List D}, RpA K F vs ds → ds.all flatD = true → vs.all flatV = true
  | _, _, .nil, _ => rfl
  | _, _, .cons h r, hd => by
    rw [List.all_cons, Bool.and_eq_true] at hd ⊢
    exact ⟨flat_rp h hd.1, flat_rpA r hd.2⟩
theorem eqV_rp {K : PySem.W.Frag} {F : Hp} {v w : V} {d e : D} (h : Rp K F v d) (h' : Rp K F w e) (hd : flatD d = true) (he : flatD e = true) : eqV v w = PyData.eqv d e := by
  cases h <;> first | (cases hd; done) | (cases h' <;> first | (cases he; done) | (simp only [PyData.eqv]; rfl))
theorem inV_rp {K : PySem.W.Frag} {F : Hp} {v : V} {d : D} (h : Rp K F v d) (hd : flatD d = true) : ∀ {vs : List V} {ds : List D}, RpA K F vs ds → ds.all flatD = true → inV v vs = ds.any fun z => PyData.eqv z d
  | _, _, .nil, _ => rfl
  | _, _, .cons h' r, he => by
    rw [List.all_cons, Bool.and_eq_true] at he
    show (eqV _ v || inV v _) = _
    rw [eqV_rp h' h he.1 hd, inV_rp h hd r he.2]; rfl
def seqD (c : Cl) : Option (List D) := match c.data with
  | some (.list ds) => some ds
  | some (.tuple ds) => some ds
  | _ => none
/-- neg: not in -/
def gIn (neg : Bool) : List Cl → Option Cl
  | [.fz d, c] => match seqD c with
    | some ds => if (flatD d && ds.all flatD) = true then some (.fz (.bool (if neg = true then !(ds.any fun z => PyData.eqv z d) else ds.any fun z => PyData.eqv z d))) else
      match c.data with
      | some (.list ds) => if (SeqAt.shaped d && SeqAt.shaped (.list ds)) = true then some (.fz (.bool (if neg = true then !(ds.any fun z => PyData.eqv z d) else ds.any fun z => PyData.eqv z d))) else none
      | _ => none
    | none => none
  | _ => none
def rInA (K : PySem.W.Frag) (neg : Bool) : R2 := fun x y H Q => rIn K neg x y H Q ∨ (if neg = true then rNotInD K x y H Q else rInD K x y H Q)
theorem op_inA {Y : Cx} (hu : Y.A.units + 65 < cLine) : OpR Y (compareOp .In) (rInA Y.K false) := by
  intro pins s σ H x y v u Q I rx ry h
  rcases h with h | h
  · exact op_in_seq pins s σ H x y v u Q I rx ry h
  · exact op_inD hu pins s σ H x y v u Q I rx ry h
theorem op_notInA {Y : Cx} (hu : Y.A.units + 65 < cLine) : OpR Y (compareOp .NotIn) (rInA Y.K true) := by
  intro pins s σ H x y v u Q I rx ry h
  rcases h with h | h
  · exact op_notIn_seq pins s σ H x y v u Q I rx ry h
  · exact op_notInD hu pins s σ H x y v u Q I rx ry h
theorem prm_in {neg : Bool} : Prm G (l2 (rInA G.K neg)) (gIn neg) := fun F H L cs vs c Q hr hc e hQ => by
  unfold gIn at e
  split at e
  case h_2 => cases e
  rename_i d cc
  obtain ⟨v1, v2, A1, A2, rfl, h1, h2⟩ := crs2 hc
  have r1 := h1.rpF rfl
  split at e
  case h_2 => cases e
  rename_i ds q
  split at e
  · rename_i hz
    rw [Bool.and_eq_true] at hz
    cases e
    unfold seqD at q
    split at q
    · rename_i q1
      cases q
      obtain ⟨a, ws, rfl, s1, ra⟩ := h2.seqL hr.sub q1
      refine .inl ⟨a, ws, rfl, .inl s1, flat_rp r1 hz.1, flat_rpA ra hz.2, ?_⟩
      rw [inV_rp r1 hz.1 ra hz.2]
      exact hQ F H _ (Same.refl _) (hr.push (.bl _))
    · rename_i q1
      cases q
      obtain ⟨a, ws, rfl, s1, ra⟩ := h2.seqT hr.sub q1
      refine .inl ⟨a, ws, rfl, .inr (sameT hr.sub s1), flat_rp r1 hz.1, flat_rpA ra hz.2, ?_⟩
      rw [inV_rp r1 hz.1 ra hz.2]
      exact hQ F H _ (Same.refl _) (hr.push (.bl _))
    · cases q
  · split at e
    · rename_i ds' q1
      split at e
      · rename_i hz
        rw [Bool.and_eq_true] at hz
        cases e
        have d1 := (h1.rp hr.sub rfl).dp (SeqAt.canLay_of_shaped hz.1)
        have d2 := (h2.rp hr.sub q1).dp (SeqAt.canLay_of_shaped hz.2)
        refine .inr ?_
        cases neg with
        | true =>
          rw [if_pos rfl]
          exact ⟨d, ds', d1, d2, hz.1, hz.2, hQ F H _ (Same.refl _) (hr.push (.bl _))⟩
        | false =>
          rw [if_neg Bool.false_ne_true]
          exact ⟨d, ds', d1, d2, hz.1, hz.2, hQ F H _ (Same.refl _) (hr.push (.bl _))⟩
      · cases e
    · cases e
end
end L3
namespace L3
open PySem PySem.Spec L2 PyProof.Rows
/-! ### a, b = x, y, where the two stores are not swapped: a tuple is made and taken apart -/
section
variable {ι : Type} {G : Gd} {X : ι → Cx} {W : WX} {P : List Nat}
theorem xs_parU {i j : Nat} {a b : Expr} {f g : Fn Cl} {st : Stmt} (hi : i ∉ P) (hj : j ∉ P) (hp : ∀ t u, (∀ j, PE (X j) a t) → (∀ j, PE (X j) b u) → ∀ k, PS (X k) st (tAsg (tTup (tCons t (tCons u tNil))) (gTup (X k).K 2 (gCons (gName i) (gCons (gName j) gNil))))) (hK : ∀ i, (X i).K = G.K) (h : XE G X W a f) (h' : XE G X W b g) : XS G X W P st (sPar i j f g) := by
  obtain ⟨t, h1, h2⟩ := h
  obtain ⟨u, h3, h4⟩ := h'
  refine ⟨_, fun k => by have := hp t u h1 h3 k; rw [hK k] at this; exact this, fun n ρ o e F H σ T D hR hP => ?_⟩
  unfold sPar at e
  cases q : f n ρ with
  | none => rw [q] at e; cases e
  | some r1 =>
    rw [q] at e
    refine h2 n ρ r1 q F H σ T _ hR ?_
    cases r1 with
    | ex x ρ' => cases e; exact hP.px
    | ok c ρ1 =>
      rw [bS_ok] at e
      intro F1 H1 v s1 R1
      cases q2 : g n ρ1 with
      | none => rw [q2] at e; cases e
      | some r2 =>
        rw [q2] at e
        refine h4 n ρ1 r2 q2 F1 H1 σ _ _ R1 ?_
        cases r2 with
        | ex x ρ' =>
          cases e
          exact fun F' H' cls d s r q => hP.px F' H' cls d (s1.trans s) r.tail q
        | ok d ρ2 =>
          rw [bS_ok] at e
          intro F2 H2 w s2 R2
          split at e
          · rename_i hl
            cases e
            refine ⟨by show (2 : Nat) ≤ sizeLine; decide, fun p np => ?_⟩
            obtain ⟨s3, q3⟩ := R2.hr.newF (o := .tup [v, w]) np
            refine ⟨p, [v, w], rfl, .inl (.inl upd_same), rfl, v, [w], rfl, w, [], rfl, rfl, ?_⟩
            refine hP (upd F2 p (.tup [v, w])) _ _ ((s1.trans s2).trans s3) ?_ ((Kp.set hi).trans (Kp.set hj))
            have R2' : G.R (upd F2 p (.tup [v, w])) (upd H2 p (.tup [v, w])) ρ2 σ ((d, w) :: (c, v) :: T) := ⟨q3, R2.ok⟩
            have R3 := R2'.swap.set (i := i) hl.1
            exact R3.set (by rw [List.length_set]; exact hl.2)
          · cases e
theorem xs_parA {i j : Nat} {a b : Expr} {f g : Fn Cl} {x y : Str} {px py pt pt2 pos : Pos} {kt k2 : Nat} (hi : i ∉ P) (hj : j ∉ P) (hK : ∀ i, (X i).K = G.K)
    (hp : (∀ t u, (∀ j, PE (X j) a t) → (∀ j, PE (X j) b u) → ∀ k, PS (X k) (.Assign [.Tuple [.Name x px, .Name y py] kt pt] (.Tuple [a, b] k2 pt2) pos) (tPar i j (tCons t (tCons u tNil)))) ∨ (∀ t u, (∀ j, PE (X j) a t) → (∀ j, PE (X j) b u) → ∀ k, PS (X k) (.Assign [.Tuple [.Name x px, .Name y py] kt pt] (.Tuple [a, b] k2 pt2) pos) (tAsg (tTup (tCons t (tCons u tNil))) (gTup (X k).K 2 (gCons (gName i) (gCons (gName j) gNil))))))
    (h : XE G X W a f) (h' : XE G X W b g) : XS G X W P (.Assign [.Tuple [.Name x px, .Name y py] kt pt] (.Tuple [a, b] k2 pt2) pos) (sPar i j f g) := by
  rcases hp with hp | hp
  · exact xs_par hi hj hp h h'
  · exact xs_parU hi hj hp hK h h'
end
end L3

set_option maxHeartbeats 1000000
namespace L3
open PySem PySem.Spec L2 PyProof.Rows
/-! ### dict comprehensions -/
def putD {κ : Type} [DecidableEq κ] (es : List (κ × D)) (k : κ) (d : D) : List (κ × D) :=
  if (es.any fun kv => decide (kv.1 = k)) = true then es.map (fun kv => if kv.1 = k then (kv.1, d) else kv) else es ++ [(k, d)]
theorem any_ks {K : PySem.W.Frag} {F : Hp} {κ : Type} [DecidableEq κ] (k : κ) : ∀ {kvs : List (κ × V)} {es : List (κ × D)}, RpKs K F kvs es → (kvs.any fun kv => decide (kv.1 = k)) = es.any fun kv => decide (kv.1 = k)
  | _, _, .nil => rfl
  | _, _, .cons h r => by
    rw [List.any_cons, List.any_cons, any_ks k r]
theorem map_ks {K : PySem.W.Frag} {F : Hp} {κ : Type} [DecidableEq κ] {k : κ} {v : V} {d : D} (h : Rp K F v d) : ∀ {kvs : List (κ × V)} {es : List (κ × D)}, RpKs K F kvs es → RpKs K F (kvs.map fun kv => if kv.1 = k then (kv.1, v) else kv) (es.map fun kv => if kv.1 = k then (kv.1, d) else kv)
  | _, _, .nil => .nil
  | _, _, .cons (k := k') h' r => by
    rw [List.map_cons, List.map_cons]
    by_cases e : k' = k
    · rw [if_pos e, if_pos e]
      exact .cons h (map_ks h r)
    · rw [if_neg e, if_neg e]
      exact .cons h' (map_ks h r)
theorem putD_rp {K : PySem.W.Frag} {F : Hp} {κ : Type} [DecidableEq κ] {kvs : List (κ × V)} {es : List (κ × D)} (r : RpKs K F kvs es) (k : κ) {v : V} {d : D} (h : Rp K F v d) : RpKs K F (putK kvs k v) (putD es k d) := by
  unfold putK putD
  rw [any_ks k r]
  split
  · exact map_ks h r
  · exact r.append (.cons h .nil)
theorem RpKs.len {K : PySem.W.Frag} {F : Hp} {κ : Type} : ∀ {kvs : List (κ × V)} {es : List (κ × D)}, RpKs K F kvs es → kvs.length = es.length
  | _, _, .nil => rfl
  | _, _, .cons _ r => congrArg (· + 1) (RpKs.len r)
theorem putD_len {κ : Type} [DecidableEq κ] (es : List (κ × D)) (k : κ) (d : D) : (putD es k d).length ≤ es.length + 1 := by
  unfold putD
  split
  · rw [List.length_map]; omega
  · rw [List.length_append]; exact Nat.le_refl _
def keyD : D → Option Key
  | .int i => some (.inl i)
  | .str x => some (.inr x)
  | _ => none
theorem keyD_rp {K : PySem.W.Frag} {F : Hp} {v : V} {d : D} {k : Key} (h : Rp K F v d) (e : keyD d = some k) : v = kV k := by
  cases h <;> first | (cases e; done) | (cases e; rfl)
def dcF (N : Nat) (g : FG) (t : Fn Bool) (ek ev : Fn Bv) (vs : List Nat) (n : Nat) : List D → En → List (Key × D) → Option (Rz Cl)
  | [], ρ, acc => some (.ok (.dct acc) ρ)
  | d :: ds, ρ, acc => match g d ρ with
    | some ρ2 => if ρ2.length = N then (match t n ρ2 with
      | some (.ok true ρ3) => match fFz ek n ρ3 with
        | some (.ok (.fz kd) ρ4) => match keyD kd with
          | some k => match fFz ev n ρ4 with
            | some (.ok (.fz y) ρ5) => dcF N g t ek ev vs n ds (wipR ρ5 vs) (putD acc k y)
            | _ => none
          | none => none
        | _ => none
      | some (.ok false ρ3) => dcF N g t ek ev vs n ds (wipR ρ3 vs) acc
      | _ => none) else none
    | none => none
def fDc (N : Nat) (vs : List Nat) (i : Fn (List D)) (g : FG) (t : Fn Bool) (ek ev : Fn Bv) : Fn Cl := fun n ρ => bnd (i n ρ) fun ds ρ1 =>
  if (vs.all (fun j => decide (j < N)) && decide (ρ1.length = N) && decide (ds.length ≤ 1000000)) = true then dcF N g t ek ev vs n ds (wipR ρ1 vs) [] else none
section
variable {ι : Type} {G : Gd} {X : ι → Cx} {W : WX}
theorem snd_dc {N : Nat} {vs : List Nat} {wi : TI} {tg : TG} {tt : TT} {tk tv : TE} {i : Fn (List D)} {g : FG} {t : Fn Bool} {ek ev : Fn Bv} (hi : SndI G W wi i) (hg : SndG G (outP N vs) tg g) (ht : SndT G W0 tt t) (hek : SndB G W0 tk ek) (hev : SndB G W0 tv ev) : SndE G W (tDc wi tg tt tk tv vs) (fDc N vs i g t ek ev) := fun n ρ r eq F H σ T Q hR hP => by
  unfold fDc at eq
  cases q : i n ρ with
  | none => rw [q] at eq; cases eq
  | some r1 =>
    rw [q] at eq
    refine hi n ρ r1 q F H σ T _ hR ?_
    cases r1 with
    | ex x ρ' => cases eq; exact hP
    | ok ds ρ1 =>
      rw [bnd_ok] at eq
      split at eq
      case isFalse => cases eq
      rename_i hh
      rw [Bool.and_eq_true, Bool.and_eq_true] at hh
      obtain ⟨⟨hn, hN⟩, hz⟩ := hh
      have hN := of_decide_eq_true hN
      have hn : ∀ j ∈ vs, (wipR ρ1 vs)[j]? = some none := fun j hj => wipR_at ρ1 vs j hj (by
        have := of_decide_eq_true (List.all_eq_true.mp hn j hj)
        omega)
      have hz := of_decide_eq_true hz
      intro F1 H1 J s1 R1 ok Dn hD
      have lσ : ρ1.length = σ.length := R1.ok.len
      have Rw : G.R F1 H1 (wipR ρ1 vs) (wipe σ vs) T := R1.wip vs
      have Rs : G.R F1 (upd H1 Dn (.dK [])) (wipR ρ1 vs) (wipe σ vs) ((.dct [], .ref Dn) :: T) := .mk' (Rw.hr.newO hD (.dct upd_same (Rw.sub.free hD) .nil)) Rw.ok
      refine ⟨fun k m H' => ∃ ρ' F' acc, m = ds.length - k ∧ k ≤ ds.length ∧ acc.length ≤ k ∧ Same F1 F' ∧ G.R F' H' ρ' (wipe σ vs) ((.dct acc, .ref Dn) :: T) ∧ (∀ j ∈ vs, ρ'[j]? = some none) ∧ ρ'.length = N ∧ dcF N g t ek ev vs n (ds.drop k) ρ' acc = some r,
        ⟨ds.length, wipR ρ1 vs, F1, [], by simp, Nat.zero_le _, Nat.le_refl _, Same.refl _, Rs, hn, by rw [wipR_len]; exact hN, by rw [List.drop_zero]; exact eq⟩, ?_⟩
      rintro k m H' ⟨ρ', F', acc, rfl, hk, ha, s', R', hn', hN', eo⟩
      by_cases hlt : k < ds.length
      case neg =>
        have ek' : k = ds.length := by omega
        subst ek'
        rw [List.drop_length] at eo
        cases eo
        refine .inl ⟨ok.stop F' H' _ _ s' R'.hr (Nat.le_refl _), hP F' H' _ (s1.trans s') (R'.agree (wipe_length _ _).symm fun j c hc => (wipe_out fun m => by rw [hn' j m] at hc; cases hc).symm)⟩
      rw [List.drop_eq_getElem_cons hlt] at eo
      unfold dcF at eo
      cases q1 : g ds[k] ρ' with
      | none => rw [q1] at eo; cases eo
      | some ρ2 =>
        rw [q1] at eo
        dsimp only at eo
        by_cases l2 : ρ2.length = N
        case neg => rw [if_neg l2] at eo; cases eo
        rw [if_pos l2] at eo
        refine .inr ⟨ok.go F' H' _ k s' R'.hr hlt, fun H3 => ∃ ρ3 F3 acc3, acc3.length ≤ k + 1 ∧ Same F1 F3 ∧ G.R F3 H3 ρ3 (wipe σ vs) ((.dct acc3, .ref Dn) :: T) ∧ (∀ j ∈ vs, ρ3[j]? = some none) ∧ ρ3.length = N ∧ dcF N g t ek ev vs n (ds.drop (k + 1)) ρ3 acc3 = some r, ?_, ?_⟩
        · rintro H3 ⟨ρ3, F3, acc3, ha3, s3, R3, hn3, hN3, e3⟩
          exact ⟨ds.length - (k + 1), by omega, ρ3, F3, acc3, rfl, hlt, ha3, s3, R3, hn3, hN3, e3⟩
        · intro x H2 hy
          obtain ⟨F2, s2, hr2, rx⟩ := ok.yld F' H' _ k x H2 ds[k] s' R'.hr (List.getElem?_eq_getElem hlt) hy
          refine hg ds[k] ρ' ρ2 q1 F2 H2 (wipe σ vs) _ x _ ⟨hr2, R'.ok⟩ rx fun σ4 R4 k4 => ?_
          have l4 : σ4.length = σ.length := by
            have h1 := R4.ok.len
            have h2 := R'.ok.len
            rw [wipe_length] at h2
            omega
          have w4 : wipe σ4 vs = wipe σ vs := by
            have e1 : wipe σ4 vs = wipe (wipe σ vs) vs := wipe_eq (by rw [l4, wipe_length]) fun j hj m => by
              refine k4 j (List.mem_filter.mpr ⟨List.mem_range.mpr ?_, by simp [m]⟩)
              rw [wipe_length] at hj
              omega
            rw [e1]
            exact wipe_eq (wipe_length _ _) fun j hj m => wipe_out m
          refine ⟨w4, ?_⟩
          have s02 := s'.trans s2
          have back : ∀ {ρ9 : En} {F9 H9 : Hp} {acc9 : List (Key × D)}, G.R F9 H9 ρ9 σ4 ((.dct acc9, .ref Dn) :: T) → (∀ j ∈ vs, (wipR ρ9 vs)[j]? = some none) ∧ (wipR ρ9 vs).length = N := fun {ρ9 F9 H9 acc9} R9 => by
            have h1 := R9.ok.len
            have h2 := R4.ok.len
            refine ⟨fun j hj => wipR_at ρ9 vs j hj ?_, by rw [wipR_len]; omega⟩
            have := (List.getElem?_eq_some_iff.mp (hn' j hj)).1
            omega
          cases q2 : t n ρ2 with
          | none => rw [q2] at eo; cases eo
          | some o2 =>
            rw [q2] at eo
            refine ht n ρ2 o2 q2 F2 H2 σ4 _ _ R4 ?_
            cases o2 with
            | ex x ρ3 => cases eo
            | ok b ρ3 =>
              intro F3 H3 s3 R3
              cases b with
              | false =>
                rw [if_neg Bool.false_ne_true]
                dsimp only at eo
                have Rn := R3.wip vs
                rw [w4] at Rn
                exact ⟨wipR ρ3 vs, F3, acc, Nat.le_succ_of_le ha, s02.trans s3, Rn, (back R3).1, (back R3).2, eo⟩
              | true =>
                rw [if_pos rfl]
                dsimp only at eo
                cases q3 : fFz ek n ρ3 with
                | none => rw [q3] at eo; cases eo
                | some o3 =>
                  rw [q3] at eo
                  refine snd_fz hek n ρ3 o3 q3 F3 H3 σ4 _ _ R3 ?_
                  cases o3 with
                  | ex x ρ4 => cases eo
                  | ok c ρ4 =>
                    intro F4 H4 y s4 R4'
                    cases c with
                    | lst _ => cases eo
                    | dct _ => cases eo
                    | dtt _ => cases eo
                    | dlk _ => cases eo
                    | dlt _ => cases eo
                    | bx _ _ => cases eo
                    | ins _ _ => cases eo
                    | exn _ _ => cases eo
                    | nst _ _ => cases eo
                    | fz kd =>
                      dsimp only at eo
                      cases qk : keyD kd with
                      | none => rw [qk] at eo; cases eo
                      | some key =>
                        rw [qk] at eo
                        dsimp only at eo
                        have ey := keyD_rp R4'.rp qk
                        have R5 := R4'.tail
                        cases q4 : fFz ev n ρ4 with
                        | none => rw [q4] at eo; cases eo
                        | some o4 =>
                          rw [q4] at eo
                          refine snd_fz hev n ρ4 o4 q4 F4 H4 σ4 _ _ R5 ?_
                          cases o4 with
                          | ex x ρ5 => cases eo
                          | ok c2 ρ5 =>
                            intro F5 H5 z s5 R5'
                            cases c2 with
                            | lst _ => cases eo
                            | dct _ => cases eo
                            | dtt _ => cases eo
                            | dlk _ => cases eo
                            | dlt _ => cases eo
                            | bx _ _ => cases eo
                            | ins _ _ => cases eo
                            | exn _ _ => cases eo
                            | nst _ _ => cases eo
                            | fz dz =>
                              dsimp only at eo
                              have rz := R5'.rp
                              have R6 := R5'.tail
                              obtain ⟨A, cr⟩ := R6.cr
                              cases cr with
                              | @dct a kvs es h1 h2 r2 =>
                                refine ⟨kvs, key, ey, h1, ?_, ?_⟩
                                · rw [r2.len]
                                  exact Nat.lt_of_le_of_lt (Nat.le_trans ha (Nat.le_trans hk hz)) tM
                                · have R7 : G.R F5 (upd H5 Dn (.dK (putK kvs key z))) ρ5 σ4 ((.dct (putD acc key dz), .ref Dn) :: T) :=
                                    .mk' (R6.hr'.mut (fun A h => by cases h; rfl) (.dct upd_same h2 (putD_rp r2 key rz))) R6.ok
                                  have Rn := R7.wip vs
                                  rw [w4] at Rn
                                  refine ⟨wipR ρ5 vs, F5, putD acc key dz, ?_, ((s02.trans s3).trans s4).trans s5, Rn, (back R7).1, (back R7).2, eo⟩
                                  have := putD_len acc key dz
                                  omega
variable {P : List Nat}
theorem xe_dc0 {kx vx tg iter : Expr} {scope : Scope} {own : List (Str × Nat)} {pos : Pos} {N : Nat} {i : Fn (List D)} {g : FG} {ek ev : Fn Bv} (hc : ∀ j, (X j).calm = true) (hN : ∀ j, (X j).N.Nodup) (hi : XI G X W tg iter i) (ok : ∀ j, BlkOk (X j).N (X j).env.scope scope own)
    (hg : XG G (blkX X scope) (outP N (own.map (·.2))) tg g) (hk : XB G (blkX X scope) W0 kx ek) (he : XB G (blkX X scope) W0 vx ev) (hs : ∀ j, ∀ x, foldedSetIterable iter (X j).env x = pure x) :
    XE G X W (.DictComp kx vx [⟨tg, iter, [], 0⟩] scope pos) (fDc N (own.map (·.2)) i g fYes ek ev) := by
  obtain ⟨wi, a1, a2⟩ := hi
  obtain ⟨tg', b1, b2⟩ := hg
  obtain ⟨tk, d1, d2⟩ := hk
  obtain ⟨te, c1, c2⟩ := he
  refine ⟨_, fun j => pe_dc (hc j) (hN j) (a1 j) (ok j) (fun s H C cl fp => b1 (j, ⟨s, H, C, cl, fp⟩)) (fun _ _ _ _ _ => pts_nil) (fun s H C cl fp => d1 (j, ⟨s, H, C, cl, fp⟩)) (fun s H C cl fp => c1 (j, ⟨s, H, C, cl, fp⟩)) (hs j), snd_dc a2 b2 (fun n ρ r e F H σ T Q hR hP => ?_) d2 c2⟩
  cases e
  exact hP F H (Same.refl _) hR
/-! ### len of a dict too -/
def gLenA : List Cl → Option Cl
  | [.dct es] => some (.fz (.int es.length))
  | cs => gLen cs
def rLenB (K : PySem.W.Frag) : List V → Hp → VK → Prop := fun xs H Q => rLenA K xs H Q ∨ ∃ a kvs, xs = [V.ref a] ∧ H a = some (.dK kvs) ∧ Q (.int kvs.length) H
theorem call_lenB {Y : Cx} : CallR Y (.builtin "len") (rLenB Y.K) := call_lenA.or call_lenD
theorem prm_lenA : Prm G (rLenB G.K) gLenA := fun F H L cs vs c Q hr hc e hQ => by
  unfold gLenA at e
  split at e
  · rename_i es
    cases e
    obtain ⟨v1, A1, rfl, h1⟩ := crs1 hc
    cases h1 with
    | dct h1 h2 r => exact .inr ⟨_, _, rfl, h1, by rw [r.len]; exact hQ F H _ (Same.refl _) (hr.push (.int _))⟩
  · exact .inl (prm_len F H L cs vs c Q hr hc e hQ)
end
end L3

set_option maxHeartbeats 1000000
namespace L2
open PySem PySem.Spec PyProof.Rows
/-- the keys of a dict at hand: it is locked from here on -/
def iKeysL (td : TE) : TI := fun σ H R => td σ H fun x H1 => ∃ d kvs, x = .ref d ∧ ((∃ o, H1 d = some (.frz o (.dK kvs)) ∧ R (Itk d o kvs) H1) ∨ (H1 d = some (.dK kvs) ∧ ∀ o, R (Itk d o kvs) (upd H1 d (.frz o (.dK kvs)))))
theorem pi_keysL {X : Cx} {tg e : Expr} {td : TE} (he : PE X e td) : PI X tg e (iKeysL td) where
  run pins s σ H R I h := thn (he.run pins s σ H _ I h) fun u s1 got => by
    have ⟨x, H1, J, rel, d, kvs, ex, q⟩ := got
    cases ex
    cases rel
    have go : ∀ {o : Obj} {H2 : Hp}, Inv X pins σ H2 s1 → H2 d = some (.frz o (.dK kvs)) → R (Itk d o kvs) H2 → wpAny (model X.prog X.w) X.A (pyIter (.ref d)) (PIE X pins σ tg R) X.xe s1 := fun L at_ r => by
      have ⟨hs, gd, hx, _, _, _, dt, sz, _, _⟩ := L.frzK at_
      exact iter_keys hs gd hx dt (pi_one (tk := s1.toks) L _ (turn_keys _ dt) ⟨_, Heap.get?_push_size _ rfl, rfl, by rw [sz] <;> rfl⟩ r)
    rcases q with ⟨_, at_, r⟩ | ⟨at_, r⟩
    · exact go J at_ r
    · have ⟨o, L⟩ := J.lock at_ trivial
      exact go L upd_same (r o)
end L2
namespace L3
open PySem PySem.Spec L2 PyProof.Rows
theorem u1 {k : Nat} {A : Around} (hr : Room k A) : A.units + 1 < cLine := by
  have := hr.un
  omega
/-! ### dicts held by a slot -/
def getK (es : List (Key × D)) (k : Key) : Option D := (es.find? fun p => decide (p.1 = k)).map (·.2)
theorem getK_rp {K : PySem.W.Frag} {F : Hp} (k : Key) : ∀ {kvs : List (Key × V)} {es : List (Key × D)}, RpKs K F kvs es → (getK es k = none ∧ valV kvs k = none) ∨ ∃ v d, getK es k = some d ∧ valV kvs k = some v ∧ Rp K F v d
  | _, _, .nil => .inl ⟨rfl, rfl⟩
  | _, _, .cons (k := k') (v := v) (d := d) h r => by
    by_cases e : k' = k
    · refine .inr ⟨v, d, ?_, valV_pos e, h⟩
      simp [getK, List.find?_cons, e]
    · have e1 : ∀ es, getK ((k', d) :: es) k = getK es k := fun es => by simp [getK, List.find?_cons, e]
      rw [e1, valV_neg (p := (k', v)) e]
      exact getK_rp k r
def keysD (es : List (Key × D)) : List D := es.map fun p => kD p.1
theorem rp_kV {K : PySem.W.Frag} {F : Hp} : ∀ k : Key, Rp K F (kV k) (kD k)
  | .inl i => .int i
  | .inr x => .str x
theorem keys_rp {K : PySem.W.Frag} {F : Hp} : ∀ {kvs : List (Key × V)} {es : List (Key × D)}, RpKs K F kvs es → ∀ (i : Nat) (d : D), (keysD es)[i]? = some d → ∀ k v, kvs[i]? = some (k, v) → Rp K F (kV k) d
  | _, _, .cons (k := k') h r, 0, d, e, k, v, e2 => by
    cases e
    cases e2
    exact rp_kV _
  | _, _, .cons h r, i + 1, d, e, k, v, e2 => keys_rp r i d e k v e2
section
variable {G : Gd} {F : Hp} {a : Addr} {o : Obj} {kvs : List (Key × V)} {es : List (Key × D)}
theorem itok_keys (h : F a = some (.frz o (.dK kvs))) (r : RpKs G.K F kvs es) : ItOk G (Itk a o kvs) F (keysD es) where
  go := fun F' H' L i s hr hi => ⟨hr.sub _ _ (s _ _ h), by rw [r.len]; simpa [keysD] using hi⟩
  yld := fun F' H' L i x H'' d s hr hd hy => by
    obtain ⟨rfl, k, v, hk, rfl⟩ := hy
    exact ⟨F', Same.refl _, hr, (keys_rp r i d hd k v hk).mono s⟩
  stop := fun F' H' L i s hr hi => ⟨hr.sub _ _ (s _ _ h), by rw [r.len]; simpa [keysD] using hi⟩
end
/-- an object of one's own is frozen as another -/
theorem HR.lock {K : PySem.W.Frag} {cl : Str → Addr → Prop} {F H : Hp} {L : List (Cl × V)} {p : Addr} {o : HO} {c c' : Cl} (h : HR K cl F H ((c, .ref p) :: L)) (h1 : ∀ A, CR K cl F H c (.ref p) A → A = [p]) (hc : ∀ F', Same F F' → F' p = some o → CR K cl F' (upd H p o) c' (.ref p) []) : ∃ F', Same F F' ∧ F' p = some o ∧ HR K cl F' (upd H p o) ((c', .ref p) :: L) := by
  obtain ⟨s, A, n, q⟩ := h
  cases q with
  | cons q r =>
    have e := h1 _ q
    subst e
    have n' := List.nodup_cons.mp n
    have fp := (q.fr p (List.mem_singleton.mpr rfl)).1
    have sm : Same F (upd F p o) := fun b u e => by rw [upd_ne (ne_of_none e fp)]; exact e
    refine ⟨upd F p o, sm, upd_same, fun b u e => ?_, _, n'.2, .cons (hc _ sm upd_same) (r.mono sm fun a ha => ?_)⟩
    · by_cases hb : b = p
      · subst hb; rw [upd_same] at e ⊢; exact e
      · rw [upd_ne hb] at e ⊢; exact s _ _ e
    · have ne : a ≠ p := fun z => n'.1 (z ▸ ha)
      rw [upd_ne ne, upd_ne ne]
      exact ⟨(r.fr a ha).1, rfl⟩
section
variable {ι : Type} {G : Gd} {X : ι → Cx} {W : WX} {P : List Nat} {e ie tg : Expr} {pos : Pos}
def fIDct (k : Nat) : Fn (List D) := fun n ρ => match (ρ[k]?).join with
  | some (.dct es) => some (.ok (keysD es) (ρ.set k (some (.dlk es))))
  | some (.dlk es) => some (.ok (keysD es) ρ)
  | _ => none
theorem snd_idct {k : Nat} : SndI G W (iKeysL (tVar k)) (fIDct k) := fun n ρ r eq F H σ T Q hR hP => by
  unfold fIDct at eq
  split at eq
  · rename_i es q
    cases eq
    obtain ⟨v, hv, R1⟩ := R.take hR (join_some q)
    refine ⟨v, hv, ?_⟩
    obtain ⟨A, cr⟩ := R1.cr
    cases cr with
    | @dct a kvs _ h1 h2 r =>
      refine ⟨a, kvs, rfl, .inr ⟨h1, fun o => ?_⟩⟩
      obtain ⟨F', s, hF, h3⟩ := HR.lock (o := .frz o (.dK kvs)) (c' := .dlk es) R1.hr' (fun A h => by cases h; rfl) (fun F' s hF => .dlk hF (r.mono s))
      have hk : k < ρ.length := (List.getElem?_eq_some_iff.mp (join_some q)).1
      have R2 : G.R F' (upd H a (.frz o (.dK kvs))) (ρ.set k none) σ ((.dlk es, .ref a) :: T) := .mk' h3 R1.ok
      have R3 := R.put R2 (c := .dlk es) (i := k) (by rw [List.getElem?_set_self hk]) hv
      rw [List.set_set] at R3
      exact hP F' _ _ s R3 (itok_keys hF (r.mono s))
  · rename_i es q
    cases eq
    obtain ⟨v, hv, A, cr⟩ := hR.at (join_some q)
    refine ⟨v, hv, ?_⟩
    cases cr with
    | @dlk a o kvs _ h1 r => exact ⟨a, kvs, rfl, .inl ⟨o, hR.sub _ _ h1, hP F H _ (Same.refl _) hR (itok_keys h1 r)⟩⟩
  · cases eq
theorem xi_dct {k : Nat} (h : ∀ j, PE (X j) e (tVar k)) : XI G X W tg e (fIDct k) := ⟨_, fun j => pi_keysL (h j), snd_idct⟩
/-- d[k] -/
def dctE : Cl → Option (List (Key × D))
  | .dct es => some es
  | .dlk es => some es
  | _ => none
def gIxD : List Cl → Option Cl
  | [c, .fz kd] => match dctE c, keyD kd with
    | some es, some k => (getK es k).map .fz
    | _, _ => none
  | _ => none
def rIxK : R2 := fun x y H Q => ∃ a v, x = .ref a ∧ DGet H a y (some v) ∧ Q v H
theorem dctE_cr {F H : Hp} {c : Cl} {v : V} {A : List Addr} {es : List (Key × D)} (h : G.CR F H c v A) (s : Same F H) (e : dctE c = some es) : ∃ a kvs, v = .ref a ∧ Rd H a (.dK kvs) ∧ RpKs G.K F kvs es := by
  cases h with
  | dct h1 h2 r => cases e; exact ⟨_, _, rfl, .inl h1, r⟩
  | dlk h1 r => cases e; exact ⟨_, _, rfl, .inr ⟨_, s _ _ h1⟩, r⟩
  | _ => cases e
theorem prm_ixD : Prm G (l2 rIxK) gIxD := fun F H L cs vs c Q hr hc e hQ => by
  unfold gIxD at e
  split at e
  · obtain ⟨v1, v2, A1, A2, rfl, h1, h2⟩ := crs2 hc
    split at e
    · rename_i es k q1 q2
      obtain ⟨a, kvs, rfl, hd, r⟩ := dctE_cr h1 hr.sub q1
      have e2 := keyD_rp (h2.rpF rfl) q2
      rcases getK_rp k r with ⟨z, _⟩ | ⟨v, d, g1, g2, rd⟩
      · rw [z] at e; cases e
      · rw [g1] at e
        cases e
        exact ⟨a, v, rfl, .inl ⟨kvs, k, hd, e2, g2.symm⟩, hQ F H _ (Same.refl _) (hr.push rd)⟩
    · cases e
  · cases e
theorem xe_ixD {a b : Expr} {fa fb : Fn Bv} (hu : ∀ j, (X j).A.units + 1 < cLine) (ha : XB G X W a fa) (hb : XB G X W b fb) (hs : NoSl b) : XE G X W (.Subscript a b pos) (f2 fa fb gIxD) := by
  obtain ⟨ta, h1, h2⟩ := ha
  obtain ⟨tb, h3, h4⟩ := hb
  exact ⟨_, fun i => pe_dget (hu i) (h1 i) (h3 i) hs, snd_prm (r := l2 rIxK) (snd_cons h2 (snd_cons h4 snd_nil)) prm_ixD⟩
/-- d.get(k, x) -/
def fDG (k : Nat) (f : Fn (List Bv)) : Fn Cl := fun n ρ => match (ρ[k]?).join with
  | some c0 => if (dctE c0).isSome = true then bnd (fFzs f n ρ) fun as ρ1 => match (ρ1[k]?).join, as with
    | some c, [kd, dd] => match dctE c, keyD kd with
      | some es, some key => some (.ok (.fz ((getK es key).getD dd)) ρ1)
      | _, _ => none
    | _, _ => none
  else none
  | none => none
theorem snd_dg {k : Nat} {t u : TE} {f g : Fn Bv} (h : SndB G W t f) (h' : SndB G W u g) : SndE G W (tDGet2 (tVar k) t u) (fDG k (fCons f (fCons g fNil))) := fun n ρ rr eq F H σ T' Q hR hP => by
  unfold fDG at eq
  split at eq
  case h_2 => cases eq
  rename_i c0 q0
  split at eq
  case isFalse => cases eq
  rename_i hok
  obtain ⟨es0, hes0⟩ := Option.isSome_iff_exists.mp hok
  obtain ⟨v, hv, A, cr⟩ := hR.at (join_some q0)
  obtain ⟨a, kvs0, rfl, hd0, _⟩ := dctE_cr cr hR.sub hes0
  refine ⟨_, hv, a, rfl, .inl ⟨kvs0, hd0⟩, ?_⟩
  cases q : fFzs (fCons f (fCons g fNil)) n ρ with
  | none => rw [q] at eq; cases eq
  | some r1 =>
    rw [q] at eq
    refine snd_fzs (snd_cons h (snd_cons h' snd_nil)) n ρ r1 q F H σ T' (fun vs H3 => match vs with | [y, z] => ∃ o, DGet H3 a y o ∧ Q (o.getD z) H3 | _ => False) hR ?_
    cases r1 with
    | ex x ρ' => cases eq; exact hP
    | ok as ρ1 =>
      rw [bnd_ok] at eq
      intro F1 H1 ws s1 R1 ra
      split at eq
      case h_2 => cases eq
      rename_i c kd dd q1
      cases ra with
      | cons r1 ra => cases ra with
        | cons r2 ra => cases ra with
          | nil =>
            split at eq
            case h_2 => cases eq
            rename_i es key e1 e2
            cases eq
            obtain ⟨w, hw, A2, cr2⟩ := R1.at (join_some q1)
            rw [hv] at hw
            cases hw
            obtain ⟨a2, kvs, ea, hd, r⟩ := dctE_cr cr2 R1.sub e1
            cases ea
            have ek := keyD_rp r1 e2
            rcases getK_rp key r with ⟨g1, g2⟩ | ⟨v, d, g1, g2, rd⟩
            · refine ⟨none, .inl ⟨kvs, key, hd, ek, g2.symm⟩, ?_⟩
              exact hP F1 H1 _ s1 (R1.push (by rw [g1]; exact r2))
            · refine ⟨some v, .inl ⟨kvs, key, hd, ek, g2.symm⟩, ?_⟩
              exact hP F1 H1 _ s1 (R1.push (by rw [g1]; exact rd))
theorem xe_dg {k : Nat} {x : Str} {p1 apos : Pos} {f g : Fn Bv} {e e2 : Expr} (hu : ∀ j, (X j).A.units + 1 < cLine) (hx : ∀ j, PE (X j) (.Name x p1) (tVar k)) (h : XB G X W e f) (h' : XB G X W e2 g) (m : ∀ j, M2 (X j) (.Name x p1) "get" apos e e2 pos) :
    XE G X W (.Call (.Attribute (.Name x p1) "get" apos) [e, e2] [] pos) (fDG k (fCons f (fCons g fNil))) := by
  obtain ⟨t, h1, h2⟩ := h
  obtain ⟨u, h3, h4⟩ := h'
  exact ⟨_, fun i => pe_dget2 (hu i) (hx i) (h1 i) (h3 i) (m i), snd_dg h2 h4⟩
/-! ### d[k] = e -/
def setIxD (ρ : En) (k : Nat) (j d : D) : Option En := match (ρ[k]?).join with
  | some (.dct es) => match keyD j with
    | some key => if Nat.ble es.length 1000000 = true then some (ρ.set k (some (.dct (putD es key d)))) else none
    | none => none
  | _ => none
theorem setIxD_ok {F H : Hp} {ρ ρ' : En} {σ : L2.St} {T : List (Cl × V)} {k : Nat} {j d : D} {vj vd o : V} (e : setIxD ρ k j d = some ρ') (hR : G.R F H ρ σ T) (rj : Rp G.K F vj j) (rd : Rp G.K F vd d) (ho : σ[k]? = some (some o)) {Q : Hp → Prop} (hQ : ∀ H', G.R F H' ρ' σ T → Q H') : rSetD o vj vd H Q := by
  unfold setIxD at e
  split at e
  · rename_i es q
    split at e
    · rename_i key qk
      split at e
      · rename_i hl
        cases e
        have hl := Nat.le_of_ble_eq_true hl
        obtain ⟨w, h1, R'⟩ := R.take hR (join_some q)
        rw [ho] at h1
        cases h1
        have ek := keyD_rp rj qk
        obtain ⟨A, cr⟩ := R'.cr
        cases cr with
        | @dct a kvs _ h1 h2 r =>
          refine ⟨_, _, rfl, ek ▸ DPut.k h1 (by rw [r.len, sizeLine_eq]; omega), hQ _ ?_⟩
          have R2 : G.R F (upd H a (.dK (putK kvs key vd))) (ρ.set k none) σ ((.dct (putD es key d), .ref a) :: T) :=
            .mk' (R'.hr'.mut (fun A h => by cases h; rfl) (.dct upd_same h2 (putD_rp r key rd))) R'.ok
          have hk : k < ρ.length := (List.getElem?_eq_some_iff.mp (join_some q)).1
          have R3 := R.put R2 (c := .dct (putD es key d)) (i := k) (by rw [List.getElem?_set_self hk]) ho
          rw [List.set_set] at R3
          exact R3
      · cases e
    · cases e
  · cases e
def sSetIxD (k : Nat) (fe fi : Fn Bv) : FS := fun n ρ => bS (fFz fe n ρ) fun c ρ1 => match c with
  | .fz d => if ((ρ1[k]?).join).isSome = true then bS (fFz fi n ρ1) fun c2 ρ2 => match c2 with
    | .fz j => match setIxD ρ2 k j d with
      | some ρ3 => some (.nx ρ3)
      | none => none
    | _ => none
  else none
  | _ => none
theorem xs_setIxD {k : Nat} {x : Str} {px ps : Pos} {fe fi : Fn Bv} (hu : ∀ j, (X j).A.units + 1 < cLine) (hx : ∀ j, PE (X j) (.Name x px) (tVar k)) (hi : XB G X W ie fi) (he : XB G X W e fe)
    (hs : ∀ j, swapsWithSole [.Subscript (.Name x px) ie ps] e pos.line (X j).env = pure false) (hw : ∀ j, swappedStores [.Subscript (.Name x px) ie ps] e (X j).env = pure none) (h1 : ∀ j, (assignEach [.Subscript (.Name x px) ie ps] (X j).env).map (·.2) = [assign (.Subscript (.Name x px) ie ps) (X j).env])
    (ha : ∀ j v, assign (.Subscript (.Name x px) ie ps) (X j).env v = (do
      let ov ← holding [v] (eval (.Name x px) (X j).env)
      let iv ← holding [v, ov] (eval ie (X j).env)
      standAt ps
      holding [v, ov, iv] (setItem ov iv v)
      release [v, ov, iv] [])) : XS G X W P (.Assign [.Subscript (.Name x px) ie ps] e pos) (sSetIxD k fe fi) := by
  obtain ⟨ti, a1, a2⟩ := hi
  obtain ⟨te, b1, b2⟩ := he
  refine ⟨_, fun j => ps_asg (b1 j) (pg_sub (hx j) (a1 j) (set_dict (hu j)) (ha j)) (hs j) (hw j) (h1 j), fun n ρ o eq F H σ T D hR hP => ?_⟩
  unfold sSetIxD at eq
  cases q : fFz fe n ρ with
  | none => rw [q] at eq; cases eq
  | some r1 =>
    rw [q] at eq
    refine snd_fz b2 n ρ r1 q F H σ T _ hR ?_
    cases r1 with
    | ex x ρ' => cases eq; exact hP.px
    | ok c ρ1 =>
      rw [bS_ok] at eq
      intro F1 H1 v s1 R1
      cases c with
      | fz d =>
        dsimp only at eq
        split at eq
        · rename_i hk
          obtain ⟨ov, ho⟩ := slot_of R1 hk
          refine ⟨ov, ho, ?_⟩
          cases q2 : fFz fi n ρ1 with
          | none => rw [q2] at eq; cases eq
          | some r2 =>
            rw [q2] at eq
            refine snd_fz a2 n ρ1 r2 q2 F1 H1 σ _ _ R1 ?_
            cases r2 with
            | ex x ρ' =>
              cases eq
              exact fun F' H' cls d s r xr => hP F' H' σ cls d (s1.trans s) r.tail (Kp.refl _) xr
            | ok c2 ρ2 =>
              rw [bS_ok] at eq
              intro F2 H2 v2 s2 R2
              cases c2 with
              | fz dj =>
                dsimp only at eq
                cases q3 : setIxD ρ2 k dj d with
                | none => rw [q3] at eq; cases eq
                | some ρ3 =>
                  rw [q3] at eq
                  cases eq
                  refine setIxD_ok q3 R2.tail.tail R2.rp R2.tail.rp ho fun H' R' => hP F2 H' σ (s1.trans s2) R' (Kp.refl _)
              | lst _ => cases eq
              | dct _ => cases eq
              | dtt _ => cases eq
              | dlk _ => cases eq
              | dlt _ => cases eq
              | bx _ _ => cases eq
              | ins _ _ => cases eq
              | exn _ _ => cases eq
              | nst _ _ => cases eq
        · cases eq
      | lst _ => cases eq
      | dct _ => cases eq
      | dtt _ => cases eq
      | dlk _ => cases eq
      | dlt _ => cases eq
      | bx _ _ => cases eq
      | ins _ _ => cases eq
      | exn _ _ => cases eq
      | nst _ _ => cases eq
/-! ### the greatest of three -/
def gMax3 : List Cl → Option Cl
  | [.fz (.int i), .fz (.int j), .fz (.int k)] => some (.fz (.int (if (if i < j then j else i) < k then k else (if i < j then j else i))))
  | _ => none
theorem prm_max3 : Prm G (rNuC3 nuMax3) gMax3 := fun F H L cs vs c Q hr hc e hQ => by
  unfold gMax3 at e
  split at e
  · rename_i i j k
    cases hc with
    | cons h1 r => cases r with
      | cons h2 r => cases r with
        | cons h3 r =>
          cases r
          obtain ⟨A1, h1⟩ := h1
          obtain ⟨A2, h2⟩ := h2
          obtain ⟨A3, h3⟩ := h3
          cases cr_int h1; cases cr_int h2; cases cr_int h3
          cases e
          refine ⟨_, _, _, _, rfl, ?_, hQ F H _ (Same.refl _) (hr.push (.int _))⟩
          show ((nuLt (V.int i) (V.int j)).map fun c => if c = true then V.int j else V.int i).bind (fun m => nuMax2 m (V.int k)) = _
          show ((some (decide (i < j))).map fun c => if c = true then V.int j else V.int i).bind (fun m => nuMax2 m (V.int k)) = _
          by_cases h : i < j
          · rw [decide_eq_true h, if_pos h]
            show ((some (decide (j < k))).map fun c => if c = true then V.int k else V.int j) = _
            by_cases h2 : j < k
            · rw [decide_eq_true h2, if_pos h2]; rfl
            · rw [decide_eq_false h2, if_neg h2]; rfl
          · rw [decide_eq_false h, if_neg h]
            show ((some (decide (i < k))).map fun c => if c = true then V.int k else V.int i) = _
            by_cases h2 : i < k
            · rw [decide_eq_true h2, if_pos h2]; rfl
            · rw [decide_eq_false h2, if_neg h2]; rfl
  · cases e
/-! ### names that a comprehension hides come back -/
def restR (ρ : En) : List Nat → En → En
  | [], ρ' => ρ'
  | j :: vs, ρ' => restR ρ vs (match ρ[j]?, ρ'[j]? with
    | some (some (.fz d)), some none => ρ'.set j (some (.fz d))
    | _, _ => ρ')
theorem rest_ok {F F' H H' : Hp} {ρ : En} {σ : L2.St} {T T' : List (Cl × V)} (hR : G.R F H ρ σ T) (s : Same F F') : ∀ (vs : List Nat) (ρ' : En), G.R F' H' ρ' σ T' → G.R F' H' (restR ρ vs ρ') σ T'
  | [], _, h => h
  | j :: vs, ρ', h => by
    refine rest_ok hR s vs _ ?_
    split
    · rename_i d h1 h2
      obtain ⟨v, hv, A, cr⟩ := hR.at h1
      exact R.put (h.push ((cr.rpF rfl).mono s)) h2 hv
    · exact h
def fRest (vs : List Nat) (f : Fn Cl) : Fn Cl := fun n ρ => match f n ρ with
  | some (.ok c ρ') => some (.ok c (restR ρ vs ρ'))
  | r => r
theorem xe_rest (vs : List Nat) {f : Fn Cl} (h : XE G X W e f) : XE G X W e (fRest vs f) := by
  obtain ⟨t, h1, h2⟩ := h
  refine ⟨t, h1, fun n ρ r eq F H σ T Q hR hP => ?_⟩
  unfold fRest at eq
  split at eq
  · rename_i c ρ' q
    cases eq
    exact h2 n ρ _ q F H σ T Q hR fun F' H' v s R' => hP F' H' v s (rest_ok hR s vs ρ' R')
  · exact h2 n ρ r eq F H σ T Q hR hP
/-! ### lists in a handler: not too long -/
theorem sl_nil : ∀ (x : Ex) (ds : List D), (fun _ : Ex => some ([] : List D)) x = some ds → ds.length ≤ 0 := fun x ds h => by
  cases h
  exact Nat.le_refl _
theorem sl_str {g : Ex → Option (List D)} {n : Nat} {d : D} (h : ∀ x ds, g x = some ds → ds.length ≤ n) : ∀ (x : Ex) (ds : List D), (g x).map (d :: ·) = some ds → ds.length ≤ n + 1 := fun x ds e => by
  cases q : g x with
  | none => rw [q] at e; cases e
  | some l =>
    rw [q] at e
    cases e
    exact Nat.succ_le_succ (h x l q)
theorem sl_fld {f : Ex → Option D} {g : Ex → Option (List D)} {n : Nat} (h : ∀ x ds, g x = some ds → ds.length ≤ n) : ∀ (x : Ex) (ds : List D), ((f x).bind fun d => (g x).map (d :: ·)) = some ds → ds.length ≤ n + 1 := fun x ds e => by
  cases q : f x with
  | none => rw [q] at e; cases e
  | some d =>
    rw [q] at e
    exact sl_str h x ds e
/-! max of a list of ints -/
def maxI : List Int → Int
  | [] => 0
  | x :: xs => match xs with
    | [] => x
    | _ :: _ => if x < maxI xs then maxI xs else x
theorem maxI_ok : ∀ ns : List Int, ns ≠ [] → maxI ns ∈ ns ∧ ∀ y ∈ ns, y ≤ maxI ns
  | [], h => absurd rfl h
  | [x], _ => ⟨List.mem_singleton.mpr rfl, fun y hy => by rw [List.mem_singleton.mp hy]; exact Int.le_refl _⟩
  | x :: y :: r, _ => by
    obtain ⟨h1, h2⟩ := maxI_ok (y :: r) (by simp)
    have e : maxI (x :: y :: r) = if x < maxI (y :: r) then maxI (y :: r) else x := rfl
    rw [e]
    by_cases h : x < maxI (y :: r)
    · rw [if_pos h]
      refine ⟨List.mem_cons_of_mem _ h1, fun z hz => ?_⟩
      rcases List.mem_cons.mp hz with q | q
      · omega
      · exact h2 z q
    · rw [if_neg h]
      refine ⟨List.mem_cons_self, fun z hz => ?_⟩
      rcases List.mem_cons.mp hz with q | q
      · omega
      · have := h2 z q
        omega
def gMaxL : List Cl → Option Cl
  | [c] => match c.data with
    | some (.list ds) => match intsD ds with
      | some ns => if ns.length = 0 then none else some (.fz (.int (maxI ns)))
      | none => none
    | _ => none
  | _ => none
theorem prm_maxL : Prm G (rMax G.K) gMaxL := fun F H L cs vs c Q hr hc e hQ => by
  unfold gMaxL at e
  split at e
  · obtain ⟨v1, A1, rfl, h1⟩ := crs1 hc
    split at e
    · rename_i ds q
      obtain ⟨a, ws, rfl, q1, r1⟩ := h1.seqL hr.sub q
      cases q2 : intsD ds with
      | none => rw [q2] at e; cases e
      | some ns =>
        rw [q2] at e
        dsimp only at e
        split at e
        · cases e
        · rename_i h0
          cases e
          have ed := intsD_ok q2
          subst ed
          have ew := r1.ints
          subst ew
          obtain ⟨m1, m2⟩ := maxI_ok ns fun z => h0 (by rw [z]; rfl)
          refine ⟨_, _, rfl, q1, by omega, fun m h2 h3 => ?_⟩
          have : m = maxI ns := Int.le_antisymm (m2 m h2) (h3 _ m1)
          rw [this]
          exact hQ F H _ (Same.refl _) (hr.push (.int _))
    · cases e
  · cases e
/-! a, b, .. = a list by its name: the list is looked at, not frozen -/
def sUnp (k n : Nat) (g : FGs) : FS := fun _ ρ => match (ρ[k]?).join with
  | some (.lst ds) => if ds.length = n then (match g ds ρ with
    | some ρ2 => some (.nx ρ2)
    | none => none) else none
  | _ => none
theorem xs_unp {k n m : Nat} {x : Str} {px p2 : Pos} {es : List Expr} {f : FGs} (hK : ∀ j, (X j).K = G.K) (hx : ∀ j, PE (X j) (.Name x px) (tVar k)) (hc : ∀ i, (X i).calm = true) (h : XGs G X P es f) (hn : ∀ i, (assignEach es (X i).env).length = n) (hst : ∀ i, (assignEach es (X i).env).findIdx? (·.1) = none)
    (hs : ∀ i, swapsWithSole [.Tuple es m p2] (.Name x px) pos.line (X i).env = pure false) (hw : ∀ i, swappedStores [.Tuple es m p2] (.Name x px) (X i).env = pure none)
    (h1 : ∀ i, (assignEach [.Tuple es m p2] (X i).env).map (·.2) = [assign (.Tuple es m p2) (X i).env]) : XS G X W P (.Assign [.Tuple es m p2] (.Name x px) pos) (sUnp k n f) := by
  obtain ⟨t, b1, b2⟩ := h
  refine ⟨_, fun i => ps_asg (hx i) (by have := pg_lst (k := m) (pos := p2) (hc i) (b1 i) (hn i) (hst i); rw [hK i] at this; exact this) (hs i) (hw i) (h1 i), fun n' ρ o e F H σ T D hR hP => ?_⟩
  unfold sUnp at e
  split at e
  case h_2 => cases e
  rename_i ds q
  split at e
  case isFalse => cases e
  rename_i hl
  cases q2 : f ds ρ with
  | none => rw [q2] at e; cases e
  | some ρ2 =>
    rw [q2] at e
    cases e
    obtain ⟨v, h1, R'⟩ := R.take hR (join_some q)
    obtain ⟨A, cr⟩ := R'.cr
    cases cr with
    | lst a1 a2 r =>
      refine ⟨_, h1, _, _, rfl, .inl (.inl a1), by rw [r.length]; exact hl, ?_⟩
      exact b2 ds ρ ρ2 q2 F H σ T _ _ hR r fun σ' R2 k => hP F H σ' (Same.refl _) R2 k
end
end L3

set_option maxHeartbeats 1000000
namespace L2
open PySem PySem.Spec PyProof.Rows
/-- a text of one sign so often -/
theorem op_repS {X : Cx} : OpR X (binaryOp .Mult) (fun x y H Q => ∃ (c n : Nat), x = .str ⟨#[c]⟩ ∧ y = .int (n : Int) ∧ n ≤ 1000000 ∧ Q (.str ⟨(List.replicate n c).toArray⟩) H) := by
  intro pins s σ H x y v u Q I rx ry h
  obtain ⟨c, n, rfl, rfl, hn, q⟩ := h
  obtain ⟨t, rfl⟩ := rx
  obtain ⟨t', rfl⟩ := ry
  have l1 : (⟨#[c]⟩ : Str).length = 1 := rfl
  have f0 : ∀ (m : Nat) (acc : List Nat), List.foldl (fun x1 x2 => x1 ++ x2) acc.toArray (List.replicate m #[c]) = (acc ++ List.replicate m c).toArray := fun m => by
    induction m with
    | zero => intro acc; simp
    | succ m ih =>
      intro acc
      rw [List.replicate_succ, List.foldl_cons]
      have : acc.toArray ++ #[c] = (acc ++ [c]).toArray := by simp
      rw [this, ih, List.replicate_succ, List.append_assoc]
      rfl
  have sz : (sizeLine : Nat) = 16777216 := sizeLine_eq
  have hrg : (decide ((n : Int) < -(2 ^ 63 : Int)) || decide ((n : Int) ≥ 2 ^ 63)) = false := by
    rw [decide_eq_false (by omega), decide_eq_false (by omega)]; rfl
  by_cases h0 : n = 0
  · subst h0
    refine PySem.P.mul_str hrg (fun h => absurd (show ((0 : Nat) : Int) < 1 by decide) h) (fun h => absurd (show ((0 : Nat) : Int) < 1 by decide) h) ?_
    rw [if_pos (by decide)]
    exact ⟨by decide, ⟨.str _, H, I.tok _, ⟨_, rfl⟩, q⟩⟩
  by_cases h1 : n = 1
  · subst h1
    refine PySem.P.mul_str hrg (fun _ h => nomatch (show true = false from h)) (fun _ h => nomatch (show true = false from h)) ?_
    rw [if_neg (by decide), if_pos (by rfl)]
    exact ⟨.str _, H, I, ⟨_, rfl⟩, q⟩
  have h2 : 2 ≤ n := by omega
  have n1 : ¬ ((n : Int) < 1) := by omega
  have b1 : ((n : Int) == 1 || (⟨#[c]⟩ : Str).length == 0) = false := by
    rw [l1, Bool.or_eq_false_iff]
    exact ⟨beq_eq_false_iff_ne.mpr (by omega), rfl⟩
  refine PySem.P.mul_str hrg (fun _ _ => ?_) (fun _ _ => ?_) ?_
  · rw [l1]
    have : (1 : Int) ≤ (2 ^ 63 - 1) / (n : Int) := by
      refine Int.le_ediv_of_mul_le (by omega) ?_
      omega
    omega
  · unfold Builtin.Str.tooLong
    refine decide_eq_false ?_
    rw [l1, Nat.one_mul, Int.toNat_natCast]
    omega
  · rw [if_neg n1, if_neg (by rw [b1]; exact Bool.false_ne_true)]
    have e : (⟨List.foldl (fun x1 x2 => x1 ++ x2) #[] (List.replicate (n : Int).toNat (⟨#[c]⟩ : Str).cps)⟩ : Str) = ⟨(List.replicate n c).toArray⟩ := by
      have := f0 n []
      rw [List.nil_append] at this
      rw [Int.toNat_natCast]
      exact congrArg Str.mk this
    rw [e]
    refine ⟨?_, ⟨.str _, H, I.tok _, ⟨_, rfl⟩, q⟩⟩
    show (List.replicate n c).toArray.size ≤ sizeLine
    rw [List.size_toArray, List.length_replicate]
    omega
end L2
namespace L3
open PySem PySem.Spec L2 PyProof.Rows
/-! ### texts -/
section
variable {ι : Type} {G : Gd} {X : ι → Cx} {W : WX} {P : List Nat} {e e2 ie tg : Expr} {pos : Pos}
def gRepS : List Cl → Option Cl
  | [.fz (.str x), .fz (.int k)] => match x.cps.toList with
    | [c] => if (Nat.ble k.toNat 1000000 && decide (0 ≤ k)) = true then some (.fz (.str ⟨(List.replicate k.toNat c).toArray⟩)) else none
    | _ => none
  | _ => none
theorem str_one {x : Str} {c : Nat} (h : x.cps.toList = [c]) : x = ⟨#[c]⟩ := by
  obtain ⟨a⟩ := x
  congr 1
  have : a.toList = [c] := h
  exact Array.toList_inj.mp this
theorem prm_repS : Prm G (l2 (fun x y H Q => ∃ (c n : Nat), x = V.str ⟨#[c]⟩ ∧ y = V.int (n : Int) ∧ n ≤ 1000000 ∧ Q (.str ⟨(List.replicate n c).toArray⟩) H)) gRepS := fun F H L cs vs c Q hr hc e hQ => by
  unfold gRepS at e
  split at e
  · rename_i x k
    obtain ⟨v1, v2, A1, A2, rfl, h1, h2⟩ := crs2 hc
    cases cr_str h1; cases cr_int h2
    split at e
    · rename_i c hx
      split at e
      · rename_i hk
        simp only [Bool.and_eq_true, decide_eq_true_eq] at hk
        obtain ⟨b, d⟩ := hk
        have b := Nat.le_of_ble_eq_true b
        cases e
        have := str_one hx
        subst this
        obtain ⟨n, rfl⟩ : ∃ n : Nat, k = n := ⟨k.toNat, by omega⟩
        rw [Int.toNat_natCast] at b
        refine ⟨c, n, rfl, rfl, b, ?_⟩
        exact hQ F H _ (Same.refl _) (hr.push (.str _))
      · cases e
    · cases e
  · cases e
/-! int of a text, text of an int -/
def gIntA : List Cl → Option Cl
  | [.fz (.str x)] => if Nat.ble x.length 640 = true then (intText? x).map fun n => .fz (.int n) else none
  | cs => gInt cs
theorem call_intA {Y : Cx} : CallR Y (.type "int") (fun xs H Q => ((∃ i, xs = [.int i] ∧ Q (.int i) H) ∨ ∃ k, xs = [.bl k] ∧ Q (.int (if k then 1 else 0)) H) ∨ ∃ a n, xs = [.str a] ∧ PySem.intText? a = some n ∧ a.length ≤ 640 ∧ Q (.int n) H) := call_int1.or call_int_str
theorem prm_intA : Prm G (fun xs H Q => ((∃ i, xs = [V.int i] ∧ Q (.int i) H) ∨ ∃ k, xs = [V.bl k] ∧ Q (.int (if k then 1 else 0)) H) ∨ ∃ a n, xs = [V.str a] ∧ PySem.intText? a = some n ∧ a.length ≤ 640 ∧ Q (.int n) H) gIntA := fun F H L cs vs c Q hr hc e hQ => by
  unfold gIntA at e
  split at e
  · rename_i x
    obtain ⟨v1, A1, rfl, h1⟩ := crs1 hc
    cases cr_str h1
    split at e
    · rename_i hl
      have hl := Nat.le_of_ble_eq_true hl
      cases q : intText? x with
      | none => rw [q] at e; cases e
      | some n =>
        rw [q] at e
        cases e
        exact .inr ⟨_, n, rfl, q, hl, hQ F H _ (Same.refl _) (hr.push (.int _))⟩
    · cases e
  · exact .inl (prm_int F H L cs vs c Q hr hc e hQ)
def txt (i : Int) : Str := Str.ofString (toString i)
def gStr : List Cl → Option Cl
  | [.fz (.int i)] => if Nat.blt i.natAbs.log2 1920 = true then some (.fz (.str (txt i))) else none
  | _ => none
theorem prm_str : Prm G (fun xs H Q => ∃ i, xs = [V.int i] ∧ i.natAbs.log2 < 1920 ∧ Q (.str (toString i)) H) gStr := fun F H L cs vs c Q hr hc e hQ => by
  unfold gStr at e
  split at e
  · rename_i i
    obtain ⟨v1, A1, rfl, h1⟩ := crs1 hc
    cases cr_int h1
    split at e
    · rename_i hl
      cases e
      exact ⟨i, rfl, Nat.le_of_ble_eq_true hl, hQ F H _ (Same.refl _) (hr.push (.str _))⟩
    · cases e
  · cases e
/-! one sign in a text -/
def gInS (neg : Bool) : List Cl → Option Cl
  | [.fz (.str x), .fz (.str z)] => match x.cps.toList with
    | [c] => some (.fz (.bool (if neg = true then !decide (c ∈ z.cps.toList) else decide (c ∈ z.cps.toList))))
    | _ => none
  | _ => none
theorem prm_inS : Prm G (l2 rInS) (gInS false) := fun F H L cs vs c Q hr hc e hQ => by
  unfold gInS at e
  split at e
  · obtain ⟨v1, v2, A1, A2, rfl, h1, h2⟩ := crs2 hc
    cases cr_str h1; cases cr_str h2
    split at e
    · rename_i c hx
      cases e
      have := str_one hx
      subst this
      exact ⟨c, _, rfl, rfl, hQ F H _ (Same.refl _) (hr.push (.bl _))⟩
    · cases e
  · cases e
/-! signs of a text, one by one -/
def signsD (x : Str) : List D := x.cps.toList.map fun c => .str ⟨#[c]⟩
theorem itok_str {F : Hp} (x : Str) : ItOk G (Its x) F (signsD x) where
  go := fun F' H' L i s hr hi => by
    have : i < x.cps.toList.length := by simpa [signsD] using hi
    show i < x.cps.size
    simpa using this
  yld := fun F' H' L i v H'' d s hr hd hy => by
    obtain ⟨rfl, c, hc, rfl⟩ := hy
    refine ⟨F', Same.refl _, hr, ?_⟩
    unfold signsD at hd
    rw [List.getElem?_map] at hd
    have hc : x.cps.toList[i]? = some c := by simpa using hc
    rw [hc] at hd
    cases hd
    exact .str _
  stop := fun F' H' L i s hr hi => by
    have : x.cps.toList.length ≤ i := by simpa [signsD] using hi
    show x.cps.size ≤ i
    simpa using this
def fIStr (f : Fn Bv) : Fn (List D) := fun n ρ => bnd (fFz f n ρ) fun c ρ1 => match c with
  | .fz (.str x) => some (.ok (signsD x) ρ1)
  | _ => none
theorem snd_istr {t : TE} {f : Fn Bv} (h : SndB G W t f) : SndI G W (iStr t) (fIStr f) := fun n ρ r e F H σ T Q hR hP => by
  unfold fIStr at e
  cases q : fFz f n ρ with
  | none => rw [q] at e; cases e
  | some r1 =>
    rw [q] at e
    refine snd_fz h n ρ r1 q F H σ T _ hR ?_
    cases r1 with
    | ex x ρ' => cases e; exact hP
    | ok c ρ1 =>
      rw [bnd_ok] at e
      intro F1 H1 v s1 R1
      split at e
      · rename_i x
        cases e
        have := R1.rp
        cases this
        exact ⟨x, rfl, hP F1 H1 _ s1 R1.tail (itok_str x)⟩
      · cases e
theorem xi_str {f : Fn Bv} (h : XB G X W e f) : XI G X W tg e (fIStr f) := by
  obtain ⟨t, h1, h2⟩ := h
  exact ⟨_, fun i => pi_str (h1 i), snd_istr h2⟩
/-! methods of a text -/
def fMvS (f0 : Fn Bv) (fs : Fn (List Bv)) (g : Str → List D → Option Cl) : Fn Cl := fun n ρ => bnd (fFz f0 n ρ) fun c ρ1 => match c with
  | .fz (.str x) => bnd (fFzs fs n ρ1) fun as ρ2 => match g x as with
    | some r => some (.ok r ρ2)
    | none => none
  | _ => none
def SndMV (G : Gd) (r : V → List V → Hp → VK → Prop) (g : Str → List D → Option Cl) : Prop :=
  ∀ x as c, g x as = some c → ∀ F H L ws (Q : VK), G.HR F H L → RpA G.K F ws as → (∀ F' H' u, Same F F' → G.HR F' H' ((c, u) :: L) → Q u H') → r (.str x) ws H Q
theorem snd_mvS {t : TE} {ta : TA} {f0 : Fn Bv} {fs : Fn (List Bv)} {r : V → List V → Hp → VK → Prop} {g : Str → List D → Option Cl} (h0 : SndB G W t f0) (hs : SndBs G W ta fs) (hg : SndMV G r g) : SndE G W (tBM G.K "str" r t ta) (fMvS f0 fs g) := fun n ρ rr e F H σ T Q hR hP => by
  unfold fMvS at e
  cases q : fFz f0 n ρ with
  | none => rw [q] at e; cases e
  | some r1 =>
    rw [q] at e
    refine snd_fz h0 n ρ r1 q F H σ T _ hR ?_
    cases r1 with
    | ex x ρ' => cases e; exact hP
    | ok c ρ1 =>
      rw [bnd_ok] at e
      intro F1 H1 v s1 R1
      split at e
      case h_2 => cases e
      rename_i x
      have rv := R1.rp
      cases rv
      refine ⟨rfl, ?_⟩
      cases q2 : fFzs fs n ρ1 with
      | none => rw [q2] at e; cases e
      | some r2 =>
        rw [q2] at e
        refine snd_fzs hs n ρ1 r2 q2 F1 H1 σ T _ R1.tail ?_
        cases r2 with
        | ex y ρ' =>
          cases e
          exact fun F' H' cls d s R' hx => hP F' H' cls d (s1.trans s) R' hx
        | ok as ρ2 =>
          rw [bnd_ok] at e
          intro F2 H2 ws s2 R2 ra
          split at e
          case h_2 => cases e
          rename_i cr qc
          cases e
          exact hg x as cr qc F2 H2 _ ws _ R2.hr ra fun F' H' u s hr => hP F' H' u ((s1.trans s2).trans s) (.mk' hr R2.ok)
def gSplit : Str → List D → Option Cl
  | a, [.str b] => if (!(b.length == 0) && Nat.ble a.length 10000000) = true then some (.lst ((Txt.split a b).map .str)) else none
  | _, _ => none
def rSplit1 : V → List V → Hp → VK → Prop := fun x xs H Q => ∃ a b, x = .str a ∧ xs = [.str b] ∧ (b.length == 0) = false ∧ a.length + 2 ≤ sizeLine ∧ rNewStrs (Txt.split a b) H Q
theorem rpA_strs {K : PySem.W.Frag} {F : Hp} : ∀ ys : List Str, RpA K F (ys.map V.str) (ys.map .str)
  | [] => .nil
  | y :: ys => .cons (.str y) (rpA_strs ys)
theorem smv_split : SndMV G rSplit1 gSplit := fun x as c e F H L ws Q hr ra hQ => by
  unfold gSplit at e
  split at e
  · rename_i b
    split at e
    · rename_i hh
      rw [Bool.and_eq_true] at hh
      cases e
      cases ra with
      | cons r1 ra =>
        cases ra
        cases r1
        have hl := Nat.le_of_ble_eq_true hh.2
        refine ⟨x, b, rfl, rfl, by simpa using hh.1, by rw [sizeLine_eq]; omega, fun p hp => hQ F _ _ (Same.refl _) (HR.lstN hr hp (rpA_strs _))⟩
    · cases e
  · cases e
def strsD : List D → Option (List Str)
  | [] => some []
  | .str x :: ds => match strsD ds with
    | some xs => some (x :: xs)
    | none => none
  | _ => none
theorem strsD_rp {K : PySem.W.Frag} {F : Hp} : ∀ {vs : List V} {ds : List D} {ys : List Str}, RpA K F vs ds → strsD ds = some ys → vs = ys.map V.str
  | _, _, ys, .nil, h => by cases h; rfl
  | _, _, ys, .cons (v := v) (d := d) (ds := ds) r ra, h => by
    cases d with
    | str x =>
      cases r
      have h : (match strsD ds with | some xs => some (x :: xs) | none => none) = some ys := h
      cases q : strsD ds with
      | none => rw [q] at h; cases h
      | some xs =>
        rw [q] at h
        cases h
        rw [strsD_rp ra q]; rfl
    | _ => cases h
def gJoin : Str → List D → Option Cl
  | a, [d] => match asSeq d with
    | some ds => match strsD ds with
      | some ys => if Nat.ble ((ys.map (·.length)).sum + ys.length * a.length) 10000000 = true then some (.fz (.str (Txt.join a ys))) else none
      | none => none
    | none => none
  | _, _ => none
def rJoin1 (K : PySem.W.Frag) : V → List V → Hp → VK → Prop := fun x xs H Q => ∃ a p, ∃ ys : List Str, x = .str a ∧ xs = [.ref p] ∧ (SqL K H p (ys.map V.str) ∨ SqT K H p (ys.map V.str)) ∧
    (ys.map (·.length)).sum + ys.length * a.length ≤ 16777216 ∧ Q (.str (Txt.join a ys)) H
theorem smv_join : SndMV G (rJoin1 G.K) gJoin := fun x as c e F H L ws Q hr ra hQ => by
  unfold gJoin at e
  split at e
  case h_2 => cases e
  rename_i d
  split at e
  case h_2 => cases e
  rename_i ds q1
  split at e
  case h_2 => cases e
  rename_i ys q2
  split at e
  case isFalse => cases e
  rename_i hz
  have hz := Nat.le_of_ble_eq_true hz
  cases e
  cases ra with
  | cons r1 ra =>
    cases ra
    unfold asSeq at q1
    split at q1
    · cases q1
      cases r1 with
      | lst h1 r =>
        have := strsD_rp r q2
        subst this
        exact ⟨x, _, ys, rfl, rfl, .inl (hr.sub.seq h1), by omega, hQ F H _ (Same.refl _) (hr.push (.str _))⟩
    · cases q1
      cases r1 with
      | tup h1 r =>
        have := strsD_rp r q2
        subst this
        exact ⟨x, _, ys, rfl, rfl, .inr (sameT hr.sub h1), by omega, hQ F H _ (Same.refl _) (hr.push (.str _))⟩
    · cases q1
theorem xe_mvS {o : Expr} {es : List Expr} {m : Str} {p2 : Pos} {f0 : Fn Bv} {fs : Fn (List Bv)} {r : V → List V → Hp → VK → Prop} {g : Str → List D → Option Cl} (hK : ∀ i, (X i).K = G.K)
    (hp : ∀ (to : TE) (t : TA), (∀ j, PE (X j) o to) → (∀ j, PA (X j) (e :: es) t) → ∀ j, PE (X j) (.Call (.Attribute o m p2) (e :: es) [] pos) (tBM (X j).K "str" r to t)) (hs : SndMV G r g) (h0 : XB G X W o f0) (h : XBs G X W (e :: es) fs) :
    XE G X W (.Call (.Attribute o m p2) (e :: es) [] pos) (fMvS f0 fs g) := by
  obtain ⟨to, a1, a2⟩ := h0
  obtain ⟨t, h1, h2⟩ := h
  exact ⟨_, fun i => by have := hp to t a1 h1 i; rw [hK i] at this; exact this, snd_mvS a2 h2 hs⟩
end
end L3

set_option maxHeartbeats 1000000
namespace L2
open PySem PySem.Spec PyProof.Rows
/-! ### sorted(d): ints as keys, however many -/
def rSortDK : List V → Hp → VK → Prop := fun us H Q => ∃ (d : Addr) (ps : List (Key × V)) (is : List Int), us = [.ref d] ∧ Rd H d (.dK ps) ∧ ps.map (·.1) = is.map Sum.inl ∧
  ∀ (js : List Int) (q : Addr), js.Perm is → js.Pairwise (· ≤ ·) → H q = none → Q (.ref q) (upd H q (.lst (js.map V.int)))
theorem int_key {b : Int} {v : Value} (h : keyIs (.inl b) v = true) : ∃ t, v = .int b t := by
  rcases keyIs_shape h with ⟨_, t, e, ev⟩ | ⟨_, _, e, _⟩
  · exact ⟨t, Sum.inl.inj e ▸ ev⟩
  · exact nomatch e
/-- list.sort of ints, on a list just laid: the heap keeps what stood, and the list holds them in order -/
theorem sort_laid {prog : Program} {w : World} {A : Around} {E : Value → Shared → Prop} {s : Shared} {us : List Value} {is : List Int} {Q : Value → Shared → Prop} (each : IntsAre us is) (room : us.length ≤ sizeLine)
    (q : ∀ (h' : Heap) (js : List Int) (ws : List Value) (n : Nat), js.Perm is → js.Pairwise (· ≤ ·) → IntsAre ws js → (∀ c o, s.heap.get? c = some o → h'.get? c = some o) →
      h'.get? s.heap.objs.size = some { cls := .type "list", data := .seq ws.toArray n } → Q .none { s with heap := h' }) :
    wpAny (model prog w) A (call (.builtin "list.sort") [.ref s.heap.objs.size]) Q E { s with heap := s.heap.push (seqObj "list" us.toArray 0) } := by
  have here : (s.heap.push (seqObj "list" us.toArray 0)).get? s.heap.objs.size = some (seqObj "list" us.toArray 0) := Heap.get?_push_size _ rfl
  refine wpAny_call_entry PyProof.Rows.slot_list_sort ⟨_, here, rfl⟩ PyProof.Rows.entry_list_sort (SrtO.list_sort_ord (s := { s with heap := s.heap.push (seqObj "list" us.toArray 0) }) SrtO.swo_int here room (fun two => SrtO.ints_sortable each two) fun res srt bag => ⟨_, rfl, ?_⟩) (PyProof.Rows.args_list_sort _)
  have ⟨all, perm, up⟩ := SrtO.ints_out each srt bag
  have ⟨n, at_⟩ := PyProof.Rows.sortedHeap_at (vs := us) (out := res.toArray) here
  refine q _ _ _ n perm up all (fun c o e => ?_) at_
  have lt := Heap.lt_size e
  exact (PyProof.Rows.sortedHeap_old (Nat.ne_of_lt lt) (by rw [size_push']; exact Nat.lt_succ_of_lt lt)).trans (Heap.get?_push_of_some _ e)
theorem cr_sortDK {X : Cx} (hcm : X.calm = true) : CallR X (.builtin "sorted") rSortDK := by
  rintro pins s σ H _ us Q I rel ⟨d, kvs, is, rfl, rd, ks, q⟩
  have ⟨u, eu, ru⟩ := vals1 rel
  cases eu
  cases ru
  have ⟨fit, lo, ws, rk, dd⟩ := dk_rd I.hok rd
  have ⟨ep, at_⟩ := dd.dictAt
  have keys : ws.map (·.1) = is.map Sum.inl := rk.keys.symm.trans ks
  have len : ws.length = is.length := by simpa using congrArg List.length keys
  have room : ws.length ≤ sizeLine := rk.length ▸ fit
  refine Calls.call_function_entry PyProof.Rows.kind_sorted PyProof.Rows.plain_sorted PyProof.Rows.entry_sorted (PyProof.Rows.args_sorted1 _) ?_
  unfold Builtin.«sorted»
  refine wpAny_bind (m := checkCount "sorted" 1 1 _) (wpAny_pure (wpAny_bind (PySem.W.kdu_collect (A := X.A.in1) (PySem.W.kdl_dict (knd := mixKind X.prog X.w) (kvs := ws) (ep := ep) lo) (I.ok.hd hcm) at_ room fun h1 tk got kept each => ?_)))
  have many : got.toList.length = is.length := by rw [Array.length_toList, each.1, len]
  have whole : IntsAre got.toList is := ints_each many fun j v e => by
    have ⟨k, y, e1, e2⟩ := each.2 j v ((Array.getElem?_toList ..).symm.trans e)
    have e3 : (is.map Sum.inl)[j]? = some k := by rw [← keys, List.getElem?_map, e1]; rfl
    rw [List.getElem?_map] at e3
    have ⟨b, eb, ek⟩ := Option.map_eq_some_iff.mp e3
    have ⟨t, et⟩ := int_key (b := b) (v := v) (ek ▸ e2)
    exact ⟨b, t, eb, et⟩
  have room' : got.toList.length ≤ sizeLine := by rw [many, ← len]; exact room
  have J : Inv X pins σ H { s with heap := h1, toks := tk } := I.kept kept
  refine wpAny_bind (wpAny_newList (wpAny_bind (wpAny_holding (sort_laid (s := { s with heap := h1, toks := tk }) whole room' fun h2 js vs n perm up all old at2 => ?_))) room')
  have L := J.laid (t' := tk) (o := .lst (js.map V.int)) old (Nat.le_refl _) ⟨by rw [List.length_map, perm.length_eq, ← many]; exact room', vs, n, vals_of_ints all, at2⟩
  exact wpAny_pure ⟨_, rfl, .ref h1.objs.size, _, L, rfl, q _ _ perm up (J.hok.fresh (Nat.le_refl _))⟩
end L2
namespace L3
open PySem PySem.Spec L2 PyProof.Rows
/-! ### what sorting comes to -/
def insI (x : Int) : List Int → List Int
  | [] => [x]
  | y :: ys => if x ≤ y then x :: y :: ys else y :: insI x ys
def sortI : List Int → List Int
  | [] => []
  | x :: xs => insI x (sortI xs)
theorem insI_perm (x : Int) : ∀ ys : List Int, (insI x ys).Perm (x :: ys)
  | [] => .refl _
  | y :: ys => by
    unfold insI
    split
    · exact .refl _
    · exact (List.Perm.cons y (insI_perm x ys)).trans (.swap x y ys)
theorem sortI_perm : ∀ xs : List Int, (sortI xs).Perm xs
  | [] => .refl _
  | x :: xs => (insI_perm x _).trans (List.Perm.cons x (sortI_perm xs))
theorem insI_pw (x : Int) : ∀ ys : List Int, ys.Pairwise (· ≤ ·) → (insI x ys).Pairwise (· ≤ ·)
  | [], _ => List.pairwise_singleton _ _
  | y :: ys, h => by
    have h' := List.pairwise_cons.mp h
    unfold insI
    split
    · rename_i hx
      refine List.pairwise_cons.mpr ⟨fun z hz => ?_, h⟩
      rcases List.mem_cons.mp hz with e | hz
      · rw [e]; exact hx
      · exact Int.le_trans hx (h'.1 z hz)
    · rename_i hx
      refine List.pairwise_cons.mpr ⟨fun z hz => ?_, insI_pw x ys h'.2⟩
      rcases List.mem_cons.mp ((insI_perm x ys).mem_iff.mp hz) with e | hz
      · rw [e]; omega
      · exact h'.1 z hz
theorem sortI_pw : ∀ xs : List Int, (sortI xs).Pairwise (· ≤ ·)
  | [] => .nil
  | x :: xs => insI_pw x _ (sortI_pw xs)
theorem pw_uniq : ∀ xs ys : List Int, xs.Perm ys → xs.Pairwise (· ≤ ·) → ys.Pairwise (· ≤ ·) → xs = ys
  | [], ys, p, _, _ => (List.Perm.nil_eq p)
  | x :: xs, [], p, _, _ => by have := p.length_eq; simp at this
  | x :: xs, y :: ys, p, h1, h2 => by
    have a1 := List.pairwise_cons.mp h1
    have a2 := List.pairwise_cons.mp h2
    have e : x = y := by
      have m1 : x ∈ y :: ys := p.mem_iff.mp List.mem_cons_self
      have m2 : y ∈ x :: xs := p.mem_iff.mpr List.mem_cons_self
      rcases List.mem_cons.mp m1 with e | m1
      · exact e
      · rcases List.mem_cons.mp m2 with e | m2
        · exact e.symm
        · have b1 := a2.1 x m1
          have b2 := a1.1 y m2
          omega
    subst e
    rw [pw_uniq xs ys ((List.perm_cons x).mp p) a1.2 a2.2]
theorem sort_is {xs ys : List Int} (p : ys.Perm xs) (h : ys.Pairwise (· ≤ ·)) : ys = sortI xs :=
  pw_uniq _ _ (p.trans (sortI_perm xs).symm) h (sortI_pw xs)
def intKeys {α : Type} : List (Key × α) → Option (List Int)
  | [] => some []
  | (.inl i, _) :: r => (intKeys r).map (i :: ·)
  | (.inr _, _) :: _ => none
theorem intKeys_ok {α β : Type} : ∀ {kvs : List (Key × α)} {es : List (Key × β)} {is : List Int}, kvs.map (·.1) = es.map (·.1) → intKeys es = some is → kvs.map (·.1) = is.map Sum.inl
  | kvs, [], is, h, e => by cases e; simpa using h
  | [], (.inl i, d) :: es, is, h, e => by simp at h
  | (k, v) :: kvs, (.inl i, d) :: es, is, h, e => by
    rw [List.map_cons, List.map_cons, List.cons.injEq] at h
    unfold intKeys at e
    cases q : intKeys es with
    | none => rw [q] at e; cases e
    | some js =>
      rw [q] at e
      cases e
      rw [List.map_cons, List.map_cons, h.1, intKeys_ok h.2 q]
  | _, (.inr _, _) :: _, _, _, e => by cases e
theorem rpks_keys {K : PySem.W.Frag} {F : Hp} {κ : Type} : ∀ {kvs : List (κ × V)} {es : List (κ × D)}, RpKs K F kvs es → kvs.map (·.1) = es.map (·.1)
  | _, _, .nil => rfl
  | _, _, .cons h r => by rw [List.map_cons, List.map_cons, rpks_keys r]
section
variable {G : Gd}
def gSortD : List Cl → Option Cl
  | [c] => match dctE c with
    | some es => (intKeys es).map fun is => .lst ((sortI is).map PyData.int)
    | none => none
  | _ => none
theorem prm_sortD : Prm G rSortDK gSortD := fun F H L cs vs c Q hr hc e hQ => by
  unfold gSortD at e
  split at e
  · rename_i c0
    obtain ⟨v1, A1, rfl, h1⟩ := crs1 hc
    cases q : dctE c0 with
    | none => rw [q] at e; cases e
    | some es =>
      rw [q] at e
      dsimp only at e
      cases q2 : intKeys es with
      | none => rw [q2] at e; cases e
      | some is =>
        rw [q2] at e
        cases e
        obtain ⟨a, kvs, rfl, hd, rk⟩ := dctE_cr h1 hr.sub q
        refine ⟨a, kvs, is, rfl, hd, intKeys_ok (rpks_keys rk) q2, fun js p hp hs hn => ?_⟩
        rw [sort_is hp hs]
        exact hQ F _ _ (Same.refl _) (HR.lstN hr hn (RpA.of_ints _))
  · cases e
def gSortL : List Cl → Option Cl
  | [c] => match c.data with
    | some (.list ds) => (intsD ds).map fun is => .lst ((sortI is).map PyData.int)
    | _ => none
  | _ => none
theorem prm_sortL : Prm G (rSortedI G.K) gSortL := fun F H L cs vs c Q hr hc e hQ => by
  unfold gSortL at e
  split at e
  · obtain ⟨v1, A1, rfl, h1⟩ := crs1 hc
    split at e
    · rename_i ds q
      cases q2 : intsD ds with
      | none => rw [q2] at e; cases e
      | some is =>
        rw [q2] at e
        cases e
        obtain ⟨a, ws, rfl, q1, r1⟩ := h1.seqL hr.sub q
        cases intsD_ok q2
        have ew := r1.ints
        subst ew
        refine ⟨a, is, rfl, q1, fun js p hp hs hn => ?_⟩
        rw [sort_is hp hs]
        exact hQ F _ _ (Same.refl _) (HR.lstN hr hn (RpA.of_ints _))
    · cases e
  · cases e
end
/-! ### {k: v} -/
section
variable {ι : Type} {G : Gd} {X : ι → Cx} {W : WX} {e1 e2 : Expr} {pos : Pos}
def fDct1 (f g : Fn Bv) : Fn Cl := fun n ρ => bnd (fFz f n ρ) fun c1 ρ1 => bnd (fFz g n ρ1) fun c2 ρ2 => match c1, c2 with
  | .fz kd, .fz d => match keyD kd with
    | some k => some (.ok (.dct [(k, d)]) ρ2)
    | none => none
  | _, _ => none
theorem keyD_kV {K : PySem.W.Frag} {F : Hp} {kd : D} {k : Key} {v : V} (e : keyD kd = some k) (r : Rp K F v kd) : v = kV k := by
  unfold keyD at e
  split at e
  · cases e; cases r; rfl
  · cases e; cases r; rfl
  · cases e
theorem xe_dct1 {f g : Fn Bv} (h : XB G X W e1 f) (h' : XB G X W e2 g) : XE G X W (.Dict [some e1] [e2] pos) (fDct1 f g) := by
  obtain ⟨t, a1, a2⟩ := h
  obtain ⟨u, b1, b2⟩ := h'
  refine ⟨_, fun i => pe_disp (pps_cons (a1 i) (b1 i) pps_nil) rfl rfl (by simp) (by simp), fun n ρ r eq F H σ T Q hR hP => ?_⟩
  unfold fDct1 at eq
  intro p hp
  have fp : F p = none := by
    cases q : F p with
    | none => rfl
    | some o => rw [hR.sub _ _ q] at hp; cases hp
  have R0 : G.R F (upd H p (.dK [])) ρ σ ((.dct [], .ref p) :: T) := .mk' (hR.hr.newO hp (.dct upd_same fp .nil)) hR.ok
  cases q : fFz f n ρ with
  | none => rw [q] at eq; cases eq
  | some r1 =>
    rw [q] at eq
    refine snd_fz a2 n ρ r1 q F _ σ _ _ R0 ?_
    cases r1 with
    | ex x ρ' => cases eq; exact fun F' H' cls d s R xr => hP F' H' cls d s R.tail xr
    | ok c ρ1 =>
      rw [bnd_ok] at eq
      intro F1 H1 v1 s1 R1
      cases q2 : fFz g n ρ1 with
      | none => rw [q2] at eq; cases eq
      | some r2 =>
        rw [q2] at eq
        refine snd_fz b2 n ρ1 r2 q2 F1 H1 σ _ _ R1 ?_
        cases r2 with
        | ex x ρ' => cases eq; exact fun F' H' cls d s R xr => hP F' H' cls d (s1.trans s) R.tail.tail xr
        | ok c2 ρ2 =>
          rw [bnd_ok] at eq
          intro F2 H2 v2 s2 R2
          split at eq
          · rename_i kd d
            cases q3 : keyD kd with
            | none => rw [q3] at eq; cases eq
            | some k =>
              rw [q3] at eq
              cases eq
              have rd := R2.rp
              have rk := R2.tail.rp
              have ek := keyD_kV q3 rk
              have R' := R2.tail.tail
              obtain ⟨A, cr⟩ := R'.cr
              cases cr with
              | @dct a kvs _ h1 h2 rr =>
                cases rr
                refine ⟨h1, [(k, v2)], by rw [ek]; rfl, by simp, ?_⟩
                exact hP F2 _ _ (s1.trans s2) (.mk' (R'.hr'.mut (fun A h => by cases h; rfl) (.dct upd_same h2 (.cons rd .nil))) R'.ok)
          · cases eq
end
/-! ### the list [d, dict], a cell of its own -/
section
variable {G : Gd}
theorem HR.box {F H : Hp} {L : List (Cl × V)} {d : D} {es : List (Key × D)} {v : V} {b p : Addr} (h : G.HR F H ((.dct es, .ref b) :: (.fz d, v) :: L)) (hp : H p = none) : G.HR F (upd H p (.lst [v, .ref b])) ((.bx d es, .ref p) :: L) := by
  obtain ⟨s, A, n, q⟩ := h
  cases q with
  | cons q1 q =>
    cases q with
    | cons q2 r =>
      cases q1 with
      | @dct _ kvs _ h1 h2 rk =>
        cases q2 with
        | fz rd =>
          rename_i B
          have n' : ([b] ++ B).Nodup := n
          have hb : b ≠ p := ne_of_none h1 hp
          have nB : ∀ a ∈ B, a ≠ p := fun a ha => by
            obtain ⟨_, u, h3⟩ := r.fr a ha
            exact ne_of_none h3 hp
          have c1 := List.nodup_cons.mp n'
          refine ⟨fun a u e => ?_, [p, b] ++ B, ?_, .cons (.bx upd_same (s.free hp) rd (by rw [upd_ne hb]; exact h1) h2 rk) (r.mono (Same.refl _) fun a ha => ⟨(r.fr a ha).1, upd_ne (nB a ha)⟩)⟩
          · rw [upd_ne (ne_of_none (s _ _ e) hp)]
            exact s _ _ e
          · refine List.nodup_cons.mpr ⟨fun m => ?_, List.nodup_cons.mpr ⟨c1.1, c1.2⟩⟩
            rcases List.mem_cons.mp m with z | z
            · exact hb z.symm
            · exact nB p z rfl
theorem HR.unbox {F H : Hp} {L : List (Cl × V)} {d : D} {es : List (Key × D)} {w : V} (h : G.HR F H ((.bx d es, w) :: L)) : ∃ a v b, w = .ref a ∧ H a = some (.lst [v, .ref b]) ∧ G.HR F H ((.fz d, v) :: (.dct es, .ref b) :: L) := by
  obtain ⟨s, A, n, q⟩ := h
  cases q with
  | cons q1 r =>
    cases q1 with
    | @bx a b v _ kvs _ h1 h2 rd h3 h4 rk =>
      rename_i B
      have n' : ([a, b] ++ B).Nodup := n
      have c1 := List.nodup_cons.mp n'
      exact ⟨a, v, b, rfl, h1, s, [] ++ ([b] ++ B), c1.2, .cons (.fz rd) (.cons (.dct h3 h4 rk) r)⟩
end
section
variable {ι : Type} {G : Gd} {X : ι → Cx} {W : WX} {P : List Nat} {e e1 e2 : Expr} {pos : Pos}
def fBx (f : Fn Bv) (k : Nat) : Fn Cl := fun n ρ => bnd (fFz f n ρ) fun c ρ1 => match c, (ρ1[k]?).join with
  | .fz d, some (.dct es) => some (.ok (.bx d es) (ρ1.set k none))
  | _, _ => none
theorem xe_bx {f : Fn Bv} {k : Nat} (h : XB G X W e1 f) (hx : ∀ j, PE (X j) e2 (tVar k)) (hs : ∀ i, starEach [e1, e2] (X i).env = (false, eval e1 (X i).env) :: starEach [e2] (X i).env) (hs2 : ∀ i, starEach [e2] (X i).env = (false, eval e2 (X i).env) :: starEach [] (X i).env) :
    XE G X W (.List [e1, e2] pos) (fBx f k) := by
  obtain ⟨t, a1, a2⟩ := h
  refine ⟨_, fun i => pe_lst (pa_cons (a1 i) (pa_cons (hx i) pa_nil (hs2 i)) (hs i)), fun n ρ r eq F H σ T Q hR hP => ?_⟩
  unfold fBx at eq
  cases q : fFz f n ρ with
  | none => rw [q] at eq; cases eq
  | some r1 =>
    rw [q] at eq
    refine snd_fz a2 n ρ r1 q F H σ T _ hR ?_
    cases r1 with
    | ex x ρ' => cases eq; exact hP
    | ok c ρ1 =>
      rw [bnd_ok] at eq
      intro F1 H1 v s1 R1
      split at eq
      · rename_i d es q2
        cases eq
        obtain ⟨w, hw, R2⟩ := R.take R1 (join_some q2)
        refine ⟨w, hw, ?_⟩
        obtain ⟨A, cr⟩ := R2.cr
        cases cr with
        | @dct b kvs _ h1 h2 rk =>
          refine ⟨by show 2 ≤ sizeLine; decide, fun p hp => ?_⟩
          exact hP F1 _ _ s1 (.mk' (HR.box (R2.hr'.perm (.cons _ List.perm_middle)) hp) R2.ok)
      · cases eq
/-- x, y = a list [d, dict] -/
def sUnb (i j : Nat) (f : Fn Cl) : FS := fun n ρ => bS (f n ρ) fun c ρ1 => match c with
  | .bx d es => if i < ρ1.length ∧ j < ρ1.length ∧ i ≠ j then some (.nx ((ρ1.set i (some (.fz d))).set j (some (.dct es)))) else none
  | _ => none
theorem xs_unb {i j m : Nat} {x y : Str} {px py p2 : Pos} {f : Fn Cl} (hK : ∀ k, (X k).K = G.K) (hc : ∀ k, (X k).calm = true) (hi : i ∉ P) (hj : j ∉ P) (hgi : ∀ k, PG (X k) (.Name x px) (gName i)) (hgj : ∀ k, PG (X k) (.Name y py) (gName j)) (h : XE G X W e f)
    (ha : ∀ k, (assignEach [.Name x px, .Name y py] (X k).env).map (·.2) = assign (.Name x px) (X k).env :: (assignEach [.Name y py] (X k).env).map (·.2)) (ha2 : ∀ k, (assignEach [.Name y py] (X k).env).map (·.2) = assign (.Name y py) (X k).env :: (assignEach [] (X k).env).map (·.2))
    (hn : ∀ k, (assignEach [.Name x px, .Name y py] (X k).env).length = 2) (hst : ∀ k, (assignEach [.Name x px, .Name y py] (X k).env).findIdx? (·.1) = none)
    (hs : ∀ k, swapsWithSole [.Tuple [.Name x px, .Name y py] m p2] e pos.line (X k).env = pure false) (hw : ∀ k, swappedStores [.Tuple [.Name x px, .Name y py] m p2] e (X k).env = pure none)
    (h1 : ∀ k, (assignEach [.Tuple [.Name x px, .Name y py] m p2] (X k).env).map (·.2) = [assign (.Tuple [.Name x px, .Name y py] m p2) (X k).env]) : XS G X W P (.Assign [.Tuple [.Name x px, .Name y py] m p2] e pos) (sUnb i j f) := by
  obtain ⟨t, a1, a2⟩ := h
  refine ⟨_, fun k => ps_asg (a1 k) (by have := pg_lst (k := m) (pos := p2) (hc k) (pgs_cons (hgi k) (pgs_cons (hgj k) pgs_nil (ha2 k)) (ha k)) (hn k) (hst k); rw [hK k] at this; exact this) (hs k) (hw k) (h1 k), fun n ρ o eq F H σ T D hR hP => ?_⟩
  unfold sUnb at eq
  cases q : f n ρ with
  | none => rw [q] at eq; cases eq
  | some r1 =>
    rw [q] at eq
    refine a2 n ρ r1 q F H σ T _ hR ?_
    cases r1 with
    | ex x ρ' => cases eq; exact hP.px
    | ok c ρ1 =>
      rw [bS_ok] at eq
      intro F1 H1 v s1 R1
      split at eq
      · rename_i d es
        split at eq
        case isFalse => cases eq
        rename_i hl
        cases eq
        obtain ⟨a, vd, b, rfl, ha', hr⟩ := HR.unbox R1.hr'
        refine ⟨a, _, rfl, .inl (.inl ha'), rfl, _, _, rfl, _, _, rfl, rfl, ?_⟩
        have R2 : G.R F1 H1 ρ1 σ ((.fz d, vd) :: (.dct es, .ref b) :: T) := .mk' (hr.perm (.cons _ List.perm_middle.symm)) R1.ok
        have R3 := R.set (R.set R2 hl.1) (i := j) (by rw [List.length_set]; exact hl.2.1)
        exact hP F1 H1 _ s1 R3 ((Kp.set hi).trans (Kp.set hj))
      · cases eq
end
end L3

set_option maxHeartbeats 1000000
namespace L3
open PySem PySem.Spec L2 PyProof.Rows HT
/-! ### t[::k] -/
def evN (n k : Nat) : Nat := if n = 0 then 0 else (n - 1) / k + 1
def evL {α : Type} (k : Nat) (xs : List α) : List α := (List.range (evN xs.length k)).filterMap fun j => xs[j * k]?
theorem stpN_ev (n k : Nat) : stpN ((k + 1 : Nat) : Int) n = evN n (k + 1) := by
  have pos : ¬ (((k + 1 : Nat) : Int) < 0) := by omega
  have two : Builtin.Slice.sliceAdjust none none ((k + 1 : Nat) : Int) (n : Int) = (0, (n : Int)) := by
    show ((if ((k + 1 : Nat) : Int) < 0 then _ else _), (if ((k + 1 : Nat) : Int) < 0 then _ else _)) = _
    simp only [if_neg pos]
  unfold stpN stpO
  rw [two]
  unfold Builtin.Slice.slicePlaces evN
  rw [if_pos (by omega)]
  by_cases z : n = 0
  · simp [z]
  · rw [if_neg z, if_pos (by omega), show (n : Int) - 0 - 1 = ((n - 1 : Nat) : Int) by omega, ← Int.natCast_ediv]
    generalize (n - 1) / (k + 1) = q
    omega
theorem stpO_ev (n k : Nat) : stpO ((k + 1 : Nat) : Int) n = 0 := by
  have pos : ¬ (((k + 1 : Nat) : Int) < 0) := by omega
  exact (if_neg pos : (if ((k + 1 : Nat) : Int) < 0 then (n : Int) - 1 else 0) = 0)
theorem stpL_ev {α : Type} (k : Nat) (xs : List α) : stpL ((k + 1 : Nat) : Int) xs = evL (k + 1) xs := by
  unfold stpL stpJ evL
  rw [stpN_ev, stpO_ev, List.filterMap_map]
  exact fm_congr fun j _ => by
    show xs[(0 + (j : Int) * ((k + 1 : Nat) : Int)).toNat]? = _
    rw [Int.zero_add, ← Int.natCast_mul, Int.toNat_natCast]
theorem evL_le {α : Type} (k : Nat) (xs : List α) : (evL k xs).length ≤ xs.length := by
  unfold evL
  refine Nat.le_trans (List.length_filterMap_le _ _) ?_
  rw [List.length_range]
  unfold evN
  split
  · omega
  · have := Nat.div_le_self (xs.length - 1) k
    omega
theorem RpA.picks {K : PySem.W.Frag} {F : Hp} {vs : List V} {ds : List D} (h : RpA K F vs ds) : ∀ js : List Nat, RpA K F (js.filterMap fun j => vs[j]?) (js.filterMap fun j => ds[j]?)
  | [] => .nil
  | j :: js => by
    rw [List.filterMap_cons, List.filterMap_cons]
    have hl := h.length
    cases q : vs[j]? with
    | none =>
      have hj : ¬ j < vs.length := fun z => by rw [List.getElem?_eq_getElem z] at q; cases q
      have : ds[j]? = none := List.getElem?_eq_none (by omega)
      rw [this]
      exact RpA.picks h js
    | some x =>
      obtain ⟨d, hd, rd⟩ := h.getV q
      rw [hd]
      exact .cons rd (RpA.picks h js)
theorem evL_eq {α : Type} (k : Nat) (xs : List α) : evL k xs = ((List.range (evN xs.length k)).map fun j => j * k).filterMap fun j => xs[j]? := by
  unfold evL
  rw [List.filterMap_map]; rfl
theorem RpA.every {K : PySem.W.Frag} {F : Hp} {vs : List V} {ds : List D} (h : RpA K F vs ds) (k : Nat) : RpA K F (evL k vs) (evL k ds) := by
  rw [evL_eq, evL_eq, h.length]
  exact RpA.picks h _
def tStepA (K : PySem.W.Frag) (te tk : TE) : TE := fun σ H Q => te σ H fun x H1 => tPart tk σ H1 fun o H2 => ∃ (a : Addr) (xs : List V) (k : Nat), x = .ref a ∧ o = some ((k + 2 : Nat) : Int) ∧ SqT K H2 a xs ∧ ∀ p, H2 p = none → Q (.ref p) (upd H2 p (.tup (evL (k + 2) xs)))
theorem pe_stepA {X : Cx} {e ek : Expr} {te tk : TE} {p3 pos : Pos} (he : PE X e te) (hk : PE X ek tk) : PE X (.Subscript e (.Slice none none (some ek) p3) pos) (tStepA X.K te tk) :=
  pe_stp (r := fun x σ H Q => tPart tk σ H fun o H2 => ∃ (a : Addr) (xs : List V) (k : Nat), x = .ref a ∧ o = some ((k + 2 : Nat) : Int) ∧ SqT X.K H2 a xs ∧ ∀ p, H2 p = none → Q (.ref p) (upd H2 p (.tup (evL (k + 2) xs))))
    (fun _ _ _ _ q => q) (fun _ _ _ _ ⟨a, xs, k, ex, eo, h, q⟩ => ⟨a, xs, _, ex, eo, by omega, by omega, by rw [stpL_ev]; exact evL_le _ _, h, by rw [stpL_ev]; exact q⟩) he hk
section
variable {ι : Type} {G : Gd} {X : ι → Cx} {W : WX} {e ek : Expr} {pos : Pos}
def fStep (f g : Fn Bv) : Fn Cl := fun n ρ => bnd (fFz f n ρ) fun c ρ1 => bnd (fFz g n ρ1) fun c2 ρ2 => match c, c2 with
  | .fz (.tuple ds), .fz (.int k) => if 2 ≤ k then some (.ok (.fz (.tuple (evL k.toNat ds))) ρ2) else none
  | _, _ => none
theorem xe_step {f g : Fn Bv} {p3 : Pos} (hK : ∀ i, (X i).K = G.K) (h : XB G X W e f) (h' : XB G X W ek g) : XE G X W (.Subscript e (.Slice none none (some ek) p3) pos) (fStep f g) := by
  obtain ⟨t, h1, h2⟩ := h
  obtain ⟨u, h3, h4⟩ := h'
  refine ⟨_, fun i => by
    have := pe_stepA (p3 := p3) (pos := pos) (h1 i) (h3 i)
    rw [hK i] at this
    exact this, fun n ρ r eq F H σ T' Q hR hP => ?_⟩
  unfold fStep at eq
  cases q : fFz f n ρ with
  | none => rw [q] at eq; cases eq
  | some r1 =>
    rw [q] at eq
    refine snd_fz h2 n ρ r1 q F H σ T' _ hR ?_
    cases r1 with
    | ex x ρ' => cases eq; exact hP
    | ok c ρ1 =>
      rw [bnd_ok] at eq
      intro F1 H1 v s1 R1
      cases q2 : fFz g n ρ1 with
      | none => rw [q2] at eq; cases eq
      | some r2 =>
        rw [q2] at eq
        refine snd_fz h4 n ρ1 r2 q2 F1 H1 σ _ _ R1 ?_
        cases r2 with
        | ex x ρ' => cases eq; exact fun F' H' cls d s R xr => hP F' H' cls d (s1.trans s) R.tail xr
        | ok c2 ρ2 =>
          rw [bnd_ok] at eq
          intro F2 H2 v2 s2 R2
          split at eq
          · rename_i ds k
            split at eq
            case isFalse => cases eq
            rename_i hk
            cases eq
            have ri := R2.rp
            have rt := R2.tail.rp
            cases ri
            cases rt with
            | tup hq ra =>
              rename_i a vs
              obtain ⟨m, hm⟩ : ∃ m : Nat, k.toNat = m + 2 := ⟨k.toNat - 2, by omega⟩
              refine ⟨k, rfl, a, vs, m, rfl, by congr 1; omega, sameT R2.sub hq, fun p hp => ?_⟩
              rw [hm] at hP
              obtain ⟨s3, R3⟩ := R2.tail.tail.newTup hp (ra.every (m + 2))
              exact hP _ _ _ (s1.trans (s2.trans s3)) R3
          · cases eq
end
/-! ### list(range(a, b)) -/
section
variable {ι : Type} {G : Gd} {X : ι → Cx} {W : WX} {e e2 : Expr} {p pos p' pos' : Pos}
def fLstRg (f g : Fn Bv) : Fn Cl := fun n ρ => bnd (fFz f n ρ) fun c ρ1 => bnd (fFz g n ρ1) fun c2 ρ2 => match c, c2 with
  | .fz (.int i), .fz (.int j) => if (Nat.ble i.natAbs 1000000 && Nat.ble j.natAbs 1000000) = true then some (.ok (.lst (rngD i (j - i).toNat)) ρ2) else none
  | _, _ => none
theorem rgA (K : PySem.W.Frag) (F : Hp) (f : Nat → Int) : ∀ l : List Nat, RpA K F (l.map fun k => V.int (f k)) (l.map fun k => PyData.int (f k))
  | [] => .nil
  | _ :: l => .cons (.int _) (rgA K F f l)
theorem xe_lstRg {f g : Fn Bv} (hc : ∀ i, (X i).calm = true) (hg : ∀ i, Gl (X i) "list") (hm : ∀ i, (X i).mg "list" = none) (hg2 : ∀ i, Gl (X i) "range") (hm2 : ∀ i, (X i).mg "range" = none) (h : XB G X W e f) (h' : XB G X W e2 g)
    (na : ∀ i, starEach [e, e2] (X i).env = (false, eval e (X i).env) :: starEach [e2] (X i).env) (nb : ∀ i, starEach [e2] (X i).env = (false, eval e2 (X i).env) :: starEach [] (X i).env)
    (nc : ∀ i, starEach [.Call (.Name "range" p) [e, e2] [] pos] (X i).env = (false, eval (.Call (.Name "range" p) [e, e2] [] pos) (X i).env) :: starEach [] (X i).env) :
    XE G X W (.Call (.Name "list" p') [.Call (.Name "range" p) [e, e2] [] pos] [] pos') (fLstRg f g) := by
  obtain ⟨t, h1, h2⟩ := h
  obtain ⟨t', h1', h2'⟩ := h'
  refine ⟨_, fun i => pe_listRg (hc i) (hg i) (hm i) (prg_2 (hg2 i) (hm2 i) (h1 i) (h1' i) (na i) (nb i) (by rw [nb i]; rfl)) (nc i), fun n ρ r eq F H σ T' Q hR hP => ?_⟩
  unfold fLstRg at eq
  cases q : fFz f n ρ with
  | none => rw [q] at eq; cases eq
  | some r1 =>
    rw [q] at eq
    refine snd_fz h2 n ρ r1 q F H σ T' _ hR ?_
    cases r1 with
    | ex x ρ' => cases eq; exact hP
    | ok c ρ1 =>
      rw [bnd_ok] at eq
      intro F1 H1 v s1 R1
      cases q2 : fFz g n ρ1 with
      | none => rw [q2] at eq; cases eq
      | some r2 =>
        rw [q2] at eq
        refine snd_fz h2' n ρ1 r2 q2 F1 H1 σ _ _ R1 ?_
        cases r2 with
        | ex x ρ' => cases eq; exact fun F' H' cls d s R xr => hP F' H' cls d (s1.trans s) R.tail xr
        | ok c2 ρ2 =>
          rw [bnd_ok] at eq
          intro F2 H2 v2 s2 R2
          split at eq
          · rename_i i j
            split at eq
            case isFalse => cases eq
            rename_i hk
            cases eq
            rw [Bool.and_eq_true] at hk
            have k1 := Nat.le_of_ble_eq_true hk.1
            have k2 := Nat.le_of_ble_eq_true hk.2
            have ri := R2.rp
            have rt := R2.tail.rp
            cases ri
            cases rt
            refine ⟨i, j, rfl, rfl, ⟨by omega, by omega, by omega, by omega, by omega⟩, fun p hp => ?_⟩
            exact hP _ _ _ (s1.trans s2) (R.newLst R2.tail.tail hp (rgA _ _ (fun k => i + (k : Int)) _))
          · cases eq
end
/-! ### a tuple of ints that stands as a global -/
def TupIs (K : PySem.W.Frag) (t : Addr) (ns : List Int) : Prop := ∃ o its n, K.lookup t = some o ∧ o.cls = .type "tuple" ∧ o.data = .seq its n ∧ its.size ≤ sizeLine ∧ Vals (ns.map V.int) its.toList
theorem rp_ints (K : PySem.W.Frag) (F : Hp) : ∀ ns : List Int, RpA K F (ns.map V.int) (ns.map PyData.int)
  | [] => .nil
  | _ :: ns => .cons (.int _) (rp_ints K F ns)
theorem tup_rp {K : PySem.W.Frag} {t : Addr} {ns : List Int} (h : TupIs K t ns) (F : Hp) : Rp K F (.ref t) (.tuple (ns.map PyData.int)) := by
  obtain ⟨o, its, n, h1, h2, h3, h4, h5⟩ := h
  exact .tup (.inr (.inr ⟨o, its, n, h1, h2, h3, h4, h5⟩)) (rp_ints K F ns)
def vI (n : Int) : Value → Bool
  | .int m _ => decide (m = n)
  | _ => false
theorem vI_ok {n : Int} {v : Value} (h : vI n v = true) : RelV (.int n) v := by
  unfold vI at h
  split at h
  · cases of_decide_eq_true h
    exact ⟨_, rfl⟩
  · cases h
def vIs : List Int → List Value → Bool
  | [], [] => true
  | n :: ns, v :: vs => vI n v && vIs ns vs
  | _, _ => false
theorem vals_ints : ∀ (ns : List Int) {us : List Value}, vIs ns us = true → Vals (ns.map V.int) us
  | [], [], _ => .nil
  | n :: ns, v :: vs, h => by
    rw [vIs, Bool.and_eq_true] at h
    exact .cons (vI_ok h.1) (vals_ints ns h.2)
theorem tupIs_mk {K : PySem.W.Frag} {t : Addr} {ns : List Int} {od : Option Addr} {its : Array Value} {n : Nat} {sl : Array (Option Value)} (h : K.lookup t = some ⟨.type "tuple", od, .seq its n, sl⟩) (hz : its.size ≤ sizeLine) (hv : Vals (ns.map V.int) its.toList) : TupIs K t ns := ⟨_, its, n, h, rfl, rfl, hz, hv⟩
/-! ### sum(t) of a tuple of ints -/
def rSumT (K : PySem.W.Frag) : List V → Hp → VK → Prop := fun vs H Q => ∃ (a : Addr) (ns : List Int), vs = [V.ref a] ∧ SqT K H a (ns.map V.int) ∧ Q (.int ns.sum) H
theorem cr_sumT {X : Cx} (hc : X.calm = true) : CallR X (.builtin "sum") (rSumT X.K) := by
  intro pins s σ H vs us Q I r h
  obtain ⟨a, ns, rfl, hs, q⟩ := h
  obtain ⟨its, rv, hl, _⟩ := I.tuple hs
  rw [Vals.ref1 r]
  have hi := rv.ints
  obtain ⟨xs, hx⟩ := hi.allInts.items
  have hn : numsOf its.toArray.toList = ns := by rw [show its.toArray.toList = its from rfl, hi.numsOf]
  have hl' : s.heap.IsTuple a its.toArray := hl
  rw [hx] at hl' hn
  rw [nums_intItems] at hn
  refine PySem.W.ktm_sumG (I.ok.hd hc) hl' fun h' tk t' hk => ?_
  refine ⟨.int _, H, I.kept hk, ⟨_, rfl⟩, ?_⟩
  rw [preSum_eq, List.take_of_length_le (by simp), hn]
  exact q
def gSumT : List Cl → Option Cl
  | [c] => match c.data with
    | some (.tuple ds) => (intsD ds).map fun ns => .fz (.int ns.sum)
    | _ => none
  | _ => none
theorem prm_sumT {G : Gd} : Prm G (rSumT G.K) gSumT := fun F H L cs vs c Q hr hc e hQ => by
  unfold gSumT at e
  split at e
  · obtain ⟨v1, A1, rfl, h1⟩ := crs1 hc
    split at e
    · rename_i ds q
      obtain ⟨a, ws, rfl, q1, r1⟩ := h1.seqT hr.sub q
      cases q2 : intsD ds with
      | none => rw [q2] at e; cases e
      | some ns =>
        rw [q2] at e
        cases e
        have ed := intsD_ok q2
        subst ed
        have ew := r1.ints
        subst ew
        exact ⟨_, _, rfl, sameT hr.sub q1, hQ F H _ (Same.refl _) (hr.push (.int _))⟩
    · cases e
  · cases e
/-! ### no promise -/
theorem ok_none {P : Program} {w : World} {K : PySem.W.Frag} {mg : Str → Option Value} {base : Heap} {CX : CXT} {x qual : Str} {st : Stmt} {f : Addr} {fd : FuncData} {ps : List Str} {k np : Nat} {G : Gd} (F : Fun K x qual st f fd) (hnp : ps.length = np) : FnOk P w K mg base CX k f fd ps (spM G np fun _ => none) :=
  ⟨fun vs H Q E h => by rw [hnp]; exact h.1, fun A outer s H args us vs Q E hr he hb hv hs => by
    obtain ⟨_, _, _, _, _, _, _, e, _⟩ := hs
    cases e⟩
end L3

namespace L3
open PySem PySem.Spec PySem.W
/-! ### a zip of two lists in any state: its last pair let go, still out, or gone -/
/-- the zip's record: v0 the pair it gave out last, v1 whether it knows that it is out -/
abbrev zO (TI TO : Addr) (v0 v1 : Value) : Obj := { cls := .type "zip", dict := none, data := .fields #[v0, v1, .bool false, .ref TI, .ref TO], slots := #[] }
/-- the zip at h: its record, its pair of iterators, its own pair, the iterators, .. -/
structure ZR (z TI TO i1 i2 l1 l2 : Addr) (h : Heap) (v0 v1 a b : Value) (m n : Nat) : Prop where
  z : h.get? z = some (zO TI TO v0 v1)
  ti : IsPair h TI (.ref i1) (.ref i2)
  to : IsPair h TO a b
  i1 : h.IsListIter i1 l1 m
  i2 : h.IsListIter i2 l2 n
/-- .. and the lists -/
structure ZS (z TI TO i1 i2 l1 l2 : Addr) (xs ys : Array Value) (h : Heap) (v0 v1 a b : Value) (m n : Nat) : Prop extends ZR z TI TO i1 i2 l1 l2 h v0 v1 a b m n where
  l1 : h.IsList l1 xs
  l2 : h.IsList l2 ys
section
variable {z TI TO i1 i2 l1 l2 : Addr} {xs ys : Array Value} {h h' : Heap} {v0 v1 v0' v1' a b a' b' : Value} {m n : Nat}
theorem ZS.onZ (S : ZS z TI TO i1 i2 l1 l2 xs ys h v0 v1 a b m n) (D : ZipApart z TI TO i1 i2 l1 l2) (k : Heap.SameBut z h h') (e : h'.get? z = some (zO TI TO v0' v1')) : ZS z TI TO i1 i2 l1 l2 xs ys h' v0' v1' a b m n :=
  ⟨⟨e, k.extBut _ _ D.TIz S.ti, k.extBut _ _ D.TOz S.to, S.i1.extBut k.extBut D.i1z, S.i2.extBut k.extBut D.i2z⟩, S.l1.extBut k.extBut D.l1z, S.l2.extBut k.extBut D.l2z⟩
theorem ZS.onT (S : ZS z TI TO i1 i2 l1 l2 xs ys h v0 v1 a b m n) (D : ZipApart z TI TO i1 i2 l1 l2) (k : Heap.SameBut TO h h') (e : IsPair h' TO a' b') : ZS z TI TO i1 i2 l1 l2 xs ys h' v0 v1 a' b' m n :=
  ⟨⟨k.extBut _ _ D.TOz.symm S.z, k.extBut _ _ D.TITO S.ti, e, S.i1.extBut k.extBut D.TOi1.symm, S.i2.extBut k.extBut D.TOi2.symm⟩, S.l1.extBut k.extBut D.l1TO, S.l2.extBut k.extBut D.l2TO⟩
theorem ZS.on1 (S : ZS z TI TO i1 i2 l1 l2 xs ys h v0 v1 a b m n) (D : ZipApart z TI TO i1 i2 l1 l2) (k : Heap.SameBut i1 h h') (e : h'.IsListIter i1 l1 (m + 1)) : ZS z TI TO i1 i2 l1 l2 xs ys h' v0 v1 a b (m + 1) n :=
  ⟨⟨k.extBut _ _ D.i1z.symm S.z, k.extBut _ _ D.TIi1 S.ti, k.extBut _ _ D.TOi1 S.to, e, S.i2.extBut k.extBut D.i12.symm⟩, S.l1.extBut k.extBut D.l1i1, S.l2.extBut k.extBut D.l2i1⟩
theorem ZS.on2 (S : ZS z TI TO i1 i2 l1 l2 xs ys h v0 v1 a b m n) (D : ZipApart z TI TO i1 i2 l1 l2) (k : Heap.SameBut i2 h h') (e : h'.IsListIter i2 l2 (n + 1)) : ZS z TI TO i1 i2 l1 l2 xs ys h' v0 v1 a b m (n + 1) :=
  ⟨⟨k.extBut _ _ D.i2z.symm S.z, k.extBut _ _ D.TIi2 S.ti, k.extBut _ _ D.TOi2 S.to, S.i1.extBut k.extBut D.i12, e⟩, S.l1.extBut k.extBut D.l1i2, S.l2.extBut k.extBut D.l2i2⟩
theorem ZR.all (S : ZR z TI TO i1 i2 l1 l2 h v0 v1 a b m n) (k : ∀ c ∈ [z, TI, TO, i1, i2], ∀ o, h.get? c = some o → h'.get? c = some o) : ZR z TI TO i1 i2 l1 l2 h' v0 v1 a b m n :=
  ⟨k z (by simp) _ S.z, k TI (by simp) _ S.ti, k TO (by simp) _ S.to, S.i1.at (k i1 (by simp)), S.i2.at (k i2 (by simp))⟩
theorem ZS.all (S : ZS z TI TO i1 i2 l1 l2 xs ys h v0 v1 a b m n) (k : ∀ c o, h.get? c = some o → h'.get? c = some o) : ZS z TI TO i1 i2 l1 l2 xs ys h' v0 v1 a b m n :=
  ⟨S.toZR.all fun c _ => k c, S.l1.at (k _), S.l2.at (k _)⟩
end
section
variable {prog : Program} {w : World} {A : Around} {E : Value → Shared → Prop} {s : Shared} {z TI TO i1 i2 l1 l2 : Addr} {m n : Nat} {xs ys : Array Value}
/-- the pair that it gave out before may be taken again -/
abbrev ZFree (prog : Program) (w : World) (z : Addr) (s : Shared) : Prop := ∀ {A : Around} {E : Value → Shared → Prop} {Q : Bool → Shared → Prop}, Q true s → wpAny (model prog w) A (Builtin.SmallTypes.ownedTupleIsFree (.ref z)) Q E s
theorem zfree_none {v1 : Value} (e : s.heap.get? z = some (zO TI TO .none v1)) : ZFree prog w z s := fun q => by
  unfold Builtin.SmallTypes.ownedTupleIsFree
  wp_walk
  exact q
theorem zfree_gone {v1 : Value} {T : Addr} (e : s.heap.get? z = some (zO TI TO (rawInt T) v1)) (no : s.heap.get? T = none) : ZFree prog w z s := fun {A E Q} q => by
  have look : ∀ {Q : Option Obj → Shared → Prop}, Q none s → wpAny (model prog w) A (loadIfAlive ((T : Int).toNat)) Q E s := fun {Q} q _ _ _ => (show Q (s.heap.get? T) s by rw [no]; exact q)
  unfold Builtin.SmallTypes.ownedTupleIsFree
  wp_walk using look
  exact q
set_option maxHeartbeats 4000000 in
/-- then it draws from both lists into that pair, and gives out a new one -/
theorem zip_take {x y a b v0 v1 : Value} {Q : Value → Shared → Prop} (D : ZipApart z TI TO i1 i2 l1 l2) (S : ZS z TI TO i1 i2 l1 l2 xs ys s.heap v0 v1 a b m n) (free : ZFree prog w z s) (hx : xs[m]? = some x) (hy : ys[n]? = some y)
    (hQ : ∀ h', ZS z TI TO i1 i2 l1 l2 xs ys h' (rawInt s.heap.objs.size) (.bool false) x y (m + 1) (n + 1) → IsPair h' s.heap.objs.size x y → h'.objs.size = s.heap.objs.size + 1 →
      (∀ c o, c ≠ z → c ≠ TO → c ≠ i1 → c ≠ i2 → s.heap.get? c = some o → h'.get? c = some o) → Q (.ref s.heap.objs.size) { s with heap := h' }) :
    wpAny (model prog w) A (Builtin.«zip.__next__» ⟨[.ref z], []⟩) (fun fin s' => ∃ v, fin = .done (.ret v) ∧ Q v s') E s := by
  have r := S.z
  have t := S.ti
  unfold Builtin.«zip.__next__»
  wp_walk using free, wpAny_setField_rec S.z (show 0 < 5 by decide)
  intro h1 e1 k1
  have S := S.onZ D k1 e1
  wp_walk using wpAny_onRaise, wpAny_nextOf_list_item S.i1 S.l1 hx
  intro h2 e2 k2
  have S := S.on1 D k2 e2
  wp_walk using wpAny_seqItems S.to rfl, wpAny_updateSeq_pair S.to
  intro h3 e3 k3
  have S := S.onT D k3 e3
  wp_walk using wpAny_onRaise, wpAny_nextOf_list_item S.i2 S.l2 hy
  intro h4 e4 k4
  have S := S.on2 D k4 e4
  wp_walk using wpAny_seqItems S.to rfl, wpAny_updateSeq_pair S.to
  intro h5 e5 k5
  have S := S.onT D k5 e5
  have r := S.z
  wp_walk using wpAny_seqItems S.to rfl
  have size : h5.objs.size = s.heap.objs.size := k5.1.trans (k4.1.trans (k3.1.trans (k2.1.trans k1.1)))
  have kept : ∀ c o, c ≠ z → c ≠ TO → c ≠ i1 → c ≠ i2 → s.heap.get? c = some o → h5.get? c = some o := fun c o cz cT c1 c2 e => k5.extBut c o cT (k4.extBut c o c2 (k3.extBut c o cT (k2.extBut c o c1 (k1.extBut c o cz e))))
  have ne : h5.objs.size ≠ z := Nat.ne_of_gt (Heap.lt_size r)
  have S := S.all (h' := h5.push { cls := .type "tuple", data := .seq #[x, y] }) fun c o e => Heap.get?_push_of_some _ e
  have S := S.onZ D (.update ..) (Heap.get?_update_self (Obj.mapFields fun x => x.setIfInBounds 0 (rawInt h5.objs.size)) S.z rfl)
  have S := S.onZ D (.update ..) (Heap.get?_update_self (Obj.mapFields fun x => x.setIfInBounds 1 (.bool false)) S.z rfl)
  have up : ∀ c o, c ≠ z → (h5.push { cls := .type "tuple", data := .seq #[x, y] }).get? c = some o → (((h5.push { cls := .type "tuple", data := .seq #[x, y] }).update z (Obj.mapFields fun x => x.setIfInBounds 0 (rawInt h5.objs.size))).update z (Obj.mapFields fun x => x.setIfInBounds 1 (.bool false))).get? c = some o :=
    fun c o cz e => (Heap.SameBut.update ..).extBut c o cz ((Heap.SameBut.update ..).extBut c o cz e)
  refine ⟨_, rfl, ?_⟩
  have := hQ _ (size ▸ S) (size ▸ up _ _ ne (Heap.get?_push_size _ rfl)) (by rw [Heap.size_after_update, Heap.size_after_update, Heap.size_push, size]) fun c o cz cT c1 c2 e => up c o cz (Heap.get?_push_of_some _ (kept c o cz cT c1 c2 e))
  exact size ▸ this
set_option maxHeartbeats 4000000 in
/-- and where one list is at its end it says so -/
theorem zip_over {a b v0 v1 : Value} {Q : PySem.Fin → Shared → Prop} (hh : A.handled = none) (D : ZipApart z TI TO i1 i2 l1 l2) (S : ZS z TI TO i1 i2 l1 l2 xs ys s.heap v0 v1 a b m n) (free : ZFree prog w z s) (no : xs[m]? = none ∨ ys[n]? = none)
    (hE : ∀ h' e, (∀ c o, c ≠ z → c ≠ TO → c ≠ i1 → c ≠ i2 → s.heap.get? c = some o → h'.get? c = some o) → (∃ o, h'.get? e = some o ∧ o.cls = .type "StopIteration") → E (.ref e) { s with heap := h' }) :
    wpAny (model prog w) A (Builtin.«zip.__next__» ⟨[.ref z], []⟩) Q E s := by
  have r := S.z
  have t := S.ti
  unfold Builtin.«zip.__next__»
  wp_walk using free, wpAny_setField_rec S.z (show 0 < 5 by decide)
  intro h1 e1 k1
  have S := S.onZ D k1 e1
  have apart : ∀ {h2 h3 : Heap} {e : Addr} {o : Obj}, h2.get? e = some o → o.cls = .type "StopIteration" → h2.get? z = some (zO TI TO .ellipsis v1) → Heap.SameBut z h2 h3 → h3.get? e = some o := fun he hc hz k =>
    k.extBut _ _ (fun q => by rw [q, hz] at he; cases he; simp at hc) he
  cases hx : xs[m]? with
  | none =>
    wp_walk using wpAny_onRaise, wpAny_nextOf_list_end hh S.i1 S.l1 hx
    intro h2 e k2 ⟨o, he, hc⟩
    have r := k2 _ _ D.i1z.symm S.z
    wp_walk using wpAny_setField_rec r (show 0 < 5 by decide)
    intro h3 _ k3
    exact hE h3 e (fun c o cz _ c1 _ q => k3.extBut c o cz (k2 c o c1 (k1.extBut c o cz q))) ⟨o, apart he hc r k3, hc⟩
  | some x =>
    have hy : ys[n]? = none := no.resolve_left (by rw [hx]; exact fun q => nomatch q)
    wp_walk using wpAny_onRaise, wpAny_nextOf_list_item S.i1 S.l1 hx
    intro h2 e2 k2
    have S := S.on1 D k2 e2
    wp_walk using wpAny_seqItems S.to rfl, wpAny_updateSeq_pair S.to
    intro h3 e3 k3
    have S := S.onT D k3 e3
    wp_walk using wpAny_onRaise, wpAny_nextOf_list_end hh S.i2 S.l2 hy
    intro h4 e k4 ⟨o, he, hc⟩
    have r := k4 _ _ D.i2z.symm S.z
    wp_walk using wpAny_setField_rec r (show 0 < 5 by decide)
    intro h5 _ k5
    exact hE h5 e (fun c o cz cT c1 c2 q => k5.extBut c o cz (k4 c o c2 (k3.extBut c o cT (k2.extBut c o c1 (k1.extBut c o cz q))))) ⟨o, apart he hc r k5, hc⟩
/-- a zip as the turns leave it: its last pair let go, or given out and still there, or given out and gone -/
def ZipSt (z TI TO i1 i2 l1 l2 : Addr) (h : Heap) (m n : Nat) : Prop := ∃ v0 f a b, ZR z TI TO i1 i2 l1 l2 h v0 (.bool f) a b m n ∧ (v0 = .none ∨ ∃ T : Addr, v0 = rawInt T)
theorem nextZ {x y : Value} {Q : Value → Shared → Prop} (D : ZipApart z TI TO i1 i2 l1 l2) (S : ZipSt z TI TO i1 i2 l1 l2 s.heap m n) (hl1 : s.heap.IsList l1 xs) (hl2 : s.heap.IsList l2 ys) (hx : xs[m]? = some x) (hy : ys[n]? = some y)
    (hQ : ∀ h', ZipSt z TI TO i1 i2 l1 l2 h' (m + 1) (n + 1) → IsPair h' s.heap.objs.size x y → h'.objs.size = s.heap.objs.size + 1 →
      (∀ c o, c ≠ z → c ≠ TO → c ≠ i1 → c ≠ i2 → s.heap.get? c = some o → h'.get? c = some o) → Q (.ref s.heap.objs.size) { s with heap := h' }) : wpAny (model prog w) A (Builtin.SmallTypes.nextOf (.ref z)) Q E s := by
  have ⟨v0, f, a, b, R, st⟩ := S
  have S : ZS z TI TO i1 i2 l1 l2 xs ys s.heap v0 (.bool f) a b m n := ⟨R, hl1, hl2⟩
  have take := fun free : ZFree prog w z s => zip_take (A := A.in1) (E := E) (Q := fun v t => wpAny (model prog w) A (pure v) Q E t) D S free hx hy fun h' S' p z' k => wpAny_pure (hQ h' ⟨_, _, _, _, S'.toZR, .inr ⟨_, rfl⟩⟩ p z' k)
  have ty : s.TypeIs (.ref z) "zip" := ⟨_, R.z, rfl⟩
  unfold Builtin.SmallTypes.nextOf
  refine wpAny_bind (wpAny_callSpecial?_slot (name := Str.ofString "__next__") ty F.slot_zip_next (wpAny_call_entry F.slot_zip_next ty F.entry_zip_next ?_ (F.args_zip_next_1 _)))
  rcases st with rfl | ⟨T, rfl⟩
  · exact take (zfree_none R.z)
  · cases q : s.heap.get? T with
    | none => exact take (zfree_gone R.z q)
    | some o => exact zip_next_item_held D R.z q R.ti R.i1 R.i2 hl1 hl2 hx hy fun h' z' a1 a2 p sz k => wpAny_pure (hQ h' ⟨_, _, _, _, ⟨z', k _ _ D.TIz D.TIi1 D.TIi2 R.ti, k _ _ D.TOz D.TOi1 D.TOi2 R.to, a1, a2⟩, .inr ⟨_, rfl⟩⟩ p sz fun c o cz _ c1 c2 => k c o cz c1 c2)
theorem overZ {Q : Value → Shared → Prop} (hh : A.handled = none) (D : ZipApart z TI TO i1 i2 l1 l2) (S : ZipSt z TI TO i1 i2 l1 l2 s.heap m n) (hl1 : s.heap.IsList l1 xs) (hl2 : s.heap.IsList l2 ys) (no : xs[m]? = none ∨ ys[n]? = none)
    (hE : ∀ h' e, (∀ c o, c ≠ z → c ≠ TO → c ≠ i1 → c ≠ i2 → s.heap.get? c = some o → h'.get? c = some o) → (∃ o, h'.get? e = some o ∧ o.cls = .type "StopIteration") → E (.ref e) { s with heap := h' }) : wpAny (model prog w) A (Builtin.SmallTypes.nextOf (.ref z)) Q E s := by
  have ⟨v0, f, a, b, R, st⟩ := S
  have S : ZS z TI TO i1 i2 l1 l2 xs ys s.heap v0 (.bool f) a b m n := ⟨R, hl1, hl2⟩
  have ty : s.TypeIs (.ref z) "zip" := ⟨_, R.z, rfl⟩
  unfold Builtin.SmallTypes.nextOf
  refine wpAny_bind (wpAny_callSpecial?_slot (name := Str.ofString "__next__") ty F.slot_zip_next (wpAny_call_entry F.slot_zip_next ty F.entry_zip_next ?_ (F.args_zip_next_1 _)))
  rcases st with rfl | ⟨T, rfl⟩
  · exact zip_over hh D S (zfree_none R.z) no hE
  · cases q : s.heap.get? T with
    | none => exact zip_over hh D S (zfree_gone R.z q) no hE
    | some o => exact zip_next_end_held hh D R.z q R.ti R.i1 R.i2 hl1 hl2 no fun h' e k => hE h' e fun c o cz _ c1 c2 => k c o cz c1 c2
end
/-- an enumerate over a zip: it stands apart from the zip's parts -/
structure EnApart (e z TI TO i1 i2 l1 l2 : Addr) : Prop where
  z : e ≠ z
  TI : e ≠ TI
  TO : e ≠ TO
  i1 : e ≠ i1
  i2 : e ≠ i2
section
variable {prog : Program} {w : World} {A : Around} {E : Value → Shared → Prop} {s : Shared} {e z TI TO i1 i2 l1 l2 : Addr} {i m n : Nat} {xs ys : Array Value}
set_option maxHeartbeats 4000000 in
theorem enumZ_next {x y old : Value} {Q : Value → Shared → Prop} (De : EnApart e z TI TO i1 i2 l1 l2) (D : ZipApart z TI TO i1 i2 l1 l2) (he : IsEnum s.heap e z i old)
    (S : ZipSt z TI TO i1 i2 l1 l2 s.heap m n) (hl1 : s.heap.IsList l1 xs) (hl2 : s.heap.IsList l2 ys) (hx : xs[m]? = some x) (hy : ys[n]? = some y)
    (hQ : ∀ h', IsEnumOut h' e z ((i : Int) + 1) (.ref s.heap.objs.size) (s.heap.objs.size + 1) → ZipSt z TI TO i1 i2 l1 l2 h' (m + 1) (n + 1) → IsPair h' s.heap.objs.size x y →
      IsPair h' (s.heap.objs.size + 1) (.int i s.toks) (.ref s.heap.objs.size) → h'.objs.size = s.heap.objs.size + 2 → (∀ c o, c ≠ e → c ≠ z → c ≠ TO → c ≠ i1 → c ≠ i2 → s.heap.get? c = some o → h'.get? c = some o) →
      Q (.ref (s.heap.objs.size + 1)) { s with heap := h', toks := s.toks + 1 }) :
    wpAny (model prog w) A (Builtin.«enumerate.__next__» ⟨[.ref e], []⟩) (fun fin s' => ∃ v, fin = .done (.ret v) ∧ Q v s') E s := by
  obtain ⟨hp, g, d, tk, os⟩ := s
  unfold Builtin.«enumerate.__next__»
  refine wpAny_bind (m := slotArgs "__next__" 0 ⟨[.ref e], []⟩) (wpAny_pure (wpAny_bind (wpAny_field he rfl (x := .ref z) rfl (wpAny_bind (nextZ D S hl1 hl2 hx hy ?_)))))
  intro h1 S1 p1 z1 k1
  show wpAny _ _ _ _ _ ⟨h1, g, d, tk, os⟩
  have r1 := k1 e _ De.z De.TO De.i1 De.i2 he
  wp_walk using wpAny_setField_rec r1 (show 3 < 6 by decide)
  intro h2 r2 k2
  show wpAny _ _ _ _ _ ⟨h2, g, d, tk + 1, os⟩
  wp_walk using wpAny_setField_rec r2 (show 4 < 6 by decide)
  intro h3 r3 k3
  show wpAny _ _ _ _ _ ⟨h3, g, d, tk + 1, os⟩
  wp_walk using wpAny_newTuple
  have r : (h3.push { cls := .type "tuple", data := .seq #[.int i tk, .ref hp.objs.size] }).get? e = _ := Heap.get?_push_of_some _ r3
  wp_walk using wpAny_field r rfl (show _ = some Value.none from rfl)
  have size : h3.objs.size = hp.objs.size + 1 := k3.1.trans (k2.1.trans z1)
  have ne : e < hp.objs.size := Heap.lt_size he
  let U := fun (h : Heap) (j : Nat) (v : Value) => h.update e (Obj.mapFields fun x => x.setIfInBounds j v)
  let h4 := h3.push { cls := .type "tuple", data := .seq #[.int i tk, .ref hp.objs.size] }
  let h7 := U (U (U h4 5 (.ref hp.objs.size)) 0 (rawInt h3.objs.size)) 1 (.bool false)
  have up : ∀ c o, c ≠ e → h4.get? c = some o → h7.get? c = some o := fun c o ce q => (Heap.SameBut.update ..).extBut c o ce ((Heap.SameBut.update ..).extBut c o ce ((Heap.SameBut.update ..).extBut c o ce q))
  have r := Heap.get?_update_self (Obj.mapFields fun x => x.setIfInBounds 1 (.bool false)) (Heap.get?_update_self (Obj.mapFields fun x => x.setIfInBounds 0 (rawInt h3.objs.size)) (Heap.get?_update_self (Obj.mapFields fun x => x.setIfInBounds 5 (.ref hp.objs.size)) r rfl) rfl) rfl
  have old : ∀ c o, c ≠ e → h1.get? c = some o → h7.get? c = some o := fun c o ce q => up c o ce (Heap.get?_push_of_some _ (k3.extBut c o ce (k2.extBut c o ce q)))
  have ⟨v0, f, a, b, R, st⟩ := S1
  have apart : ∀ c ∈ [z, TI, TO, i1, i2], c ≠ e := fun c hc q => by
    simp only [List.mem_cons, List.not_mem_nil, or_false] at hc
    rcases hc with rfl | rfl | rfl | rfl | rfl
    · exact De.z q.symm
    · exact De.TI q.symm
    · exact De.TO q.symm
    · exact De.i1 q.symm
    · exact De.i2 q.symm
  refine ⟨_, rfl, ?_⟩
  have fin := hQ h7 (size ▸ r) ⟨v0, f, a, b, R.all fun c hc o => old c o (apart c hc), st⟩ (old _ _ (Nat.ne_of_gt ne) p1) (size ▸ up _ _ (size ▸ Nat.ne_of_gt (Nat.lt_succ_of_lt ne)) (Heap.get?_push_size _ rfl))
    (by show h7.objs.size = _; simp only [h7, U, h4, Heap.size_after_update, Heap.size_push, size]) fun c o ce cz cT c1 c2 q => old c o ce (k1 c o cz cT c1 c2 q)
  show Q (.ref h3.objs.size) ⟨h7, g, d, tk + 1, os⟩
  rw [size]
  exact fin
  all_goals (show 2 ≤ sizeLine; decide)
theorem pyNext_enumZ {x y old : Value} {Q : Option Value → Shared → Prop} (De : EnApart e z TI TO i1 i2 l1 l2) (D : ZipApart z TI TO i1 i2 l1 l2) (he : IsEnum s.heap e z i old)
    (S : ZipSt z TI TO i1 i2 l1 l2 s.heap m n) (hl1 : s.heap.IsList l1 xs) (hl2 : s.heap.IsList l2 ys) (hx : xs[m]? = some x) (hy : ys[n]? = some y)
    (hQ : ∀ h', IsEnumOut h' e z ((i : Int) + 1) (.ref s.heap.objs.size) (s.heap.objs.size + 1) → ZipSt z TI TO i1 i2 l1 l2 h' (m + 1) (n + 1) → IsPair h' s.heap.objs.size x y →
      IsPair h' (s.heap.objs.size + 1) (.int i s.toks) (.ref s.heap.objs.size) → h'.objs.size = s.heap.objs.size + 2 → (∀ c o, c ≠ e → c ≠ z → c ≠ TO → c ≠ i1 → c ≠ i2 → s.heap.get? c = some o → h'.get? c = some o) →
      Q (some (.ref (s.heap.objs.size + 1))) { s with heap := h', toks := s.toks + 1 }) : wpAny (model prog w) A (pyNext (.ref e)) Q E s := by
  have ty : s.TypeIs (.ref e) "enumerate" := ⟨_, he, rfl⟩
  unfold pyNext
  exact wpAny_bind (wpAny_attempt (wpAny_callSpecial?_slot (name := Str.ofString "__next__") ty F.slot_enumerate_next (wpAny_call_entry F.slot_enumerate_next ty F.entry_enumerate_next
    (enumZ_next De D he S hl1 hl2 hx hy fun h' o S' p q z k => wpAny_pure (hQ h' o S' p q z k)) (F.args_enumerate_next_1 _))))
theorem pyStop_enumZ {k : Int} {old : Value} {Q : Option Value → Shared → Prop} (hh : A.handled = none) (D : ZipApart z TI TO i1 i2 l1 l2) (he : IsEnum s.heap e z k old) (S : ZipSt z TI TO i1 i2 l1 l2 s.heap m n) (hl1 : s.heap.IsList l1 xs) (hl2 : s.heap.IsList l2 ys)
    (no : xs[m]? = none ∨ ys[n]? = none) (hQ : ∀ h', (∀ c o, c ≠ z → c ≠ TO → c ≠ i1 → c ≠ i2 → s.heap.get? c = some o → h'.get? c = some o) → Q none { s with heap := h' }) : wpAny (model prog w) A (pyNext (.ref e)) Q E s := by
  have ty : s.TypeIs (.ref e) "enumerate" := ⟨_, he, rfl⟩
  unfold pyNext
  refine wpAny_bind (wpAny_attempt (wpAny_callSpecial?_slot (name := Str.ofString "__next__") ty F.slot_enumerate_next (wpAny_call_entry F.slot_enumerate_next ty F.entry_enumerate_next ?_ (F.args_enumerate_next_1 _))))
  unfold Builtin.«enumerate.__next__»
  refine wpAny_bind (m := slotArgs "__next__" 0 ⟨[.ref e], []⟩) (wpAny_pure (wpAny_bind (wpAny_field he rfl (x := .ref z) rfl (wpAny_bind (overZ hh D S hl1 hl2 no fun h' x k ⟨o, ho, hc⟩ => ?_)))))
  exact wpAny_bind (wpAny_isInstance (T := "StopIteration") (b := true) ⟨o, ho, hc⟩ isSubtype_stop (wpAny_pure (hQ _ k)))
end
end L3

namespace L3
open PySem PySem.Spec L2 PyProof.Rows PySem.W
open Sem (wp)
open AutoSeq1 (wpAny_loadPart')
/-! ### enumerate(zip(a, b)) of two lists -/
def Itez (K : PySem.W.Frag) (a b : Addr) : It :=
  ⟨fun i H => ∃ (xs ys : List V) (x y : V), SqL K H a xs ∧ SqL K H b ys ∧ xs[i]? = some x ∧ ys[i]? = some y,
    fun i H v H' => ∃ T U x y, v = .ref U ∧ H T = none ∧ upd H T (.tup [x, y]) U = none ∧ H' = upd (upd H T (.tup [x, y])) U (.tup [.int (i : Nat), .ref T]) ∧ (∀ xs, SqL K H a xs → xs[i]? = some x) ∧ ∀ ys, SqL K H b ys → ys[i]? = some y,
    fun i H => ∃ xs ys : List V, SqL K H a xs ∧ SqL K H b ys ∧ (xs.length ≤ i ∨ ys.length ≤ i)⟩
theorem fpOk_upd {X : Cx} {pins : List (Addr × Obj)} {H : Hp} {c T : Addr} {o : HO} (h : FpOk X pins H c) (hne : c ≠ T) : FpOk X pins (L2.upd H T o) c := by
  obtain ⟨h1, h2⟩ := h
  exact ⟨by rw [upd_ne hne]; exact h1, h2⟩
theorem far {k i j : Nat} (h : i ≠ j) : k + i ≠ k + j := fun q => h (Nat.add_left_cancel q)
theorem ZR.stand {z TI TO i1 i2 l1 l2 : Addr} {h : Heap} {v0 v1 a b : Value} {m n : Nat} (R : ZR z TI TO i1 i2 l1 l2 h v0 v1 a b m n) : ∀ c ∈ [z, TI, TO, i1, i2], ∃ o, h.get? c = some o ∧ ∀ v, o.data ≠ .cell v
  | _, .head _ => ⟨_, R.z, nofun⟩
  | _, .tail _ (.head _) => ⟨_, R.ti, nofun⟩
  | _, .tail _ (.tail _ (.head _)) => ⟨_, R.to, nofun⟩
  | _, .tail _ (.tail _ (.tail _ (.head _))) => R.i1.imp fun _ q => ⟨q.1, fun _ z => nomatch q.2.2.symm.trans z⟩
  | _, .tail _ (.tail _ (.tail _ (.tail _ (.head _)))) => R.i2.imp fun _ q => ⟨q.1, fun _ z => nomatch q.2.2.symm.trans z⟩
theorem ZipSt.all {z TI TO i1 i2 l1 l2 : Addr} {h h' : Heap} {m n : Nat} (S : ZipSt z TI TO i1 i2 l1 l2 h m n) (k : ∀ c ∈ [z, TI, TO, i1, i2], ∀ o, h.get? c = some o → h'.get? c = some o) : ZipSt z TI TO i1 i2 l1 l2 h' m n :=
  have ⟨v0, f, a, b, R, st⟩ := S
  ⟨v0, f, a, b, R.all k, st⟩
/-- the state of enumerate(zip(a, b)) ahead of turn i -/
def EZ (e z TI TO i1 i2 a b : Addr) (i : Nat) (h : Heap) : Prop := (∃ old, IsEnum h e z (i : Int) old) ∧ ZipSt z TI TO i1 i2 a b h i i
theorem EZ.stand {e z TI TO i1 i2 a b : Addr} {i : Nat} {h : Heap} (S : EZ e z TI TO i1 i2 a b i h) : ∀ c ∈ [e, z, TI, TO, i1, i2], ∃ o, h.get? c = some o ∧ ∀ v, o.data ≠ .cell v
  | _, .head _ => S.1.elim fun _ en => ⟨_, en, nofun⟩
  | c, .tail _ hc => have ⟨_, _, _, _, R, _⟩ := S.2; R.stand c hc
theorem turn_enumZ {P : Program} {w : World} {K : PySem.W.Frag} {elts : List Expr} {kk : Nat} {tpos : Pos} {a b e z TI TO i1 i2 : Addr} (De : EnApart e z TI TO i1 i2 a b) (D : ZipApart z TI TO i1 i2 a b) :
    Turn P w K (.Tuple elts kk tpos) (Itez K a b) [e, z, TI, TO, i1, i2] e (EZ e z TI TO i1 i2 a b) where
  mem := .head _
  obj _ _ := EZ.stand
  keep _ _ _ st k := ⟨st.1.imp fun _ en => k e (.head _) _ en, st.2.all fun c hc => k c (.tail _ hc)⟩
  item X hP hw hK calm i pins s σ H E I hf st hg := by
    cases hP; cases hw; cases hK
    have lt : ∀ c ∈ [e, z, TI, TO, i1, i2], c < s.heap.objs.size := fun c hc => (st.stand c hc).elim fun _ q => Heap.lt_size q.1
    have ⟨⟨_, en⟩, Z⟩ := st
    have ⟨xs, ys, x, y, qa, qb, ax, ay⟩ := hg
    have ⟨its, ra, pa, _⟩ := I.list qa
    have ⟨jts, rb, pb, _⟩ := I.list qb
    have ⟨u, au, ru⟩ := ra.get ax
    have ⟨t, at_, rt⟩ := rb.get ay
    refine pyNext_enumZ De D en Z pa.isList pb.isList (x := u) (y := t) ((List.getElem?_toArray ..).trans au) ((List.getElem?_toArray ..).trans at_) fun h' out Z' pair laid _ kept => ⟨_, rfl, ?_⟩
    have J := I.laid (t' := s.toks) (h' := s.heap.push { cls := .type "tuple", data := .seq #[u, t] }) (o := .tup [x, y]) (fun _ _ => Heap.get?_push_of_some _) (Nat.le_refl _) ⟨by show 2 ≤ sizeLine; decide, [u, t], .cons ru (.cons rt .nil), IsTup.new _ _⟩
    have kept' : ∀ c o, c ∉ [e, z, TI, TO, i1, i2] → (s.heap.push { cls := .type "tuple", data := .seq #[u, t] }).get? c = some o → h'.get? c = some o := fun c o nc q => by
      rcases Heap.get?_push_cases q with ⟨rfl, rfl⟩ | q
      · exact pair
      · simp only [List.mem_cons, List.not_mem_nil, or_false, not_or] at nc
        exact kept c o nc.1 nc.2.1 nc.2.2.2.1 nc.2.2.2.2.1 nc.2.2.2.2.2 q
    refine wpAny_mono (pair_laid (X := X) (x := .ref s.heap.objs.size) (s := { s with heap := s.heap.push { cls := .type "tuple", data := .seq #[u, t] } }) J (Nat.le_of_eq (Heap.size_push ..)) (fun c hc => fpOk_upd (hf c hc) (Nat.ne_of_lt (lt c hc))) (.head _)
      (fun c hc => Nat.lt_succ_of_lt (lt c hc)) (show RelV (.ref s.heap.objs.size) (.ref s.heap.objs.size) from rfl) out laid kept') (fun _ r ⟨L, en', but⟩ => ?_) fun _ _ q => q
    have apart : ∀ c ∈ [z, TI, TO, i1, i2], c ≠ e
      | _, .head _ => De.z.symm
      | _, .tail _ (.head _) => De.TI.symm
      | _, .tail _ (.tail _ (.head _)) => De.TO.symm
      | _, .tail _ (.tail _ (.tail _ (.head _))) => De.i1.symm
      | _, .tail _ (.tail _ (.tail _ (.tail _ (.head _)))) => De.i2.symm
    refine ⟨.ref (s.heap.objs.size + 1), _, L, rfl, ⟨s.heap.objs.size, s.heap.objs.size + 1, x, y, rfl, I.hok.fresh (Nat.le_refl _), ?_, rfl, fun l hl => I.list_inj hl qa ▸ ax, fun l hl => I.list_inj hl qb ▸ ay⟩,
      ⟨⟨_, by rw [Int.natCast_succ]; exact en'⟩, Z'.all fun c hc o q => (but.2 c (apart c hc)).trans q⟩, fp_none (fun c hc => Nat.lt_succ_of_lt (lt c hc)) (fp_none lt fun c hc => (hf c hc).1)⟩
    exact (upd_ne (Nat.succ_ne_self _)).trans (I.hok.fresh (Nat.le_succ _))
  done X hP hw hK calm i pins s σ H E I hf st hg := by
    cases hP; cases hw; cases hK
    have ⟨⟨_, en⟩, Z⟩ := st
    have ⟨xs, ys, qa, qb, over⟩ := hg
    have ⟨its, ra, pa, _⟩ := I.list qa
    have ⟨jts, rb, pb, _⟩ := I.list qb
    have gone : its.toArray[i]? = none ∨ jts.toArray[i]? = none := over.imp (fun q => by simp [← ra.length, q]) (fun q => by simp [← rb.length, q])
    refine pyStop_enumZ (I.ok.hd calm) D en Z pa.isList pb.isList gone fun h' kept => ⟨rfl, I.turnedL (t' := s.toks) (ch := [e, z, TI, TO, i1, i2]) (fun c o nc q => ?_) hf⟩
    simp only [List.mem_cons, List.not_mem_nil, or_false, not_or] at nc
    exact kept c o nc.2.1 nc.2.2.2.1 nc.2.2.2.2.1 nc.2.2.2.2.2 q
  self _ _ _ _ _ st h := st.1.elim fun _ en => wpAny_pyIter_enum en h
def iEnumZ (K : PySem.W.Frag) (ta : TA) : TI := fun σ H R => ta σ H fun vs H1 => ∃ a b xs ys, vs = [.ref a, .ref b] ∧ SqL K H1 a xs ∧ SqL K H1 b ys ∧ R (Itez K a b) H1
theorem pi_enumZ {X : Cx} {e e2 : Expr} {ta : TA} {p pos p0 pos0 tpos : Pos} {elts : List Expr} {kk : Nat} (hg0 : Gl X "enumerate") (hm0 : X.mg "enumerate" = none) (hg : Gl X "zip") (hm : X.mg "zip" = none) (ha : PA X [e, e2] ta)
    (na : starEach [.Call (.Name "zip" p) [e, e2] [] pos] X.env = (false, eval (.Call (.Name "zip" p) [e, e2] [] pos) X.env) :: starEach [] X.env := by rfl)
    (hs : starEach [e, e2] X.env = (false, eval e X.env) :: starEach [e2] X.env := by rfl) (hpl : (backTo pos (starEach [e2] X.env)).any (·.1) = false := by rfl) :
    PI X (.Tuple elts kk tpos) (.Call (.Name "enumerate" p0) [.Call (.Name "zip" p) [e, e2] [] pos] [] pos0) (iEnumZ X.K ta) where
  run pins s σ H R I h := by
    refine Call_ (ld_blt I hg0 hm0 boot_enumerate (PyProof.Rows.callWith_type1 (args_cons (Call_ (ld_blt I hg hm PyProof.Rows.boot_zip (PyProof.Rows.callWith_type1 (thn (ha.run pos pins s σ H _ I h) fun us s1 got => ?_) hs hpl))) na) na))
    have ⟨vs, H1, J, rel, a, b, xs, ys, ex, qa, qb, q⟩ := got
    cases ex
    cases rel with | cons r1 rel => ?_
    cases rel with | cons r2 rel => ?_
    cases rel; cases r1; cases r2
    have ⟨_, _, pa, _⟩ := J.list qa
    have ⟨_, _, pb, _⟩ := J.list qb
    refine call_zip_2 pa.isList pb.isList fun h1 hz ti to k1 k2 sz kept => args_nil ?_
    refine enum_over (s := { s1 with heap := h1 }) (H := fun h => IsZip h (s1.heap.objs.size + 4) (s1.heap.objs.size + 2) (s1.heap.objs.size + 3) .none) (it := fun _ => s1.heap.objs.size + 4) (behind := fun h => h) (fun prog w A E t Q c q => wpAny_pyIter_zip c q) hz fun h2 en _ kept2 => wpAny_pyIter_enum en ?_
    have sz : h1.objs.size = s1.heap.objs.size + 5 := sz
    have en : IsEnum h2 h1.objs.size (s1.heap.objs.size + 4) 0 .none := en
    show PIE X pins σ (.Tuple elts kk tpos) R (.ref h1.objs.size) { s1 with heap := h2 }
    rw [sz] at en ⊢
    have le : ∀ c ∈ [s1.heap.objs.size + 5, s1.heap.objs.size + 4, s1.heap.objs.size + 2, s1.heap.objs.size + 3, s1.heap.objs.size, s1.heap.objs.size + 1], s1.heap.objs.size ≤ c := fun c hc => by
      simp only [List.mem_cons, List.not_mem_nil, or_false] at hc
      omega
    have De : EnApart (s1.heap.objs.size + 5) (s1.heap.objs.size + 4) (s1.heap.objs.size + 2) (s1.heap.objs.size + 3) s1.heap.objs.size (s1.heap.objs.size + 1) a b := ⟨far (by decide), far (by decide), far (by decide), far (j := 0) (by decide), far (by decide)⟩
    exact ⟨_, _, _, _, H1, rfl, J.kept (t' := s1.toks) fun c o q => kept2 c o (kept c o q), turn_enumZ De (PySem.W.ktu_apart s1.heap.objs.size a b pa.lt pb.lt),
      ⟨⟨_, en⟩, ⟨.none, false, _, _, ⟨kept2 _ _ hz, kept2 _ _ ti, kept2 _ _ to, k1.at (kept2 _), k2.at (kept2 _)⟩, .inl rfl⟩⟩, fun c hc => J.fpOk (le c hc) (J.hok.fresh (le c hc)), q⟩
end L3

set_option maxHeartbeats 1000000
namespace L3
open PySem PySem.Spec L2 PyProof.Rows HT
/-! ### enumerate(zip(a, b)) -/
section
variable {G : Gd} {F : Hp} {a b : Addr} {vs ws : List V} {ds es : List D}
theorem itok_enumZ (h : SqL G.K F a vs) (r : RpA G.K F vs ds) (h' : SqL G.K F b ws) (r' : RpA G.K F ws es) : ItOk G (Itez G.K a b) F (enumD 0 (zipD ds es)) where
  go := fun F' H' L i s hr hi => by
    rw [enumD_len, zipD_len] at hi
    have hi1 : i < vs.length := by rw [r.length]; omega
    have hi2 : i < ws.length := by rw [r'.length]; omega
    exact ⟨vs, ws, vs[i], ws[i], (s.trans hr.sub).seq h, (s.trans hr.sub).seq h', List.getElem?_eq_getElem hi1, List.getElem?_eq_getElem hi2⟩
  yld := fun F' H' L i x H'' d s hr hd hy => by
    obtain ⟨T, U, y, z, rfl, hT, hU, rfl, hx, hz⟩ := hy
    rw [enumD_get] at hd
    cases q : (zipD ds es)[i]? with
    | none => rw [q] at hd; cases hd
    | some d' =>
      rw [q] at hd
      cases hd
      obtain ⟨d1, d2, q1, q2, rfl⟩ := zipD_get _ _ _ _ q
      obtain ⟨v, h1, h2⟩ := r.get q1
      obtain ⟨v', h1', h2'⟩ := r'.get q2
      have e := hx vs ((s.trans hr.sub).seq h)
      rw [h1] at e
      cases e
      have e := hz ws ((s.trans hr.sub).seq h')
      rw [h1'] at e
      cases e
      rw [show 0 + i = i from Nat.zero_add i]
      obtain ⟨F1, s1, hr1, rp1⟩ := pair_new hr hT (h2.mono s) (h2'.mono s)
      obtain ⟨F2, s2, hr2, rp2⟩ := pair_new hr1 hU (.int (i : Nat)) rp1
      exact ⟨F2, s1.trans s2, hr2, rp2⟩
  stop := fun F' H' L i s hr hi => ⟨vs, ws, (s.trans hr.sub).seq h, (s.trans hr.sub).seq h', by rw [r.length, r'.length]; rw [enumD_len, zipD_len] at hi; omega⟩
end
section
variable {ι : Type} {G : Gd} {X : ι → Cx} {W : WX} {e tg : Expr} {es : List Expr}
def fIEnumZ (f g : Fn Bv) : Fn (List D) := fun n ρ => bnd (fFzs (fCons f (fCons g fNil)) n ρ) fun ds ρ1 => match ds with
  | [.list xs, .list ys] => some (.ok (enumD 0 (zipD xs ys)) ρ1)
  | _ => none
theorem snd_ienumZ {t u : TE} {f g : Fn Bv} (h : SndB G W t f) (h' : SndB G W u g) : SndI G W (iEnumZ G.K (tCons t (tCons u tNil))) (fIEnumZ f g) := fun n ρ r e F H σ T Q hR hP => by
  unfold fIEnumZ at e
  cases q : fFzs (fCons f (fCons g fNil)) n ρ with
  | none => rw [q] at e; cases e
  | some r1 =>
    rw [q] at e
    refine snd_fzs (snd_cons h (snd_cons h' snd_nil)) n ρ r1 q F H σ T _ hR ?_
    cases r1 with
    | ex x ρ' => cases e; exact hP
    | ok ds ρ1 =>
      rw [bnd_ok] at e
      intro F1 H1 vs s1 R1 v1
      split at e
      · cases e
        cases v1 with
        | cons a1 v1 =>
          cases v1 with
          | cons a2 v1 =>
            cases v1
            cases a1 with
            | lst h1 r1 =>
              cases a2 with
              | lst h2 r2 => exact ⟨_, _, _, _, rfl, R1.sub.seq h1, R1.sub.seq h2, hP F1 H1 _ s1 R1 (itok_enumZ h1 r1 h2 r2)⟩
      · cases e
theorem xi_enumZ {e2 : Expr} {f g : Fn Bv} {p pos p0 pos0 tpos : Pos} {elts : List Expr} {kk : Nat} (hK : ∀ i, (X i).K = G.K) (hg0 : ∀ i, Gl (X i) "enumerate") (hm0 : ∀ i, (X i).mg "enumerate" = none) (hg : ∀ i, Gl (X i) "zip") (hm : ∀ i, (X i).mg "zip" = none) (h : XB G X W e f) (h' : XB G X W e2 g)
    (na : ∀ i, starEach [.Call (.Name "zip" p) [e, e2] [] pos] (X i).env = (false, eval (.Call (.Name "zip" p) [e, e2] [] pos) (X i).env) :: starEach [] (X i).env)
    (hs : ∀ i, starEach [e, e2] (X i).env = (false, eval e (X i).env) :: starEach [e2] (X i).env) (hs2 : ∀ i, starEach [e2] (X i).env = (false, eval e2 (X i).env) :: starEach [] (X i).env) (hpl : ∀ i, (backTo pos (starEach [e2] (X i).env)).any (·.1) = false) :
    XI G X W (.Tuple elts kk tpos) (.Call (.Name "enumerate" p0) [.Call (.Name "zip" p) [e, e2] [] pos] [] pos0) (fIEnumZ f g) := by
  obtain ⟨t, h1, h2⟩ := h
  obtain ⟨t', h1', h2'⟩ := h'
  exact ⟨_, fun i => by have := pi_enumZ (elts := elts) (kk := kk) (tpos := tpos) (p := p) (p0 := p0) (pos0 := pos0) (hg0 i) (hm0 i) (hg i) (hm i) (pa_cons (h1 i) (pa_cons (h1' i) pa_nil (hs2 i)) (hs i)) (na i) (hs i) (hpl i); rw [hK i] at this; exact this, snd_ienumZ h2 h2'⟩
end
end L3

set_option maxHeartbeats 1000000
namespace L3
open PySem PySem.Spec L2
/-! ### a list comprehension with two `for` -/
def lcF2 (N : Nat) (g : FG) (i1 : Fn (List D)) (g1 : FG) (t1 : Fn Bool) (e : Fn Bv) (vs vs1 : List Nat) (n : Nat) : List D → En → List D → Option (Rz Cl)
  | [], ρ, acc => some (.ok (.lst acc) ρ)
  | d :: ds, ρ, acc => match g d ρ with
    | some ρ2 => if ρ2.length = N then (match i1 n ρ2 with
      | some (.ok ds1 ρ3) => if (decide (ρ3.length = N) && (decide (ds1.length ≤ 1000000) && decide (acc.length ≤ 1000000))) = true then (match lcF N g1 t1 e vs1 n ds1 (wipR ρ3 vs1) acc with
        | some (.ok (.lst acc') ρ4) => lcF2 N g i1 g1 t1 e vs vs1 n ds (wipR ρ4 vs) acc'
        | _ => none) else none
      | _ => none) else none
    | none => none
def fLc2 (N : Nat) (vs vs1 : List Nat) (i : Fn (List D)) (g : FG) (i1 : Fn (List D)) (g1 : FG) (t1 : Fn Bool) (e : Fn Bv) : Fn Cl := fun n ρ => bnd (i n ρ) fun ds ρ1 =>
  if ((vs.all (fun j => decide (j < N)) && vs1.all (fun j => vs.contains j)) && decide (ρ1.length = N)) = true then lcF2 N g i1 g1 t1 e vs vs1 n ds (wipR ρ1 vs) [] else none
theorem tM2 : (2000000 : Nat) < sizeLine := by rw [sizeLine_eq]; decide
section
variable {ι : Type} {G : Gd} {X : ι → Cx} {W : WX}
theorem snd_lc2 {N : Nat} {vs vs1 : List Nat} {wi wi1 : TI} {tg tg1 : TG} {tt1 : TT} {te : TE} {i i1 : Fn (List D)} {g g1 : FG} {t1 : Fn Bool} {e : Fn Bv} (hi : SndI G W wi i) (hg : SndG G (outP N vs) tg g) (hi1 : SndI G W0 wi1 i1) (hg1 : SndG G (outP N vs1) tg1 g1) (ht1 : SndT G W0 tt1 t1) (he : SndB G W0 te e) :
    SndE G W (tLc2 wi tg tYes wi1 tg1 tt1 te vs vs1) (fLc2 N vs vs1 i g i1 g1 t1 e) := fun n ρ r eq F H σ T Q hR hP => by
  unfold fLc2 at eq
  cases q : i n ρ with
  | none => rw [q] at eq; cases eq
  | some r1 =>
    rw [q] at eq
    refine hi n ρ r1 q F H σ T _ hR ?_
    cases r1 with
    | ex x ρ' => cases eq; exact hP
    | ok ds ρ1 =>
      rw [bnd_ok] at eq
      split at eq
      case isFalse => cases eq
      rename_i hh
      rw [Bool.and_eq_true, Bool.and_eq_true] at hh
      obtain ⟨⟨hn0, hsub⟩, hN⟩ := hh
      have hN := of_decide_eq_true hN
      have lt : ∀ j ∈ vs, j < N := fun j hj => of_decide_eq_true (List.all_eq_true.mp hn0 j hj)
      have sub : ∀ j ∈ vs1, j ∈ vs := fun j hj => by
        have := List.all_eq_true.mp hsub j hj
        simpa using this
      have hn : ∀ j ∈ vs, (wipR ρ1 vs)[j]? = some none := fun j hj => wipR_at ρ1 vs j hj (by have := lt j hj; omega)
      intro F1 H1 J s1 R1 ok Dn hD
      have lσ : ρ1.length = σ.length := R1.ok.len
      have Rw : G.R F1 H1 (wipR ρ1 vs) (wipe σ vs) T := R1.wip vs
      refine ⟨fun k m H' => ∃ ρ' F' acc, m = ds.length - k ∧ k ≤ ds.length ∧ Same F1 F' ∧ G.R F' H' ρ' (wipe σ vs) ((.lst acc, .ref Dn) :: T) ∧ (∀ j ∈ vs, ρ'[j]? = some none) ∧ ρ'.length = N ∧ lcF2 N g i1 g1 t1 e vs vs1 n (ds.drop k) ρ' acc = some r,
        ⟨ds.length, wipR ρ1 vs, F1, [], by simp, Nat.zero_le _, Same.refl _, Rw.newLst hD .nil, hn, by rw [wipR_len]; exact hN, by rw [List.drop_zero]; exact eq⟩, ?_⟩
      rintro k m H' ⟨ρ', F', acc, rfl, hk, s', R', hn', hN', eo⟩
      by_cases hlt : k < ds.length
      · rw [List.drop_eq_getElem_cons hlt] at eo
        unfold lcF2 at eo
        cases q1 : g ds[k] ρ' with
        | none => rw [q1] at eo; cases eo
        | some ρ2 =>
          rw [q1] at eo
          dsimp only at eo
          by_cases l2 : ρ2.length = N
          case neg => rw [if_neg l2] at eo; cases eo
          rw [if_pos l2] at eo
          refine .inr ⟨ok.go F' H' _ k s' R'.hr hlt, fun H3 => ∃ ρ3 F3 acc3, Same F1 F3 ∧ G.R F3 H3 ρ3 (wipe σ vs) ((.lst acc3, .ref Dn) :: T) ∧ (∀ j ∈ vs, ρ3[j]? = some none) ∧ ρ3.length = N ∧ lcF2 N g i1 g1 t1 e vs vs1 n (ds.drop (k + 1)) ρ3 acc3 = some r, ?_, ?_⟩
          · rintro H3 ⟨ρ3, F3, acc3, s3, R3, hn3, hN3, e3⟩
            exact ⟨ds.length - (k + 1), by omega, ρ3, F3, acc3, rfl, hlt, s3, R3, hn3, hN3, e3⟩
          · intro x H2 hy
            obtain ⟨F2, s2, hr2, rx⟩ := ok.yld F' H' _ k x H2 ds[k] s' R'.hr (List.getElem?_eq_getElem hlt) hy
            refine hg ds[k] ρ' ρ2 q1 F2 H2 (wipe σ vs) _ x _ ⟨hr2, R'.ok⟩ rx fun σ4 R4 k4 => ?_
            have l4 : σ4.length = σ.length := by
              have h1 := R4.ok.len
              have h2 := R'.ok.len
              rw [wipe_length] at h2
              omega
            have w4 : wipe σ4 vs = wipe σ vs := by
              have e1 : wipe σ4 vs = wipe (wipe σ vs) vs := wipe_eq (by rw [l4, wipe_length]) fun j hj m => by
                refine k4 j (List.mem_filter.mpr ⟨List.mem_range.mpr ?_, by simp [m]⟩)
                rw [wipe_length] at hj
                omega
              rw [e1]
              exact wipe_eq (wipe_length _ _) fun j hj m => wipe_out m
            refine ⟨w4, ?_⟩
            have s02 := s'.trans s2
            try unfold tYes
            dsimp only
            try rw [if_pos rfl]
            cases q2 : i1 n ρ2 with
            | none => rw [q2] at eo; cases eo
            | some o2 =>
              rw [q2] at eo
              refine hi1 n ρ2 o2 q2 F2 H2 σ4 _ _ R4 ?_
              cases o2 with
              | ex x ρ3 => cases eo
              | ok ds1 ρ3 =>
                intro F3 H3 J1 s3 R3 ok1
                dsimp only at eo
                split at eo
                case isFalse => cases eo
                rename_i hc
                rw [Bool.and_eq_true, Bool.and_eq_true] at hc
                have l3 := of_decide_eq_true hc.1
                have z1 := of_decide_eq_true hc.2.1
                have za := of_decide_eq_true hc.2.2
                cases q3 : lcF N g1 t1 e vs1 n ds1 (wipR ρ3 vs1) acc with
                | none => rw [q3] at eo; cases eo
                | some o3 =>
                  rw [q3] at eo
                  cases o3 with
                  | ex x ρ4 => cases eo
                  | ok c ρ4 =>
                    cases c with
                    | fz _ => cases eo
                    | dct _ => cases eo
                    | dtt _ => cases eo
                    | dlk _ => cases eo
                    | dlt _ => cases eo
                    | bx _ _ => cases eo
                    | ins _ _ => cases eo
                    | exn _ _ => cases eo
                    | nst _ _ => cases eo
                    | lst acc' =>
                      dsimp only at eo
                      have l43 : ρ3.length = σ4.length := R3.ok.len
                      refine ⟨fun j kk H5 => ∃ ρ5 F5 acc5, kk = ds1.length - j ∧ j ≤ ds1.length ∧ acc5.length ≤ acc.length + j ∧ Same F3 F5 ∧ G.R F5 H5 ρ5 (wipe σ4 vs1) ((.lst acc5, .ref Dn) :: T) ∧ (∀ j ∈ vs1, ρ5[j]? = some none) ∧ ρ5.length = N ∧ lcF N g1 t1 e vs1 n (ds1.drop j) ρ5 acc5 = some (.ok (.lst acc') ρ4),
                        ⟨ds1.length, wipR ρ3 vs1, F3, acc, by simp, Nat.zero_le _, Nat.le_refl _, Same.refl _, R3.wip vs1, fun j hj => wipR_at ρ3 vs1 j hj (by have := lt j (sub j hj); omega), by rw [wipR_len]; exact l3, by rw [List.drop_zero]; exact q3⟩, ?_⟩
                      rintro j kk H5 ⟨ρ5, F5, acc5, rfl, hj, ha5, s5, R5, hn5, hN5, e5⟩
                      by_cases hlt1 : j < ds1.length
                      · rw [List.drop_eq_getElem_cons hlt1] at e5
                        unfold lcF at e5
                        cases p1 : g1 ds1[j] ρ5 with
                        | none => rw [p1] at e5; cases e5
                        | some ρ6 =>
                          rw [p1] at e5
                          dsimp only at e5
                          by_cases l6 : ρ6.length = N
                          case neg => rw [if_neg l6] at e5; cases e5
                          rw [if_pos l6] at e5
                          refine .inr ⟨ok1.go F5 H5 _ j s5 R5.hr hlt1, fun H7 => ∃ ρ7 F7 acc7, acc7.length ≤ acc.length + (j + 1) ∧ Same F3 F7 ∧ G.R F7 H7 ρ7 (wipe σ4 vs1) ((.lst acc7, .ref Dn) :: T) ∧ (∀ j ∈ vs1, ρ7[j]? = some none) ∧ ρ7.length = N ∧ lcF N g1 t1 e vs1 n (ds1.drop (j + 1)) ρ7 acc7 = some (.ok (.lst acc') ρ4), ?_, ?_⟩
                          · rintro H7 ⟨ρ7, F7, acc7, a7, s7, R7, hn7, hN7, e7⟩
                            exact ⟨ds1.length - (j + 1), by omega, ρ7, F7, acc7, rfl, hlt1, a7, s7, R7, hn7, hN7, e7⟩
                          · intro x1 H6 hy1
                            obtain ⟨F6, s6, hr6, rx6⟩ := ok1.yld F5 H5 _ j x1 H6 ds1[j] s5 R5.hr (List.getElem?_eq_getElem hlt1) hy1
                            refine hg1 ds1[j] ρ5 ρ6 p1 F6 H6 (wipe σ4 vs1) _ x1 _ ⟨hr6, R5.ok⟩ rx6 fun σ6 R6 k6 => ?_
                            have l6' : σ6.length = σ4.length := by
                              have h1 := R6.ok.len
                              have h2 := R5.ok.len
                              rw [wipe_length] at h2
                              omega
                            have w6 : wipe σ6 vs1 = wipe σ4 vs1 := by
                              have e1 : wipe σ6 vs1 = wipe (wipe σ4 vs1) vs1 := wipe_eq (by rw [l6', wipe_length]) fun j hj m => by
                                refine k6 j (List.mem_filter.mpr ⟨List.mem_range.mpr ?_, by simp [m]⟩)
                                rw [wipe_length] at hj
                                omega
                              rw [e1]
                              exact wipe_eq (wipe_length _ _) fun j hj m => wipe_out m
                            refine ⟨w6, ?_⟩
                            cases p2 : t1 n ρ6 with
                            | none => rw [p2] at e5; cases e5
                            | some o5 =>
                              rw [p2] at e5
                              refine ht1 n ρ6 o5 p2 F6 H6 σ6 _ _ R6 ?_
                              cases o5 with
                              | ex x ρ7 => cases e5
                              | ok bb ρ7 =>
                                intro F7 H7 s7 R7
                                have l7 := R7.ok.len
                                have ln7 : ρ7.length = N := by have := R6.ok.len; omega
                                cases bb with
                                | false =>
                                  rw [if_neg Bool.false_ne_true]
                                  dsimp only at e5
                                  have Rn := R7.wip vs1
                                  rw [w6] at Rn
                                  exact ⟨wipR ρ7 vs1, F7, acc5, by omega, (s5.trans s6).trans s7, Rn, fun j hj => wipR_at ρ7 vs1 j hj (by have := lt j (sub j hj); omega), by rw [wipR_len]; exact ln7, e5⟩
                                | true =>
                                  rw [if_pos rfl]
                                  dsimp only at e5
                                  cases p3 : fFz e n ρ7 with
                                  | none => rw [p3] at e5; cases e5
                                  | some o6 =>
                                    rw [p3] at e5
                                    refine snd_fz he n ρ7 o6 p3 F7 H7 σ6 _ _ R7 ?_
                                    cases o6 with
                                    | ex x ρ8 => cases e5
                                    | ok c ρ8 =>
                                      intro F8 H8 y s8 R8'
                                      cases c with
                                      | fz dy =>
                                        dsimp only at e5
                                        have ry := R8'.rp
                                        have R8 := R8'.tail
                                        obtain ⟨A, cr⟩ := R8.cr
                                        cases cr with
                                        | lst h1 h2 r2 =>
                                          refine ⟨_, h1, ?_, ?_⟩
                                          · rw [r2.length]
                                            exact Nat.lt_of_le_of_lt (by omega) tM2
                                          · have R9 : G.R F8 (upd H8 Dn (.lst (_ ++ [y]))) ρ8 σ6 ((.lst (acc5 ++ [dy]), .ref Dn) :: T) :=
                                              .mk' (R8.hr'.mut (fun A h => by cases h; rfl) (.lst upd_same h2 (r2.append (.cons ry .nil)))) R8.ok
                                            have Rn := R9.wip vs1
                                            rw [w6] at Rn
                                            have l9 := R9.ok.len
                                            refine ⟨wipR ρ8 vs1, F8, acc5 ++ [dy], ?_, ((s5.trans s6).trans s7).trans s8, Rn, fun j hj => wipR_at ρ8 vs1 j hj ?_, ?_, e5⟩
                                            · rw [List.length_append, List.length_singleton]; omega
                                            · have := lt j (sub j hj)
                                              omega
                                            · rw [wipR_len]
                                              omega
                                      | lst _ => cases e5
                                      | dct _ => cases e5
                                      | dtt _ => cases e5
                                      | dlk _ => cases e5
                                      | dlt _ => cases e5
                                      | bx _ _ => cases e5
                                      | ins _ _ => cases e5
                                      | exn _ _ => cases e5
                                      | nst _ _ => cases e5
                      · have ej : j = ds1.length := by omega
                        subst ej
                        rw [List.drop_length] at e5
                        cases e5
                        have Rn := R5.wip vs
                        have ww : wipe (wipe σ4 vs1) vs = wipe σ vs := by
                          rw [← w4]
                          exact wipe_eq (wipe_length _ _) fun j hj m => wipe_out fun z => m (sub j z)
                        rw [ww] at Rn
                        refine .inl ⟨ok1.stop F5 H5 _ _ s5 R5.hr (Nat.le_refl _), wipR ρ4 vs, F5, acc', (s02.trans s3).trans s5, Rn, fun j hj => wipR_at ρ4 vs j hj (by have := lt j hj; omega), by rw [wipR_len]; exact hN5, eo⟩
      · have ek : k = ds.length := by omega
        subst ek
        rw [List.drop_length] at eo
        cases eo
        refine .inl ⟨ok.stop F' H' _ _ s' R'.hr (Nat.le_refl _), hP F' H' _ (s1.trans s') (R'.agree (wipe_length _ _).symm fun j c hc => (wipe_out fun m => by rw [hn' j m] at hc; cases hc).symm)⟩
end
section
variable {ι : Type} {G : Gd} {X : ι → Cx} {W : WX}
theorem xe_lc2 {elt tg iter tg1 iter1 : Expr} {scope : Scope} {own : List (Str × Nat)} {vs1 : List Nat} {pos : Pos} {N : Nat} {i i1 : Fn (List D)} {g g1 : FG} {e : Fn Bv} (hc : ∀ j, (X j).calm = true) (hN : ∀ j, (X j).N.Nodup) (hi : XI G X W tg iter i) (ok : ∀ j, BlkOk (X j).N (X j).env.scope scope own)
    (hv : ∀ j ∈ vs1, j ∈ own.map (·.2)) (hg : XG G (blkX X scope) (outP N (own.map (·.2))) tg g) (hi1 : XI G (blkX X scope) W0 tg1 iter1 i1) (hg1 : XG G (blkX X scope) (outP N vs1) tg1 g1) (he : XB G (blkX X scope) W0 elt e)
    (hs : ∀ j, ∀ x, foldedSetIterable iter (X j).env x = pure x) (hs1 : ∀ env x, foldedSetIterable iter1 env x = pure x) :
    XE G X W (.ListComp elt [⟨tg, iter, [], 0⟩, ⟨tg1, iter1, [], 0⟩] scope pos) (fLc2 N (own.map (·.2)) vs1 i g i1 g1 fYes e) := by
  obtain ⟨wi, a1, a2⟩ := hi
  obtain ⟨tg', b1, b2⟩ := hg
  obtain ⟨te, c1, c2⟩ := he
  obtain ⟨wi1, d1, d2⟩ := hi1
  obtain ⟨tg1', f1, f2⟩ := hg1
  exact ⟨_, fun j => pe_lc2 (hc j) (hN j) (a1 j) (ok j) hv (fun s H C cl fp => b1 (j, ⟨s, H, C, cl, fp⟩)) (fun _ _ _ _ _ => pts_nil) (fun s H C cl fp => d1 (j, ⟨s, H, C, cl, fp⟩)) (fun s H C cl fp => f1 (j, ⟨s, H, C, cl, fp⟩)) (fun _ _ _ _ _ => pts_nil)
    (fun s H C cl fp => c1 (j, ⟨s, H, C, cl, fp⟩)) (hs j) hs1, snd_lc2 a2 b2 d2 f2 (fun n ρ r e F H σ T Q hR hP => by
      cases e
      exact hP F H (Same.refl _) hR) c2⟩
/-- .. with a test at the inner one, its list stored -/
theorem xs_setLc2t {P : List Nat} {k : Nat} {y : Str} {py : Pos} {elt tg iter tg1 iter1 tst : Expr} {scope : Scope} {own : List (Str × Nat)} {vs1 : List Nat} {pos spos : Pos} {N : Nat} {i i1 : Fn (List D)} {g g1 : FG} {t1 : Fn Bool} {e : Fn Bv} (hk : k ∉ P) (hc : ∀ j, (X j).calm = true) (hN : ∀ j, (X j).N.Nodup) (hy : ∀ j, (X j).N[k]? = some y) (hyl : ∀ j, (X j).env.scope.names.lookup y = some .local)
    (hsw : ∀ j, swapsWith (.ListComp elt [⟨tg, iter, [], 0⟩, ⟨tg1, iter1, [tst], 0⟩] scope pos) (some (.Name y py)) spos.line (X j).env = pure true) (hi : XI G X W tg iter i) (ok : ∀ j, BlkOk (X j).N (X j).env.scope scope own)
    (hv : ∀ j ∈ vs1, j ∈ own.map (·.2)) (hg : XG G (blkX X scope) (outP N (own.map (·.2))) tg g) (hi1 : XI G (blkX X scope) W0 tg1 iter1 i1) (hg1 : XG G (blkX X scope) (outP N vs1) tg1 g1) (ht1 : XT G (blkX X scope) W0 tst t1) (he : XB G (blkX X scope) W0 elt e)
    (hs : ∀ j, ∀ x, foldedSetIterable iter (X j).env x = pure x) (hs1 : ∀ env x, foldedSetIterable iter1 env x = pure x) :
    XS G X W P (.Assign [.Name y py] (.ListComp elt [⟨tg, iter, [], 0⟩, ⟨tg1, iter1, [tst], 0⟩] scope pos) spos) (sSet k (fLc2 N (own.map (·.2)) vs1 i g i1 g1 t1 e)) := by
  obtain ⟨wi, a1, a2⟩ := hi
  obtain ⟨tg', b1, b2⟩ := hg
  obtain ⟨te, c1, c2⟩ := he
  obtain ⟨wi1, d1, d2⟩ := hi1
  obtain ⟨tg1', f1, f2⟩ := hg1
  obtain ⟨tt1, q1, q2⟩ := ht1
  exact ⟨_, fun j => ps_setLc2 (hc j) (hN j) (hy j) (hyl j) (hsw j) (a1 j) (ok j) hv (fun s H C cl fp => b1 (j, ⟨s, H, C, cl, fp⟩)) (fun _ _ _ _ _ => pts_nil) (fun s H C cl fp => d1 (j, ⟨s, H, C, cl, fp⟩)) (fun s H C cl fp => f1 (j, ⟨s, H, C, cl, fp⟩)) (fun s H C cl fp => pts_one (q1 (j, ⟨s, H, C, cl, fp⟩)))
    (fun s H C cl fp => c1 (j, ⟨s, H, C, cl, fp⟩)) (hs j) hs1, snd_set hk (snd_lc2 a2 b2 d2 f2 q2 c2)⟩
end
end L3

set_option maxHeartbeats 1000000
namespace L2
open PySem PySem.Spec PyProof.Rows
/-- the keys of a dict with tuple keys: it is locked from here on -/
def iKeysLT (td : TE) : TI := fun σ H R => td σ H fun x H1 => ∃ d kvs, x = .ref d ∧ ((∃ o, H1 d = some (.frz o (.dT kvs)) ∧ R (Itkt d o kvs) H1) ∨ (H1 d = some (.dT kvs) ∧ ∀ o, R (Itkt d o kvs) (upd H1 d (.frz o (.dT kvs)))))
theorem pi_keysLT {X : Cx} {tg e : Expr} {td : TE} (he : PE X e td) : PI X tg e (iKeysLT td) where
  run pins s σ H R I h := thn (he.run pins s σ H _ I h) fun u s1 got => by
    have ⟨x, H1, J, rel, d, kvs, ex, q⟩ := got
    cases ex
    cases rel
    have go : ∀ {o : Obj} {H2 : Hp}, Inv X pins σ H2 s1 → H2 d = some (.frz o (.dT kvs)) → R (Itkt d o kvs) H2 → wpAny (model X.prog X.w) X.A (pyIter (.ref d)) (PIE X pins σ tg R) X.xe s1 := fun L at_ r => by
      have ⟨hs, gd, hx, _, _, dt, sz, _⟩ := L.frzT at_
      exact iter_keys hs gd hx dt (pi_one (tk := s1.toks) L _ (turn_keysT _ dt) ⟨_, Heap.get?_push_size _ rfl, rfl, by rw [sz] <;> rfl⟩ r)
    rcases q with ⟨_, at_, r⟩ | ⟨at_, r⟩
    · exact go J at_ r
    · have ⟨o, L⟩ := J.lock at_ trivial
      exact go L upd_same (r o)
end L2
namespace L3
open PySem PySem.Spec L2 PyProof.Rows
/-! ### dicts whose keys are tuples of ints -/
def kT (p : List Int) : List Key := p.map Sum.inl
theorem kT_kV (p : List Int) : (kT p).map kV = p.map V.int := by
  unfold kT
  rw [List.map_map]
  rfl
/-- the module holds no tuple that begins with an int -/
def NoT (K : PySem.W.Frag) : Prop := ∀ a o its n, K.lookup a = some o → o.cls = .type "tuple" → o.data = .seq its n → ∀ i t r, its.toList ≠ .int i t :: r
def tupB (o : Obj) : Bool := match o.cls, o.data with
  | .type _, .seq its _ => (match its.toList with
    | .int _ _ :: _ => false
    | _ => true)
  | _, _ => true
def noTB (K : PySem.W.Frag) : Bool := K.all fun p => tupB p.2
theorem frag_mem {a : Addr} {o : Obj} : ∀ {K : PySem.W.Frag}, K.lookup a = some o → (a, o) ∈ K
  | [], e => by cases e
  | (b, u) :: K, e => by
    rw [List.lookup_cons] at e
    split at e
    · rename_i q
      cases e
      rw [eq_of_beq q]
      exact List.mem_cons_self
    · exact List.mem_cons_of_mem _ (frag_mem e)
theorem noT_of {K : PySem.W.Frag} (h : noTB K = true) : NoT K := by
  intro a o its n e z d i t r q
  have := List.all_eq_true.mp h (a, o) (frag_mem e)
  unfold tupB at this
  dsimp only at this
  rw [z, d] at this
  dsimp only at this
  rw [q] at this
  cases this
theorem sqU_tup {K : PySem.W.Frag} {F : Hp} {a : Addr} {x : Int} {xs : List V} (hK : NoT K) (h : SqU K F a (.int x :: xs)) : F a = some (.tup (.int x :: xs)) := by
  rcases h with h | (h | ⟨_, h⟩) | ⟨o, its, n, h1, h2, h3, h4, h5⟩
  · exact h
  · cases h
  · cases h
  · exfalso
    cases q : its.toList with
    | nil => rw [q] at h5; cases h5
    | cons u us =>
      rw [q] at h5
      cases h5 with
      | cons r _ =>
        obtain ⟨t, rfl⟩ := r
        exact hK a o its n h1 h2 h3 x t us q
def keyTD : D → Option (List Int)
  | .tuple ds => match intsD ds with
    | some (x :: p) => some (x :: p)
    | _ => none
  | _ => none
theorem keyTD_rp {K : PySem.W.Frag} {F : Hp} {v : V} {d : D} {p : List Int} (hK : NoT K) (h : Rp K F v d) (e : keyTD d = some p) : ∃ b, v = .ref b ∧ F b = some (.tup ((kT p).map kV)) := by
  unfold keyTD at e
  split at e
  · rename_i ds
    split at e
    · rename_i x p' q
      cases e
      cases h with
      | tup h r =>
        have ed := intsD_ok q
        subst ed
        have ew := r.ints
        subst ew
        exact ⟨_, rfl, by rw [kT_kV]; exact sqU_tup hK h⟩
    · cases e
  · cases e
def getTT (es : List (List Key × D)) (k : List Key) : Option D := (es.find? fun p => decide (p.1 = k)).map (·.2)
theorem getTT_rp {K : PySem.W.Frag} {F : Hp} (k : List Key) : ∀ {kvs : List (List Key × V)} {es : List (List Key × D)}, RpKs K F kvs es → (getTT es k = none ∧ valV kvs k = none) ∨ ∃ v d, getTT es k = some d ∧ valV kvs k = some v ∧ Rp K F v d
  | _, _, .nil => .inl ⟨rfl, rfl⟩
  | _, _, .cons (k := k') (v := v) (d := d) h r => by
    by_cases e : k' = k
    · refine .inr ⟨v, d, ?_, valV_pos e, h⟩
      simp [getTT, List.find?_cons, e]
    · have e1 : ∀ es, getTT ((k', d) :: es) k = getTT es k := fun es => by simp [getTT, List.find?_cons, e]
      rw [e1, valV_neg (p := (k', v)) e]
      exact getTT_rp k r
def dttE : Cl → Option (List (List Key × D))
  | .dtt es => some es
  | .dlt es => some es
  | _ => none
section
variable {ι : Type} {G : Gd} {X : ι → Cx} {W : WX} {P : List Nat} {e ie tg : Expr} {pos : Pos}
def fDctT0 : Fn Cl := fun _ ρ => some (.ok (.dtt []) ρ)
theorem xe_dctT0 : XE G X W (.Dict [] [] pos) fDctT0 := ⟨_, fun _ => pe_dnewT, fun n ρ r e F H σ T Q hR hP => by
  cases e
  intro p hp
  exact hP F _ _ (Same.refl _) (.mk' (hR.hr.newO hp (.dtt upd_same (by
    cases q : F p with
    | none => rfl
    | some o => rw [hR.sub _ _ q] at hp; cases hp) .nil)) hR.ok)⟩
theorem dttE_cr {F H : Hp} {c : Cl} {v : V} {A : List Addr} {es : List (List Key × D)} (h : G.CR F H c v A) (s : Same F H) (e : dttE c = some es) : ∃ a kvs, v = .ref a ∧ Rd H a (.dT kvs) ∧ RpKs G.K F kvs es := by
  cases h with
  | dtt h1 h2 r => cases e; exact ⟨_, _, rfl, .inl h1, r⟩
  | dlt h1 r => cases e; exact ⟨_, _, rfl, .inr ⟨_, s _ _ h1⟩, r⟩
  | _ => cases e
/-- d[k] -/
def gIxT : List Cl → Option Cl
  | [c, .fz kd] => match dttE c, keyTD kd with
    | some es, some p => (getTT es (kT p)).map .fz
    | _, _ => none
  | _ => none
theorem prm_ixT (hK : NoT G.K) : Prm G (l2 rIxK) gIxT := fun F H L cs vs c Q hr hc e hQ => by
  unfold gIxT at e
  split at e
  · obtain ⟨v1, v2, A1, A2, rfl, h1, h2⟩ := crs2 hc
    split at e
    · rename_i es p q1 q2
      obtain ⟨a, kvs, rfl, hd, r⟩ := dttE_cr h1 hr.sub q1
      obtain ⟨b, rfl, hb⟩ := keyTD_rp hK (h2.rpF rfl) q2
      rcases getTT_rp (kT p) r with ⟨z, _⟩ | ⟨v, d, g1, g2, rd⟩
      · rw [z] at e; cases e
      · rw [g1] at e
        cases e
        exact ⟨a, v, rfl, .inr ⟨kvs, kT p, b, hd, rfl, hr.sub _ _ hb, g2.symm⟩, hQ F H _ (Same.refl _) (hr.push rd)⟩
    · cases e
  · cases e
theorem xe_ixT {a b : Expr} {fa fb : Fn Bv} (hK : NoT G.K) (hu : ∀ j, (X j).A.units + 1 < cLine) (ha : XB G X W a fa) (hb : XB G X W b fb) (hs : NoSl b) : XE G X W (.Subscript a b pos) (f2 fa fb gIxT) := by
  obtain ⟨ta, h1, h2⟩ := ha
  obtain ⟨tb, h3, h4⟩ := hb
  exact ⟨_, fun i => pe_dget (hu i) (h1 i) (h3 i) hs, snd_prm (r := l2 rIxK) (snd_cons h2 (snd_cons h4 snd_nil)) (prm_ixT hK)⟩
/-- k not in d -/
def gNinT : List Cl → Option Cl
  | [.fz kd, c] => match dttE c, keyTD kd with
    | some es, some p => some (.fz (.bool (!(getTT es (kT p)).isSome)))
    | _, _ => none
  | _ => none
def rNinT : R2 := fun y x H Q => ∃ a o, x = .ref a ∧ DGet H a y o ∧ Q (.bl (!o.isSome)) H
theorem prm_ninT (hK : NoT G.K) : Prm G (l2 rNinT) gNinT := fun F H L cs vs c Q hr hc e hQ => by
  unfold gNinT at e
  split at e
  · obtain ⟨v1, v2, A1, A2, rfl, h1, h2⟩ := crs2 hc
    split at e
    · rename_i es p q1 q2
      cases e
      obtain ⟨a, kvs, rfl, hd, r⟩ := dttE_cr h2 hr.sub q1
      obtain ⟨b, rfl, hb⟩ := keyTD_rp hK (h1.rpF rfl) q2
      rcases getTT_rp (kT p) r with ⟨g1, g2⟩ | ⟨v, d, g1, g2, rd⟩
      · rw [g1] at hQ
        exact ⟨a, none, rfl, .inr ⟨kvs, kT p, b, hd, rfl, hr.sub _ _ hb, g2.symm⟩, hQ F H _ (Same.refl _) (hr.push (.bl true))⟩
      · rw [g1] at hQ
        exact ⟨a, some v, rfl, .inr ⟨kvs, kT p, b, hd, rfl, hr.sub _ _ hb, g2.symm⟩, hQ F H _ (Same.refl _) (hr.push (.bl false))⟩
    · cases e
  · cases e
theorem xe_ninT {a b : Expr} {fa fb : Fn Bv} (hK : NoT G.K) (hu : ∀ j, (X j).A.units + 1 < cLine) (ha : XB G X W a fa) (hb : XB G X W b fb) (hm : behindInMarks .NotIn b = false) : XE G X W (.Compare a [.NotIn] [b] pos) (f2 fa fb gNinT) := by
  obtain ⟨ta, h1, h2⟩ := ha
  obtain ⟨tb, h3, h4⟩ := hb
  exact ⟨_, fun i => pe_cmp (pc_dnotin (hu i) (h1 i) (h3 i)) hm, snd_prm (r := l2 rNinT) (snd_cons h2 (snd_cons h4 snd_nil)) (prm_ninT hK)⟩
theorem xt_ninT {a b : Expr} {fa fb : Fn Bv} (hK : NoT G.K) (hu : ∀ j, (X j).A.units + 1 < cLine) (ha : XB G X W a fa) (hb : XB G X W b fb) (hm : behindInMarks .NotIn b = false) : XT G X W (.Compare a [.NotIn] [b] pos) (fTst (f2 fa fb gNinT)) := by
  obtain ⟨ta, h1, h2⟩ := ha
  obtain ⟨tb, h3, h4⟩ := hb
  exact ⟨_, fun i => pt_cmp (pc_dnotin (hu i) (h1 i) (h3 i)) hm, snd_tB (snd_prm (r := l2 rNinT) (snd_cons h2 (snd_cons h4 snd_nil)) (prm_ninT hK))⟩
/-- d[k] = e -/
def setIxT (ρ : En) (k : Nat) (j d : D) : Option En := match (ρ[k]?).join with
  | some (.dtt es) => match keyTD j with
    | some p => if Nat.ble es.length 1000000 = true then some (ρ.set k (some (.dtt (putD es (kT p) d)))) else none
    | none => none
  | _ => none
theorem setIxT_ok {F H : Hp} {ρ ρ' : En} {σ : L2.St} {T : List (Cl × V)} {k : Nat} {j d : D} {vj vd o : V} (hK : NoT G.K) (e : setIxT ρ k j d = some ρ') (hR : G.R F H ρ σ T) (rj : Rp G.K F vj j) (rd : Rp G.K F vd d) (ho : σ[k]? = some (some o)) {Q : Hp → Prop} (hQ : ∀ H', G.R F H' ρ' σ T → Q H') : rSetD o vj vd H Q := by
  unfold setIxT at e
  split at e
  · rename_i es q
    split at e
    · rename_i p qk
      split at e
      · rename_i hl
        cases e
        have hl := Nat.le_of_ble_eq_true hl
        obtain ⟨w, h1, R'⟩ := R.take hR (join_some q)
        rw [ho] at h1
        cases h1
        obtain ⟨b, rfl, hb⟩ := keyTD_rp hK rj qk
        obtain ⟨A, cr⟩ := R'.cr
        cases cr with
        | @dtt a kvs _ h1 h2 r =>
          refine ⟨_, _, rfl, DPut.t h1 (hR.sub _ _ hb) (by rw [r.len, sizeLine_eq]; omega), hQ _ ?_⟩
          have R2 : G.R F (upd H a (.dT (putK kvs (kT p) vd))) (ρ.set k none) σ ((.dtt (putD es (kT p) d), .ref a) :: T) :=
            .mk' (R'.hr'.mut (fun A h => by cases h; rfl) (.dtt upd_same h2 (putD_rp r (kT p) rd))) R'.ok
          have hk : k < ρ.length := (List.getElem?_eq_some_iff.mp (join_some q)).1
          have R3 := R.put R2 (c := .dtt (putD es (kT p) d)) (i := k) (by rw [List.getElem?_set_self hk]) ho
          rw [List.set_set] at R3
          exact R3
      · cases e
    · cases e
  · cases e
def sSetIxT (k : Nat) (fe fi : Fn Bv) : FS := fun n ρ => bS (fFz fe n ρ) fun c ρ1 => match c with
  | .fz d => if ((ρ1[k]?).join).isSome = true then bS (fFz fi n ρ1) fun c2 ρ2 => match c2 with
    | .fz j => match setIxT ρ2 k j d with
      | some ρ3 => some (.nx ρ3)
      | none => none
    | _ => none
  else none
  | _ => none
theorem xs_setIxT {k : Nat} {x : Str} {px ps : Pos} {fe fi : Fn Bv} (hK : NoT G.K) (hu : ∀ j, (X j).A.units + 1 < cLine) (hx : ∀ j, PE (X j) (.Name x px) (tVar k)) (hi : XB G X W ie fi) (he : XB G X W e fe)
    (hs : ∀ j, swapsWithSole [.Subscript (.Name x px) ie ps] e pos.line (X j).env = pure false) (hw : ∀ j, swappedStores [.Subscript (.Name x px) ie ps] e (X j).env = pure none) (h1 : ∀ j, (assignEach [.Subscript (.Name x px) ie ps] (X j).env).map (·.2) = [assign (.Subscript (.Name x px) ie ps) (X j).env])
    (ha : ∀ j v, assign (.Subscript (.Name x px) ie ps) (X j).env v = (do
      let ov ← holding [v] (eval (.Name x px) (X j).env)
      let iv ← holding [v, ov] (eval ie (X j).env)
      standAt ps
      holding [v, ov, iv] (setItem ov iv v)
      release [v, ov, iv] [])) : XS G X W P (.Assign [.Subscript (.Name x px) ie ps] e pos) (sSetIxT k fe fi) := by
  obtain ⟨ti, a1, a2⟩ := hi
  obtain ⟨te, b1, b2⟩ := he
  refine ⟨_, fun j => ps_asg (b1 j) (pg_sub (hx j) (a1 j) (set_dict (hu j)) (ha j)) (hs j) (hw j) (h1 j), fun n ρ o eq F H σ T D hR hP => ?_⟩
  unfold sSetIxT at eq
  cases q : fFz fe n ρ with
  | none => rw [q] at eq; cases eq
  | some r1 =>
    rw [q] at eq
    refine snd_fz b2 n ρ r1 q F H σ T _ hR ?_
    cases r1 with
    | ex x ρ' => cases eq; exact hP.px
    | ok c ρ1 =>
      rw [bS_ok] at eq
      intro F1 H1 v s1 R1
      cases c with
      | fz d =>
        dsimp only at eq
        split at eq
        · rename_i hk
          obtain ⟨ov, ho⟩ := slot_of R1 hk
          refine ⟨ov, ho, ?_⟩
          cases q2 : fFz fi n ρ1 with
          | none => rw [q2] at eq; cases eq
          | some r2 =>
            rw [q2] at eq
            refine snd_fz a2 n ρ1 r2 q2 F1 H1 σ _ _ R1 ?_
            cases r2 with
            | ex x ρ' =>
              cases eq
              exact fun F' H' cls d s r xr => hP F' H' σ cls d (s1.trans s) r.tail (Kp.refl _) xr
            | ok c2 ρ2 =>
              rw [bS_ok] at eq
              intro F2 H2 v2 s2 R2
              cases c2 with
              | fz dj =>
                dsimp only at eq
                cases q3 : setIxT ρ2 k dj d with
                | none => rw [q3] at eq; cases eq
                | some ρ3 =>
                  rw [q3] at eq
                  cases eq
                  refine setIxT_ok hK q3 R2.tail.tail R2.rp R2.tail.rp ho fun H' R' => hP F2 H' σ (s1.trans s2) R' (Kp.refl _)
              | _ => cases eq
        · cases eq
      | _ => cases eq
end
/-! ### for k in d -/
theorem CR.nt {K : PySem.W.Frag} {cl : Str → Addr → Prop} {F H : Hp} {c : Cl} {v : V} {A : List Addr} (h : CR K cl F H c v A) : ∀ a ∈ A, ∀ xs, H a ≠ some (.tup xs) := by
  intro a ha xs z
  cases h with
  | fz r => cases ha
  | lst h1 h2 r => rw [List.mem_singleton.mp ha, h1] at z; cases z
  | dct h1 h2 r => rw [List.mem_singleton.mp ha, h1] at z; cases z
  | dtt h1 h2 r => rw [List.mem_singleton.mp ha, h1] at z; cases z
  | dlk h1 r => cases ha
  | dlt h1 r => cases ha
  | bx h1 h2 r h3 h4 rk =>
    rcases List.mem_cons.mp ha with y | y
    · rw [y, h1] at z; cases z
    · rw [List.mem_singleton.mp y, h3] at z; cases z
  | ins hc h1 h2 h3 r => rw [List.mem_singleton.mp ha, h1] at z; cases z
  | exn _ _ _ => cases ha
  | lls h1 _ q =>
    rcases List.mem_cons.mp ha with y | y
    · rw [y, h1] at z; cases z
    · have ⟨_, e⟩ := q.lst a y; rw [e] at z; cases z
  | nst h1 _ h3 _ q _ =>
    rcases List.mem_cons.mp ha with y | y
    · rw [y, h1] at z; cases z
    · rcases List.mem_cons.mp y with y | y
      · rw [y, h3] at z; cases z
      · have ⟨_, e⟩ := q.lst a y; rw [e] at z; cases z
theorem HL.nt {K : PySem.W.Frag} {cl : Str → Addr → Prop} {F H : Hp} : ∀ {L : List (Cl × V)} {A : List Addr}, HL K cl F H L A → ∀ a ∈ A, ∀ xs, H a ≠ some (.tup xs)
  | _, _, .nil, _, h => by cases h
  | _, _, .cons h r, a, ha => (List.mem_append.mp ha).elim (h.nt a) (r.nt a)
/-- a tuple that is seen is frozen -/
theorem HR.adopt {K : PySem.W.Frag} {cl : Str → Addr → Prop} {F H : Hp} {L : List (Cl × V)} {q : Addr} {xs : List V} (h : HR K cl F H L) (e : H q = some (.tup xs)) : ∃ F', Same F F' ∧ F' q = some (.tup xs) ∧ HR K cl F' H L := by
  cases f : F q with
  | some u =>
    have := h.sub _ _ f
    rw [e] at this
    cases this
    exact ⟨F, Same.refl _, f, h⟩
  | none =>
    obtain ⟨s, A, n, r⟩ := h
    have sm : Same F (upd F q (.tup xs)) := fun b u z => by rw [upd_ne (ne_of_none z f)]; exact z
    refine ⟨upd F q (.tup xs), sm, upd_same, fun b u z => ?_, A, n, r.mono sm fun a ha => ⟨?_, rfl⟩⟩
    · by_cases hb : b = q
      · subst hb; rw [upd_same] at z; rw [e]; exact z
      · rw [upd_ne hb] at z; exact s _ _ z
    · have ne : a ≠ q := fun z => r.nt a ha xs (z ▸ e)
      rw [upd_ne ne]
      exact (r.fr a ha).1
def keysT (es : List (List Key × D)) : List D := es.map fun p => .tuple (p.1.map kD)
theorem rp_kVs {K : PySem.W.Frag} {F : Hp} : ∀ ks : List Key, RpA K F (ks.map kV) (ks.map kD)
  | [] => .nil
  | k :: ks => .cons (rp_kV k) (rp_kVs ks)
theorem keysT_at {K : PySem.W.Frag} {F : Hp} : ∀ {kvs : List (List Key × V)} {es : List (List Key × D)}, RpKs K F kvs es → ∀ (i : Nat) (d : D), (keysT es)[i]? = some d → ∀ k v, kvs[i]? = some (k, v) → d = .tuple (k.map kD)
  | _, _, .cons (k := k') h r, 0, d, e, k, v, e2 => by
    cases e
    cases e2
    rfl
  | _, _, .cons h r, i + 1, d, e, k, v, e2 => keysT_at r i d e k v e2
section
variable {G : Gd} {F : Hp} {a : Addr} {o : Obj} {kvs : List (List Key × V)} {es : List (List Key × D)}
theorem itok_keysT (h : F a = some (.frz o (.dT kvs))) (r : RpKs G.K F kvs es) : ItOk G (Itkt a o kvs) F (keysT es) where
  go := fun F' H' L i s hr hi => ⟨hr.sub _ _ (s _ _ h), by rw [r.len]; simpa [keysT] using hi⟩
  yld := fun F' H' L i x H'' d s hr hd hy => by
    obtain ⟨rfl, k, v, q, hk, rfl, hq⟩ := hy
    obtain ⟨F2, s2, f2, hr2⟩ := HR.adopt hr hq
    have e := keysT_at r i d hd k v hk
    subst e
    exact ⟨F2, s2, hr2, .tup (.inl f2) (rp_kVs k)⟩
  stop := fun F' H' L i s hr hi => ⟨hr.sub _ _ (s _ _ h), by rw [r.len]; simpa [keysT] using hi⟩
end
section
variable {ι : Type} {G : Gd} {X : ι → Cx} {W : WX} {P : List Nat} {e ie tg : Expr} {pos : Pos}
def fIDctT (k : Nat) : Fn (List D) := fun n ρ => match (ρ[k]?).join with
  | some (.dtt es) => some (.ok (keysT es) (ρ.set k (some (.dlt es))))
  | some (.dlt es) => some (.ok (keysT es) ρ)
  | _ => none
theorem snd_idctT {k : Nat} : SndI G W (iKeysLT (tVar k)) (fIDctT k) := fun n ρ r eq F H σ T Q hR hP => by
  unfold fIDctT at eq
  split at eq
  · rename_i es q
    cases eq
    obtain ⟨v, hv, R1⟩ := R.take hR (join_some q)
    refine ⟨v, hv, ?_⟩
    obtain ⟨A, cr⟩ := R1.cr
    cases cr with
    | @dtt a kvs _ h1 h2 r =>
      refine ⟨a, kvs, rfl, .inr ⟨h1, fun o => ?_⟩⟩
      obtain ⟨F', s, hF, h3⟩ := HR.lock (o := .frz o (.dT kvs)) (c' := .dlt es) R1.hr' (fun A h => by cases h; rfl) (fun F' s hF => .dlt hF (r.mono s))
      have hk : k < ρ.length := (List.getElem?_eq_some_iff.mp (join_some q)).1
      have R2 : G.R F' (upd H a (.frz o (.dT kvs))) (ρ.set k none) σ ((.dlt es, .ref a) :: T) := .mk' h3 R1.ok
      have R3 := R.put R2 (c := .dlt es) (i := k) (by rw [List.getElem?_set_self hk]) hv
      rw [List.set_set] at R3
      exact hP F' _ _ s R3 (itok_keysT hF (r.mono s))
  · rename_i es q
    cases eq
    obtain ⟨v, hv, A, cr⟩ := hR.at (join_some q)
    refine ⟨v, hv, ?_⟩
    cases cr with
    | @dlt a o kvs _ h1 r => exact ⟨a, kvs, rfl, .inl ⟨o, hR.sub _ _ h1, hP F H _ (Same.refl _) hR (itok_keysT h1 r)⟩⟩
  · cases eq
theorem xi_dctT {k : Nat} (h : ∀ j, PE (X j) e (tVar k)) : XI G X W tg e (fIDctT k) := ⟨_, fun j => pi_keysLT (h j), snd_idctT⟩
end
end L3

set_option maxHeartbeats 4000000
namespace L2
open PySem PySem.Spec PyProof.Rows
section
variable {P : Program} {w : World} {A : Around} {E : Value → Shared → Prop} {s : Shared}
/-- a set just made, before anything is put in -/
abbrev setO0 (w : World) : Obj := { cls := .type "set", dict := none, data := .set #[] 0 (.fresh 0 0 (!w.params.followText "set-order")) }
theorem vals_at {us : Array Value} {ns : List Int} (hz : us.size = ns.length) (hit : IntsAre us.toList ns) (i : Nat) (v : Value) (hv : us[i]? = some v) : ∃ k t, ns[i]? = some k ∧ v = .int k t := by
  have hi : i < ns.length := hz ▸ (Array.getElem?_eq_some_iff.mp hv).1
  obtain ⟨t, e⟩ := IntsAre.int_at hit i v ((Array.getElem?_toList ..).trans hv)
  exact ⟨ns[i], t, List.getElem?_eq_getElem hi, by rw [e, List.getD_eq_getElem?_getD, List.getElem?_eq_getElem hi]; rfl⟩
/-- the new set takes the ints of a list -/
theorem set_fill {l : Addr} {us : Array Value} {ns : List Int} {R : Result → Shared → Prop} (hh : A.in1.handled = none) (hl : s.heap.IsList l us) (hz : us.size = ns.length) (hit : IntsAre us.toList ns) (hb : ns.length + 1 < scanBound)
    (hR : ∀ (h' : Heap) (tk c : Nat), SetR w h' s.heap.objs.size (fun j => decide (j ∈ ns)) c → c ≤ ns.length → (∀ b o, s.heap.get? b = some o → h'.get? b = some o) → R (.ok (.ret .none)) { s with heap := h', toks := tk }) :
    codeAny (model P w) A (.builtin "set.update.loop" ⟨[.ref s.heap.objs.size, .ref (s.heap.push (setO0 w)).objs.size], []⟩) R { s with heap := (s.heap.push (setO0 w)).push { cls := .type "list_iterator", data := .fields #[.ref l, .int 0 0] } } := by
  obtain ⟨ol, hol, hcl, nl, hdl⟩ := id hl
  have lt := Heap.lt_size hol
  have z1 : (s.heap.push (setO0 w)).objs.size = s.heap.objs.size + 1 := Heap.size_push ..
  have ne1 : l ≠ (s.heap.push (setO0 w)).objs.size := fun e => absurd (e.trans z1) (Nat.ne_of_lt (Nat.lt_succ_of_lt lt))
  have hget : ((s.heap.push (setO0 w)).push { cls := .type "list_iterator", data := .fields #[.ref l, .int 0 0] }).get? s.heap.objs.size = some (setO0 w) := Heap.get?_push_of_some _ (Heap.get?_push_size _ rfl)
  have out : s.heap.objs.size ∉ [(s.heap.push (setO0 w)).objs.size, l] := fun z => by
    rcases List.mem_cons.mp z with z | z
    · exact absurd (z.trans z1) (Nat.ne_of_lt (Nat.lt_succ_self _))
    · exact absurd (List.mem_singleton.mp z) (Nat.ne_of_gt lt)
  refine set_update_ints ((Walks.list hh _ l ne1 us).toS) s.heap.objs.size out ns hz hb (vals_at hz hit) us.size 0 _ (Nat.sub_zero _) (Nat.zero_le _) ⟨⟨_, Heap.get?_push_size _ rfl, rfl, rfl⟩, (hl.at fun o e => Heap.get?_push_of_some _ (Heap.get?_push_of_some _ e))⟩ ⟨0, Nat.le_refl 0, setR_new_at hget⟩ fun s' c hm hc hS => ?_
  obtain ⟨h', g2, d', tk', os'⟩ := s'
  obtain rfl : g2 = s.gens := hm.gens
  obtain rfl : d' = s.drawn := hm.drawn
  obtain rfl : os' = s.os := hm.os
  refine hR h' tk' c hS (hz ▸ hc) fun b o e => hm.heap b o (fun z => ?_) (Heap.get?_push_of_some _ (Heap.get?_push_of_some _ e))
  have := Heap.lt_size e
  rcases List.mem_cons.mp z with z | z
  · exact absurd z (Nat.ne_of_lt this)
  · exact absurd ((List.mem_singleton.mp z).trans z1) (Nat.ne_of_lt (Nat.lt_succ_of_lt this))
/-- set(xs) of a list of ints -/
theorem set_of_list {l : Addr} {us : Array Value} {ns : List Int} {Q : Value → Shared → Prop} (hh : A.handled = none) (hl : s.heap.IsList l us) (hit : IntsAre us.toList ns) (hb : ns.length + 1 < scanBound)
    (h : ∀ (h' : Heap) (tk c : Nat), SetR w h' s.heap.objs.size (fun j => decide (j ∈ ns)) c → c ≤ ns.length → (∀ b o, s.heap.get? b = some o → h'.get? b = some o) → Q (.ref s.heap.objs.size) { s with heap := h', toks := tk }) :
    wpAny (model P w) A (call (.type "set") [.ref l]) Q E s := by
  have hz : us.size = ns.length := (Array.length_toList ..).symm.trans (IntsAre.length hit)
  have facts := And.intro F.called_set.made F.called_set.sub
  obtain ⟨made, sub⟩ := facts
  obtain ⟨c, tl, mro⟩ := F.called_set.mro
  have no := F.called_set.notType
  have can := F.called_set.canCreate
  have ty := F.typeCall_set_1 (.ref l)
  refine wpAny_call (codeAny_of_tree (show wpAny _ _ (callAny (.type "set") _) _ _ _ from wpAny_pure ⟨Code.quiet_builtin _ (by decide +kernel), codeAny_builtin F.entry_type_call ?_⟩))
  rw [Around.under_plain (weight_type_call_type "set" [.ref l] []) rfl]
  repeat (any_goals (first | assumption | wp_step))
  refine codeAny_mono (code_set_led1 (.ref l) (E := E) (Q₁ := fun u t => u = .ref s.heap.objs.size ∧ t = { s with heap := s.heap.push (setO0 w) }) ⟨rfl, rfl⟩) fun r t ht => ?_
  match r, ht with
  | .error _, ht => exact ht
  | .ok (.ret u), ht =>
    obtain ⟨rfl, rfl⟩ := ht
    have here : (s.heap.push (setO0 w)).get? s.heap.objs.size = some (setO0 w) := Heap.get?_push_size _ rfl
    have isSet : Shared.TypeIs { s with heap := s.heap.push (setO0 w) } (.ref s.heap.objs.size) "set" := ⟨_, here, rfl⟩
    have look := F.called_set.init.lookup
    have bind := F.called_set.init.bind (.ref s.heap.objs.size)
    repeat (any_goals (first | assumption | wp_step))
    refine codeAny_mono (codeAny_call_builtin (R := wants (fun r t => r = .none ∧ ∃ h' tk c, t = { s with heap := h', toks := tk } ∧ SetR w h' s.heap.objs.size (fun j => decide (j ∈ ns)) c ∧ c ≤ ns.length ∧ ∀ b o, s.heap.get? b = some o → h'.get? b = some o) E) F.called_set.init.plain F.entry_set_init (check_set_init_1 isSet ?_)) fun r t ht => ?_
    · have hlc := hl
      obtain ⟨⟨cls, dct, dat, sls⟩, hol, hcl, nl, hdl⟩ := hl
      dsimp only at hcl hdl
      subst hcl hdl
      have onto : (s.heap.push (setO0 w)).get? l = some { cls := .type "list", dict := dct, data := .seq us nl, slots := sls } := Heap.get?_push_of_some _ hol
      have notSet := F.sub_list_set
      have notFrozen := F.sub_list_frozenset
      have notDict : (Value.type "list" == Value.type "dict") = false := by decide
      unfold Builtin.«set.__init__» noKeywords Builtin.Frozenset.updateFrom
      generalize hPI : pyIter = PI
      wp_walk
      subst hPI
      refine wpAny_pyIter_list (items := us) ⟨_, onto, rfl, nl, rfl⟩ (wpAny_bind (wpAny_runValue (set_fill (by simp [hh]) hlc hz hit hb fun h' tk c hS hc hk => ?_)))
      show wpAny _ _ _ _ _ _
      refine wpAny_pure ?_
      show wpAny _ _ (ret Value.none) _ _ _
      exact wpAny_pure ⟨rfl, h', tk, c, rfl, hS, hc, hk⟩
    · match r, ht with
      | .error _, ht => exact ht
      | .ok (.ret u), ht =>
        obtain ⟨rfl, h', tk, c, rfl, hS, hc, hk⟩ := ht
        repeat (any_goals (first | assumption | wp_step))
        exact h _ _ _ hS hc hk
      | .ok .next, ht => exact ht.elim
      | .ok .brk, ht => exact ht.elim
      | .ok .cont, ht => exact ht.elim
  | .ok .next, ht => exact ht.elim
  | .ok .brk, ht => exact ht.elim
  | .ok .cont, ht => exact ht.elim
end
section
variable {X : Cx}
/-- set(xs), xs a list of ints -/
def rSetOfL (K : PySem.W.Frag) (w : World) : List V → Hp → VK → Prop := fun vs H Q => ∃ (a : Addr) (ns : List Int), vs = [V.ref a] ∧ SqL K H a (ns.map V.int) ∧ ns.length < 64 ∧ ∀ p c, H p = none → c ≤ ns.length → Q (.ref p) (upd H p (SetO w p (fun j => decide (j ∈ ns)) c))
theorem cr_setOfL (hc : X.calm = true) : CallR X (.type "set") (rSetOfL X.K X.w) := by
  intro pins s σ H vs us Q I r h
  obtain ⟨a, ns, rfl, hs, h64, q⟩ := h
  obtain ⟨its, rv, hl, _⟩ := I.list hs
  rw [Vals.ref1 r]
  refine set_of_list (I.ok.hd hc) hl.isList rv.ints (by unfold scanBound; omega) fun h' tk c hS hcn hk => ?_
  exact ⟨.ref _, upd H s.heap.objs.size (SetO X.w s.heap.objs.size (fun j => decide (j ∈ ns)) c), I.laid (t' := tk) hk (Nat.le_refl _) (setO_new hS), rfl, q _ c (I.hok.fresh (Nat.le_refl _)) hcn⟩
end
end L2

set_option maxHeartbeats 1000000
namespace L3
open PySem PySem.Spec L2 PyProof.Rows
/-! ### sorted(set(xs)) -/
def insU (x : Int) : List Int → List Int
  | [] => [x]
  | y :: ys => if x < y then x :: y :: ys else if x = y then y :: ys else y :: insU x ys
def sortU : List Int → List Int
  | [] => []
  | x :: xs => insU x (sortU xs)
theorem insU_mem (x k : Int) : ∀ ys : List Int, k ∈ insU x ys ↔ k = x ∨ k ∈ ys
  | [] => by unfold insU; simp
  | y :: ys => by
    unfold insU
    split
    · simp
    · split
      · rename_i e
        subst e
        simp
      · rw [List.mem_cons, insU_mem x k ys, List.mem_cons]
        constructor
        · rintro (h | h | h)
          · exact .inr (.inl h)
          · exact .inl h
          · exact .inr (.inr h)
        · rintro (h | h | h)
          · exact .inr (.inl h)
          · exact .inl h
          · exact .inr (.inr h)
theorem sortU_mem (k : Int) : ∀ xs : List Int, k ∈ sortU xs ↔ k ∈ xs
  | [] => Iff.rfl
  | x :: xs => by
    show k ∈ insU x (sortU xs) ↔ _
    rw [insU_mem, sortU_mem k xs, List.mem_cons]
theorem insU_pw (x : Int) : ∀ ys : List Int, ys.Pairwise (· < ·) → (insU x ys).Pairwise (· < ·)
  | [], _ => List.pairwise_singleton _ _
  | y :: ys, h => by
    obtain ⟨h1, h2⟩ := List.pairwise_cons.mp h
    unfold insU
    split
    · rename_i hx
      refine List.pairwise_cons.mpr ⟨fun z hz => ?_, h⟩
      rcases List.mem_cons.mp hz with e | hz
      · rw [e]; exact hx
      · exact Int.lt_trans hx (h1 z hz)
    · split
      · exact h
      · refine List.pairwise_cons.mpr ⟨fun z hz => ?_, insU_pw x ys h2⟩
        rcases (insU_mem x z ys).mp hz with e | hz
        · omega
        · exact h1 z hz
theorem sortU_pw : ∀ xs : List Int, (sortU xs).Pairwise (· < ·)
  | [] => .nil
  | x :: xs => insU_pw x _ (sortU_pw xs)
theorem inc_uniq {xs ys : List Int} (hx : xs.Pairwise (· < ·)) (hy : ys.Pairwise (· < ·)) (h : ∀ k, k ∈ xs ↔ k ∈ ys) : xs = ys := by
  have nd : ∀ {l : List Int}, l.Pairwise (· < ·) → l.Nodup := fun h => h.imp fun q => by omega
  have le : ∀ {l : List Int}, l.Pairwise (· < ·) → l.Pairwise (· ≤ ·) := fun h => h.imp fun q => by omega
  have p : xs.Perm ys := (List.perm_ext_iff_of_nodup (nd hx) (nd hy)).mpr h
  have e1 := sort_is p (le hx)
  have e2 := sort_is (List.Perm.refl ys) (le hy)
  rw [e1, ← e2]
/-- an object that nobody of ours holds -/
theorem HR.extra {K : PySem.W.Frag} {cl : Str → Addr → Prop} {F H : Hp} {L : List (Cl × V)} {p : Addr} {o : HO} (h : HR K cl F H L) (hp : H p = none) : HR K cl F (upd H p o) L := by
  obtain ⟨s, A, n, q⟩ := h
  refine ⟨fun b u e => ?_, A, n, q.mono (Same.refl _) fun a ha => ⟨(q.fr a ha).1, ?_⟩⟩
  · rw [upd_ne (ne_of_none (s _ _ e) hp)]
    exact s _ _ e
  · obtain ⟨_, u, h2⟩ := q.fr a ha
    exact upd_ne (ne_of_none h2 hp)
section
variable {ι : Type} {G : Gd} {X : ι → Cx} {W : WX} {e : Expr} {w0 : World} {p p' pos pos' : Pos}
def gSSet : List Cl → Option Cl
  | [c] => match c.data with
    | some (.list ds) => match intsD ds with
      | some ns => if Nat.blt ns.length 64 = true then some (.lst ((sortU ns).map PyData.int)) else none
      | none => none
    | _ => none
  | _ => none
def rSSet (K : PySem.W.Frag) (w : World) : List V → Hp → VK → Prop := fun vs H Q => rSetOfL K w vs H fun v H1 => rSortedSet w [v] H1 Q
theorem prm_sset : Prm G (rSSet G.K w0) gSSet := fun F H L cs vs c Q hr hc e hQ => by
  unfold gSSet at e
  split at e
  · obtain ⟨v1, A1, rfl, h1⟩ := crs1 hc
    split at e
    · rename_i ds q
      cases q2 : intsD ds with
      | none => rw [q2] at e; cases e
      | some ns =>
        rw [q2] at e
        dsimp only at e
        split at e
        case isFalse => cases e
        rename_i hl
        have hl : ns.length < 64 := Nat.le_of_ble_eq_true hl
        cases e
        obtain ⟨a, ws, rfl, q1, r1⟩ := h1.seqL hr.sub q
        cases intsD_ok q2
        cases r1.ints
        refine ⟨a, ns, rfl, q1, hl, fun s c hs hcn => ⟨s, _, c, rfl, upd_same, by omega, fun ns' p hp hm hlen hn => ?_⟩⟩
        have e : ns' = sortU ns := inc_uniq hp (sortU_pw ns) fun k => by rw [hm, sortU_mem, decide_eq_true_iff]
        rw [e]
        exact hQ F _ _ (Same.refl _) (HR.lstN (HR.extra hr hs) hn (RpA.of_ints _))
    · cases e
  · cases e
theorem xe_sset {f : Fn (List Bv)} (hK : ∀ i, (X i).K = G.K) (hw : ∀ i, (X i).w = w0) (hc : ∀ i, (X i).calm = true) (hg : ∀ i, Gl (X i) "sorted") (hm : ∀ i, (X i).mg "sorted" = none) (hg2 : ∀ i, Gl (X i) "set") (hm2 : ∀ i, (X i).mg "set" = none) (ha : XBs G X W [e] f)
    (na : ∀ i, starEach [e] (X i).env = (false, eval e (X i).env) :: starEach [] (X i).env)
    (nc : ∀ i, starEach [.Call (.Name "set" p) [e] [] pos] (X i).env = (false, eval (.Call (.Name "set" p) [e] [] pos) (X i).env) :: starEach [] (X i).env) :
    XE G X W (.Call (.Name "sorted" p') [.Call (.Name "set" p) [e] [] pos] [] pos') (fPr f gSSet) := by
  obtain ⟨t, h1, h2⟩ := ha
  refine ⟨tCB (rSSet G.K w0) t, fun i => ?_, snd_prm h2 prm_sset⟩
  have s1 : PE (X i) (.Call (.Name "set" p) [e] [] pos) (tCB (rSetOfL G.K w0) t) := by
    have := pe_callTy (x := "set") (p := p) (pos := pos) (cr_setOfL (hc i)) (hg2 i) (hm2 i) (by decide +kernel) (h1 i) (by decide) (by decide) (na i) (by rfl)
    rw [hK i, hw i] at this
    exact this
  have s2 := pe_callB (x := "sorted") (p := p') (pos := pos') (cr_sortedSet (hc i)) (hg i) (hm i) (by decide +kernel) (pa_cons s1 pa_nil (nc i)) (by decide) (by decide) (nc i) (by rfl)
  rw [hw i] at s2
  exact s2
end
end L3

set_option maxHeartbeats 1000000
namespace L2
open PySem PySem.Spec PyProof.Rows
/-- o.m(..) of an instance of the class at C; what is let out may hang on the slots -/
def tMethE (C : Addr) (m : Str) (sp : Sp) (E : St → XK) (ta : TE) (t : TA) : TE := fun σ H Q => ta σ H fun x H1 => ∃ a dx fs, x = .ref a ∧ H1 a = some (.ins C dx fs) ∧ fs.lookup m = none ∧
  t σ H1 fun vs H2 => sp (x :: vs) H2 Q (E σ)
def tMakeE (C : Addr) (sp : Sp) (E : St → XK) (t : TA) : TE := fun σ H Q => t σ H fun vs H1 => ∀ x dx, H1 x = none → H1 dx = none → dx ≠ x →
  sp (.ref x :: vs) (upd (upd H1 dx (.own x)) x (.ins C dx [])) (fun v H2 => v = .non ∧ Q (.ref x) H2) (E σ)
section
variable {X : Cx} {CX : CXT} {k : Nat} {f C : Addr} {fd : FuncData} {ps : List Str} {sp : Sp} {E : St → XK} {x m : Str} {p pos apos : Pos} {e o : Expr} {es : List Expr} {ta : TE} {t : TA}
/-- the call o.m(es), one after the other -/
def methRun (env : Env) (o : Expr) (m : Str) (apos pos : Pos) (es : List Expr) (pl : Sem Bool) : Sem Value :=
  eval o env >>= fun v => standAt apos.atName >>= fun _ => holding [v] (getMethod v m pl) >>= fun b => callWith pos b.1 b.2 (backTo pos (starEach es env)) (backToKw pos (keywordEach [] env))
abbrev MethAt (env : Env) (o : Expr) (m : Str) (apos pos : Pos) (es : List Expr) (pl : Sem Bool) : Prop := eval (.Call (.Attribute o m apos) es [] pos) env = methRun env o m apos pos es pl
/-- it comes to the call of the class's def with the instance ahead -/
theorem meth_in {pl : Sem Bool} {pins : List (Addr × Obj)} {s : Shared} {σ : St} {H : Hp} {Q : Value → Shared → Prop} {R : V → Hp → Prop} (ho : PE X o ta) (c : Cls X.K C) (hm : Meth X.K C m f) (rd : MethAt X.env o m apos pos es pl) (I : Inv X pins σ H s)
    (h : ta σ H fun x H1 => ∃ a dx fs, x = .ref a ∧ H1 a = some (.ins C dx fs) ∧ fs.lookup m = none ∧ R x H1)
    (go : ∀ a H1 s1, Inv X pins σ H1 s1 → R (.ref a) H1 → wpAny (model X.prog X.w) X.A (callWith pos (.ref f) [.ref a] (backTo pos (starEach es X.env)) (backToKw pos (keywordEach [] X.env))) Q X.xe s1) :
    wpAny (model X.prog X.w) X.A (eval (.Call (.Attribute o m apos) es [] pos) X.env) Q X.xe s :=
  PySem.W.methodCall_KW (pl := pl) (thn (ho.run pins s σ H _ I h) fun u s1 z => by
    have ⟨x, H1, J, rel, a, dx, fs, ex, at_, no, r⟩ := z
    cases ex
    cases rel
    exact getmeth_ok J at_ c hm no (go a H1 s1 J r)) rd
theorem pe_methE {pl : Sem Bool} (he : PE X o ta) (c : Cls X.K C) (hm : Meth X.K C m f) (F : FnOk X.prog X.w X.K X.mg X.base CX k f fd ps sp) (hr : Room k X.A) (hb : Binds X.K fd ps []) (hx : ∀ σ, PassesAt CX X σ (E σ)) (ha : PA X (e :: es) t)
    (hst : starEach (e :: es) X.env = (false, eval e X.env) :: starEach es X.env) (hpl : (backTo pos (starEach es X.env)).any (·.1) = false) (ht : MethAt X.env o m apos pos (e :: es) pl) : PE X (.Call (.Attribute o m apos) (e :: es) [] pos) (tMethE C m sp E ta t) where
  run pins s σ H Q I h := meth_in (R := fun x H1 => t σ H1 fun vs H2 => sp (x :: vs) H2 Q (E σ)) he c hm ht I h fun a H1 s1 J q => PySem.W.callWith_K (first := [.ref a]) (h₀ := X.base) J.ok.mod.kin hm.kp (thn (ha.run pos pins s1 σ H1 _ J q) fun us s2 z => by
    have ⟨vs, H2, L, r, q⟩ := z
    exact ⟨L.kIn, run_fnS (us := .ref a :: us) (vs := .ref a :: vs) F hr hb (hx σ) L (.cons rfl r) q⟩) hst hpl
theorem pe_methE0 {pl : Sem Bool} (he : PE X o ta) (c : Cls X.K C) (hm : Meth X.K C m f) (F : FnOk X.prog X.w X.K X.mg X.base CX k f fd ps sp) (hr : Room k X.A) (hb : Binds X.K fd ps []) (hx : ∀ σ, PassesAt CX X σ (E σ)) (ht : MethAt X.env o m apos pos [] pl) :
    PE X (.Call (.Attribute o m apos) [] [] pos) (tMethE C m sp E ta tNil) where
  run pins s σ H Q I h := meth_in (R := fun x H1 => sp [x] H1 Q (E σ)) he c hm ht I h fun a H1 s1 J q => PySem.W.callWith_K0 (first := [.ref a]) J.kIn hm.kp (run_fnS (us := [.ref a]) (vs := [.ref a]) F hr hb (hx σ) J (.cons rfl .nil) q)
/-- C(..): the instance is laid, its __init__ runs as sp says and gives none -/
theorem run_makeE {pins : List (Addr × Obj)} {σ : St} {H : Hp} {s : Shared} {Q : VK} {us : List Value} {vs : List V} (M : Mk X.K C f) (F : FnOk X.prog X.w X.K X.mg X.base CX k f fd ps sp) (hr : Room (k + 1) X.A) (hb : Binds X.K fd ps [])
    (hx : PassesAt CX X σ (E σ)) (I : Inv X pins σ H s) (r : Vals vs us)
    (h : ∀ x dx, H x = none → H dx = none → dx ≠ x → sp (.ref x :: vs) (upd (upd H dx (.own x)) x (.ins C dx [])) (fun v H2 => v = .non ∧ Q (.ref x) H2) (E σ)) : wpAny (model X.prog X.w) X.A (call (.ref C) us) (EP X pins σ Q) X.xe s := by
  have J := I.made (C := C)
  have run := h _ _ (I.hok.fresh (Nat.le_succ _)) (I.hok.fresh (Nat.le_refl _)) (Nat.ne_of_lt (Nat.lt_succ_self _))
  have rs : Vals (V.ref (s.heap.objs.size + 1) :: vs) (Value.ref (s.heap.objs.size + 1) :: us) := .cons rfl r
  have n : (Value.ref (s.heap.objs.size + 1) :: us).length = ps.length := rs.length.symm.trans (F.len _ _ _ _ run)
  have bound := hb _ (Value.ref (s.heap.objs.size + 1) :: us) J.kIn ((congrArg List.length (List.append_nil _)).trans n)
  rw [List.append_nil] at bound
  refine wpAny_call (make_map I.kIn M.makes M.init (beq_iff_eq.mp M.fn) (codeAny_mono (F.run _ X.stack _ _ ⟨_, []⟩ _ _ _ (E σ) (hr.make C us []) (J.env0.make C us []) bound rs run) fun res s1 got => ?_))
  match res, got with
  | .error e, got => exact hx pins _ _ e s1 J got
  | .ok (.ret u), got =>
    have ⟨v, H', L, rv, ev, q⟩ := J.after got
    cases ev
    exact ⟨rv, V.ref (s.heap.objs.size + 1), H', L, rfl, q⟩
  | .ok .next, got => exact got.elim
  | .ok .brk, got => exact got.elim
  | .ok .cont, got => exact got.elim
theorem pe_makeE (M : Mk X.K C f) (F : FnOk X.prog X.w X.K X.mg X.base CX k f fd ps sp) (hr : Room (k + 1) X.A) (hg : Gl X x) (hm : X.mg x = some (.ref C)) (hb : Binds X.K fd ps []) (hx : ∀ σ, PassesAt CX X σ (E σ))
    (ha : PA X (e :: es) t) (hdb : (x == ("__debug__" : Str)) = false) (he : starEach (e :: es) X.env = (false, eval e X.env) :: starEach es X.env) (hpl : (backTo pos (starEach es X.env)).any (·.1) = false) :
    PE X (.Call (.Name x p) (e :: es) [] pos) (tMakeE C sp E t) where
  run pins s σ H Q I h := wpAny_Call_Name_kw (ld_glob I hg hm (PySem.W.callWith_K (h₀ := X.base) I.ok.mod.kin M.kp (thn (ha.run pos pins s σ H _ I h) fun us s1 z => by
    have ⟨vs, H1, J, r, q⟩ := z
    exact ⟨J.kIn, run_makeE M F hr hb (hx σ) J r q⟩) he hpl) hdb)
end
end L2
namespace L3
open PySem PySem.Spec L2
/-! ### instances -/
section
variable {ι : Type} {G : Gd} {X : ι → Cx} {W : WX} {P : List Nat} {e o : Expr} {es : List Expr} {pos apos p : Pos}
theorem bvs_len : ∀ {bs : List Bv} {vs : List V} {σ : L2.St}, bvVs σ bs vs → vs.length = bs.length := by
  intro bs
  induction bs with
  | nil => intro vs σ h; cases vs with
    | nil => rfl
    | cons _ _ => exact h.elim
  | cons b bs ih => intro vs σ h; cases vs with
    | nil => exact h.elim
    | cons v vs => exact congrArg (· + 1) (ih h.2)
theorem bvT_nil {b : Bv} {v : V} {T : List (Cl × V)} : ∀ x ∈ bvT b v [], x ∈ bvT b v T := fun x hx => by
  cases b with
  | pl i => cases hx
  | vl c => rw [List.mem_singleton.mp hx]; exact List.mem_cons_self
def fFld (c f : Str) (fo : Fn Bv) : Fn Cl := fun n ρ => bnd (fo n ρ) fun b ρ1 => match lk ρ1 b with
  | some (.ins c' es) => if c' = c then match es.lookup f with
    | some d => some (.ok (.fz d) ρ1)
    | none => none
    else none
  | _ => none
theorem xe_fld {c f : Str} {fo : Fn Bv} (hK : ∀ i, (X i).K = G.K) (hC : ∀ C, G.mg c = some (.ref C) → Cls G.K C ∧ NoAttr G.K C f) (ho : XB G X W o fo) (hb : ∀ i, attributeBase o f (X i).env (eval o (X i).env) = eval o (X i).env) : XE G X W (.Attribute o f pos) (fFld c f fo) := by
  obtain ⟨t, h1, h2⟩ := ho
  refine ⟨L2.tFld G.K t f, fun i => by have := L2.pe_fld (pos := pos) (h1 i) (hb i); rw [hK i] at this; exact this, fun n ρ r eq F H σ T Q hR hP => ?_⟩
  unfold fFld at eq
  cases q : fo n ρ with
  | none => rw [q] at eq; cases eq
  | some r1 =>
    rw [q] at eq
    refine h2 n ρ r1 q F H σ T _ hR ?_
    cases r1 with
    | ex x ρ' => cases eq; exact hP
    | ok b ρ1 =>
      rw [bnd_ok] at eq
      intro F1 H1 v s1 R1 v1
      split at eq
      · rename_i c' es q2
        split at eq
        · rename_i hc
          subst hc
          split at eq
          · rename_i d q3
            cases eq
            obtain ⟨A, cr⟩ := bv_cr R1 bvT_nil v1 q2
            cases cr with
            | ins k1 k2 k3 k4 k5 =>
              obtain ⟨w, l, rw'⟩ := lookup_ks k5 q3
              obtain ⟨m1, m2⟩ := hC _ k1
              exact ⟨_, _, _, _, w, rfl, k2, m1, m2, l, hP F1 H1 w s1 ((bvT_drop b _ R1).push rw')⟩
          · cases eq
        · cases eq
      · cases eq

theorem lookup_no {K : PySem.W.Frag} {F : Hp} {f : Str} : ∀ {fvs : List (Str × V)} {fs : List (Str × D)}, RpKs K F fvs fs → fs.lookup f = none → fvs.lookup f = none
  | _, _, .nil, _ => rfl
  | _, _, .cons (k := g) h r, e => by
    by_cases q : f = g
    · subst q; simp [List.lookup] at e
    · have z : (f == g) = false := by simpa using q
      simp only [List.lookup, z] at e ⊢
      exact lookup_no r e
/-- a call by its promise, the arguments as they came -/
def callM (m : Mr) (ρ : En) (bs : List Bv) : Option (Rz Cl) := match takeA ρ bs with
  | some (cs, ρ2) => match m cs with
    | some (.ok c outs) => some (.ok c (giveA ρ2 bs outs))
    | some (.ex x outs) => some (.ex x (giveA ρ2 bs outs))
    | none => none
  | none => none
theorem callM_ok {np : Nat} {m : Mr} {ρ : En} {bs : List Bv} {r : Rz Cl} {F1 H1 : Hp} {σ : L2.St} {T : List (Cl × V)} {vs : List V} {Q : VK} (e : callM m ρ bs = some r) (R1 : G.R F1 H1 ρ σ (bvTs bs vs T)) (v1 : bvVs σ bs vs) (lb : bs.length = np) (hP : PoE G W F1 σ T Q r) : spM G np m vs H1 Q (WE W σ) := by
  unfold callM at e
  cases q2 : takeA ρ bs with
  | none => rw [q2] at e; cases e
  | some p =>
    obtain ⟨cs, ρ2⟩ := p
    rw [q2] at e
    dsimp only at e
    obtain ⟨hh, ok2, lc⟩ := take_many R1 v1 q2
    have lb : vs.length = np := (bvs_len v1).trans lb
    cases q3 : m cs with
    | none => rw [q3] at e; cases e
    | some o =>
      rw [q3] at e
      refine ⟨lb, cs, F1, eL ρ2 σ ++ T, o, lc.trans lb, hh, q3, ?_⟩
      cases o with
      | ok c outs =>
        cases e
        exact fun F' H' v s' h' => hP F' H' v s' (give_many (T := (c, v) :: T) h'.rot ok2 v1)
      | ex x outs =>
        cases e
        exact fun F' H' cls d s' h' xr => hP F' H' cls d s' (give_many h' ok2 v1) xr
def fMeth (c mn : Str) (m : Mr) (fo : Fn Bv) (fa : Fn (List Bv)) : Fn Cl := fun n ρ => bnd (fo n ρ) fun b ρ1 => match lk ρ1 b with
  | some (.ins c' es) => if c' = c ∧ es.lookup mn = none then bnd (fa n ρ1) fun bs ρ2 => callM m ρ2 (b :: bs) else none
  | _ => none
theorem snd_meth {c mn : Str} {C : Addr} {np : Nat} {m : Mr} {ta : TE} {t : TA} {fo : Fn Bv} {fa : Fn (List Bv)} (gC : G.mg c = some (.ref C)) (ho : SndB G W ta fo) (ht : SndBs G W t fa) (hl : ∀ n ρ bs ρ', fa n ρ = some (.ok bs ρ') → bs.length = np) : SndE G W (tMethE C mn (spM G (np + 1) m) (WE W) ta t) (fMeth c mn m fo fa) := fun n ρ r eq F H σ T Q hR hP => by
  unfold fMeth at eq
  cases q : fo n ρ with
  | none => rw [q] at eq; cases eq
  | some r1 =>
    rw [q] at eq
    refine ho n ρ r1 q F H σ T _ hR ?_
    cases r1 with
    | ex x ρ' => cases eq; exact hP
    | ok b ρ1 =>
      rw [bnd_ok] at eq
      intro F1 H1 v s1 R1 v1
      split at eq
      · rename_i c' es q2
        split at eq
        · rename_i hc
          obtain ⟨hc, hl2⟩ := hc
          subst hc
          obtain ⟨A, cr⟩ := bv_cr R1 bvT_nil v1 q2
          cases cr with
          | ins k1 k2 k3 k4 k5 =>
            have eC := k1.symm.trans gC
            cases eC
            refine ⟨_, _, _, rfl, k2, lookup_no k5 hl2, ?_⟩
            cases q3 : fa n ρ1 with
            | none => rw [q3] at eq; cases eq
            | some r2 =>
              rw [q3] at eq
              refine ht n ρ1 r2 q3 F1 H1 σ _ _ R1 ?_
              cases r2 with
              | ex x ρ' => cases eq; exact PoX.dropT hP s1
              | ok bs ρ2 =>
                rw [bnd_ok] at eq
                intro F2 H2 vs s2 R2 v2
                exact callM_ok (bs := b :: bs) eq R2 ⟨v1, v2⟩ (congrArg (· + 1) (hl n ρ1 bs ρ2 q3)) (by
                  cases r with
                  | ok c0 ρ0 => exact fun F' H' v0 s' R' => hP F' H' v0 ((s1.trans s2).trans s') R'
                  | ex x0 ρ0 => exact hP.mono (s1.trans s2))
        · cases eq
      · cases eq
theorem xe_meth {c mn : Str} {C f : Addr} {fd : FuncData} {ps : List Str} {np k : Nat} {m : Mr} {fo : Fn Bv} {fa : Fn (List Bv)} {pl : ι → Sem Bool} (Fk : ∀ i, FnOk (X i).prog (X i).w (X i).K (X i).mg (X i).base (L2.CX (X i).prog (X i).w) k f fd ps (spM G (np + 1) m)) (hr : ∀ i, Room k (X i).A)
    (cC : ∀ i, Cls (X i).K C) (hm : ∀ i, Meth (X i).K C mn f) (gC : G.mg c = some (.ref C)) (hb : ∀ i, Binds (X i).K fd ps []) (tk : ∀ i, Takes (X i) W) (ho : XB G X W o fo) (ha : XBs G X W (e :: es) fa) (hl : ∀ n ρ bs ρ', fa n ρ = some (.ok bs ρ') → bs.length = np)
    (he : ∀ i, starEach (e :: es) (X i).env = (false, eval e (X i).env) :: starEach es (X i).env) (hpl : ∀ i, (backTo pos (starEach es (X i).env)).any (·.1) = false)
    (ht : ∀ i, MethAt (X i).env o mn apos pos (e :: es) (pl i)) :
    XE G X W (.Call (.Attribute o mn apos) (e :: es) [] pos) (fMeth c mn m fo fa) := by
  obtain ⟨ta, a1, a2⟩ := ho
  obtain ⟨t, h1, h2⟩ := ha
  exact ⟨_, fun i => pe_methE (E := WE W) (a1 i) (cC i) (hm i) (Fk i) (hr i) (hb i) (fun σ => passAt (tk i) σ) (h1 i) (he i) (hpl i) (ht i), snd_meth gC a2 h2 hl⟩
theorem xe_meth0 {c mn : Str} {C f : Addr} {fd : FuncData} {ps : List Str} {k : Nat} {m : Mr} {fo : Fn Bv} {pl : ι → Sem Bool} (Fk : ∀ i, FnOk (X i).prog (X i).w (X i).K (X i).mg (X i).base (L2.CX (X i).prog (X i).w) k f fd ps (spM G 1 m)) (hr : ∀ i, Room k (X i).A)
    (cC : ∀ i, Cls (X i).K C) (hm : ∀ i, Meth (X i).K C mn f) (gC : G.mg c = some (.ref C)) (hb : ∀ i, Binds (X i).K fd ps []) (tk : ∀ i, Takes (X i) W) (ho : XB G X W o fo)
    (ht : ∀ i, MethAt (X i).env o mn apos pos [] (pl i)) :
    XE G X W (.Call (.Attribute o mn apos) [] [] pos) (fMeth c mn m fo fNil) := by
  obtain ⟨ta, a1, a2⟩ := ho
  exact ⟨_, fun i => pe_methE0 (E := WE W) (a1 i) (cC i) (hm i) (Fk i) (hr i) (hb i) (fun σ => passAt (tk i) σ) (ht i), snd_meth gC a2 snd_nil fun n ρ bs ρ' h => len_nil h⟩

/-! ### a new instance -/
def fMake (c : Str) (m : Mr) (fa : Fn (List Bv)) : Fn Cl := fun n ρ => bnd (fa n ρ) fun bs ρ1 => match takeA ρ1 bs with
  | some (cs, ρ2) => match m (.ins c [] :: cs) with
    | some (.ok (.fz .none) (some c' :: outs)) => some (.ok c' (giveA ρ2 bs outs))
    | some (.ex x (_ :: outs)) => some (.ex x (giveA ρ2 bs outs))
    | _ => none
  | none => none
theorem HR.newIns {K : PySem.W.Frag} {cl : Str → Addr → Prop} {F H : Hp} {L : List (Cl × V)} {x dx C : Addr} {c : Str} (h : HR K cl F H L) (hx : H x = none) (hd : H dx = none) (ne : dx ≠ x) (hc : cl c C) :
    Same F (upd F dx (.own x)) ∧ HR K cl (upd F dx (.own x)) (upd (upd H dx (.own x)) x (.ins C dx [])) ((.ins c [], .ref x) :: L) := by
  obtain ⟨s, h1⟩ := h.newF (o := .own x) hd
  have fx : F x = none := by
    cases q : F x with
    | none => rfl
    | some o => rw [h.sub _ _ q] at hx; cases hx
  exact ⟨s, h1.newO (by rw [upd_ne (Ne.symm ne)]; exact hx) (.ins hc upd_same (by rw [upd_ne (Ne.symm ne)]; exact fx) upd_same .nil)⟩
theorem xe_make {c x : Str} {C f : Addr} {fd : FuncData} {ps : List Str} {np k : Nat} {m : Mr} {fa : Fn (List Bv)} (Fk : ∀ i, FnOk (X i).prog (X i).w (X i).K (X i).mg (X i).base (L2.CX (X i).prog (X i).w) k f fd ps (spM G (np + 1) m)) (hr : ∀ i, Room (k + 1) (X i).A)
    (M : ∀ i, Mk (X i).K C f) (gC : G.mg c = some (.ref C)) (hg : ∀ i, Gl (X i) x) (hm : ∀ i, (X i).mg x = some (.ref C)) (hb : ∀ i, Binds (X i).K fd ps []) (tk : ∀ i, Takes (X i) W) (ha : XBs G X W (e :: es) fa) (hl : ∀ n ρ bs ρ', fa n ρ = some (.ok bs ρ') → bs.length = np)
    (hdb : (x == ("__debug__" : Str)) = false) (he : ∀ i, starEach (e :: es) (X i).env = (false, eval e (X i).env) :: starEach es (X i).env) (hpl : ∀ i, (backTo pos (starEach es (X i).env)).any (·.1) = false) :
    XE G X W (.Call (.Name x p) (e :: es) [] pos) (fMake c m fa) := by
  obtain ⟨t, h1, h2⟩ := ha
  refine ⟨_, fun i => pe_makeE (E := WE W) (M i) (Fk i) (hr i) (hg i) (hm i) (hb i) (fun σ => passAt (tk i) σ) (h1 i) hdb (he i) (hpl i), fun n ρ r eq F H σ T Q hR hP => ?_⟩
  unfold fMake at eq
  cases q : fa n ρ with
  | none => rw [q] at eq; cases eq
  | some r1 =>
    rw [q] at eq
    refine h2 n ρ r1 q F H σ T _ hR ?_
    cases r1 with
    | ex x ρ' => cases eq; exact hP
    | ok bs ρ1 =>
      rw [bnd_ok] at eq
      intro F1 H1 vs s1 R1 v1 x dx hx hd ne
      cases q2 : takeA ρ1 bs with
      | none => rw [q2] at eq; cases eq
      | some pp =>
        obtain ⟨cs, ρ2⟩ := pp
        rw [q2] at eq
        dsimp only at eq
        obtain ⟨hh, ok2, lc⟩ := take_many R1 v1 q2
        have lb : vs.length = np := (bvs_len v1).trans (hl n ρ bs ρ1 q)
        obtain ⟨s2, hh2⟩ := hh.newIns hx hd ne gC
        cases q3 : m (.ins c [] :: cs) with
        | none => rw [q3] at eq; cases eq
        | some o =>
          rw [q3] at eq
          refine ⟨congrArg (· + 1) lb, .ins c [] :: cs, _, eL ρ2 σ ++ T, o, congrArg (· + 1) (lc.trans lb), hh2, q3, ?_⟩
          cases o with
          | ok c0 outs =>
            cases c0 with
            | fz d0 =>
              cases d0 with
              | none =>
                match outs, eq with
                | some c' :: outs, eq =>
                  cases eq
                  intro F' H' v s' h'
                  have rv := h'.rp
                  cases rv
                  refine ⟨rfl, ?_⟩
                  have h4 : G.HR F' H' ((c', .ref x) :: (backs outs vs ++ (eL ρ2 σ ++ T))) := h'.tail
                  exact hP F' H' _ ((s1.trans s2).trans s') (give_many (T := (c', .ref x) :: T) h4.rot ok2 v1)
              | _ => cases eq
            | _ => cases eq
          | ex x0 outs =>
            match outs, eq with
            | o0 :: outs, eq =>
              cases eq
              intro F' H' cls d s' h' xr
              have h4 : G.HR F' H' (backs outs vs ++ (eL ρ2 σ ++ T)) := by
                cases o0 with
                | none => exact h'
                | some c' => exact HR.tail (x := (c', .ref x)) h'
              exact hP F' H' cls d ((s1.trans s2).trans s') (give_many h4 ok2 v1) xr

/-! ### x.f = e, x an instance in a slot -/
def putFD (f : Str) (d : D) : List (Str × D) → List (Str × D)
  | [] => [(f, d)]
  | (g, x) :: r => if g = f then (g, d) :: r else (g, x) :: putFD f d r
theorem putF_rp {K : PySem.W.Frag} {F : Hp} {f : Str} {v : V} {d : D} (r : Rp K F v d) : ∀ {fvs : List (Str × V)} {fs : List (Str × D)}, RpKs K F fvs fs → RpKs K F (putF f v fvs) (putFD f d fs)
  | _, _, .nil => .cons r .nil
  | _, _, .cons (k := g) h q => by
    unfold putF putFD
    split
    · exact .cons r q
    · exact .cons h (putF_rp r q)
theorem ks_len {K : PySem.W.Frag} {F : Hp} {κ : Type} : ∀ {fvs : List (κ × V)} {fs : List (κ × D)}, RpKs K F fvs fs → fvs.length = fs.length
  | _, _, .nil => rfl
  | _, _, .cons _ r => congrArg (· + 1) (ks_len r)
def sFldSt (c f : Str) (k : Nat) (fe : Fn Bv) : FS := fun n ρ => bS (fFz fe n ρ) fun cc ρ1 => match cc with
  | .fz d => match (ρ1[k]?).join with
    | some (.ins c' es) => if c' = c ∧ es.length < 1000 then some (.nx (ρ1.set k (some (.ins c (putFD f d es))))) else none
    | _ => none
  | _ => none
theorem xs_fldSt {k : Nat} {x c f : Str} {px pos' : Pos} {fe : Fn Bv} (hK : ∀ i, (X i).K = G.K) (hC : ∀ C, G.mg c = some (.ref C) → Cls G.K C ∧ NoAttr G.K C f) (hx : ∀ j, PE (X j) (.Name x px) (tVar k)) (he : XB G X W e fe)
    (hs : ∀ i, swapsWith e (some (.Attribute (.Name x px) f pos')) pos.line (X i).env = pure false) : XS G X W P (.Assign [.Attribute (.Name x px) f pos'] e pos) (sFldSt c f k fe) := by
  obtain ⟨t, h1, h2⟩ := he
  refine ⟨sFld G.K (tVar k) t f, fun i => by have := ps_fld (hx i) (h1 i) (hs i); rw [hK i] at this; exact this, fun n ρ o eq F H σ T D hR hP => ?_⟩
  unfold sFldSt at eq
  cases q : fFz fe n ρ with
  | none => rw [q] at eq; cases eq
  | some r1 =>
    rw [q] at eq
    refine snd_fz h2 n ρ r1 q F H σ T _ hR ?_
    cases r1 with
    | ex x ρ' => cases eq; exact hP.px
    | ok cc ρ1 =>
      rw [bS_ok] at eq
      intro F1 H1 v s1 R1
      split at eq
      · rename_i d
        split at eq
        · rename_i c' es q2
          split at eq
          · rename_i hc
            obtain ⟨hc, hl⟩ := hc
            subst hc
            cases eq
            obtain ⟨w, g1, R'⟩ := R.take R1 (join_some q2)
            obtain ⟨A, cr⟩ := R'.cr
            cases cr with
            | ins k1 k2 k3 k4 k5 =>
              obtain ⟨m1, m2⟩ := hC _ k1
              refine ⟨_, g1, _, _, _, _, rfl, k2, m1, m2, by rw [ks_len k5]; exact hl, ?_⟩
              have rv : Rp G.K F1 v d := R1.rp
              have R2 : G.R F1 (upd H1 _ (.ins _ _ (putF f v _))) (ρ1.set k none) σ ((.ins c' (putFD f d es), .ref _) :: (.fz d, v) :: T) :=
                .mk' (R'.hr'.mut (fun A h => by cases h; rfl) (.ins k1 upd_same k3 k4 (putF_rp rv k5))) R'.ok
              have hk : k < ρ1.length := (List.getElem?_eq_some_iff.mp (join_some q2)).1
              have R3 := R.put R2 (c := .ins c' (putFD f d es)) (i := k) (by rw [List.getElem?_set_self hk]) g1
              rw [List.set_set] at R3
              exact hP F1 _ σ s1 R3.tail (Kp.refl _)
          · cases eq
        · cases eq
      · cases eq
end
end L3

set_option maxHeartbeats 1000000
namespace L2
open PySem PySem.Spec PyProof.Rows
open L3 (ExT)
theorem exT_ok {P : Program} {w : World} {H : Hp} {h : Heap} {cls : Value} {d : Option Addr} {a : Addr} {oe : Obj} {vs : Array Value} (e : h.get? a = some oe) (z : Zc cls d oe) (dd : oe.data = .fields vs) : ObjOk P w H h a (ExT cls d a) :=
  ⟨⟨oe, vs, e, z, dd⟩, ⟨oe, e⟩, fun _ _ ⟨o, v, q, r⟩ k => ⟨o, v, k o q, r⟩⟩
theorem exT_at {P : Program} {w : World} {H : Hp} {h : Heap} {cls : Value} {d : Option Addr} {a : Addr} (hok : HOk P w H h) (he : H a = some (ExT cls d a)) : ∃ (oe : Obj) (vs : Array Value), h.get? a = some oe ∧ Zc cls d oe ∧ oe.data = .fields vs := by
  have x : ObjOk P w H h a (.ext fun h => ∃ (oe : Obj) (vs : Array Value), h.get? a = some oe ∧ Zc cls d oe ∧ oe.data = .fields vs) := hok a _ he
  exact x.1
section
variable {X : Cx} {pins : List (Addr × Obj)} {σ : St} {H : Hp} {s : Shared}
/-- an exception's object, new since the entry, is tracked -/
theorem Inv.track {a : Addr} {oe : Obj} {vs : Array Value} {cls : Value} {d : Option Addr} (I : Inv X pins σ H s) (ha : H a = none) (ho : s.heap.get? a = some oe) (hz : Zc cls d oe) (hd : oe.data = .fields vs) (n0 : X.s_0.heap.get? a = none) (nL : a ≠ X.env.locals) (np : ∀ p ∈ X.pn ++ pins, p.1 ≠ a) :
    Inv X pins σ (upd H a (ExT cls d a)) s := by
  have out : ∀ {b o}, H b = some o → upd H a (ExT cls d a) b = some o := fun {b o} e => (upd_ne fun z => by rw [z, ha] at e; exact nomatch e).trans e
  have old : ∀ {b o}, X.s_0.heap.get? b = some o → upd H a (ExT cls d a) b = H b := fun {b o} e => upd_ne fun z => by rw [z, n0] at e; exact nomatch e
  have base : Un X.fs X.ex X.H_0 (upd H a (ExT cls d a)) X.s_0.heap s.heap :=
    { keep := I.base.keep, slot := I.base.slot, there := I.base.there, free := fun b o e n hq => (old e).trans (I.base.free b o e n hq), tups := fun b xs e => out (I.base.tups b xs e), frzs := fun b o u e => out (I.base.frzs b o u e),
      tbls := fun b ps e => (I.base.tbls b ps e).imp fun _ => out }
  have cells : ∀ x c, X.env.cells.lookup x = some c → c ≠ a := fun x c e z => by
    have ⟨v, o, q, hc⟩ := I.cell x c e
    cases (z ▸ q).symm.trans ho
    exact nomatch hd.symm.trans hc
  exact { ok := I.ok, os := I.os, bare := I.bare, base := base, loc := I.loc, cell := I.cell, len := I.len, hok := I.hok.laidN (fun _ _ q => q) ha (exT_ok ho hz hd),
          free := (upd_ne nL.symm).trans I.free, freeC := fun x c e => (upd_ne (cells x c e)).trans (I.freeC x c e), pin := fun p hp => ⟨(I.pin p hp).1, (upd_ne (np p hp)).trans (I.pin p hp).2.1, (I.pin p hp).2.2⟩ }
end
/-! ### try: .. except c as n: .., the exception kept -/
def wKeep (K : PySem.W.Frag) (i : Nat) (Wout : WX) (D : Ends) (c : Value) (ts : TS) : WX := fun cls d σ H => ∃ b, PySem.W.exmOne K cls c = some b ∧
  (b = true → ∀ a, H a = none → ts { nx := fun σ' H' => H' a = none → D.nx (σ'.set i none) (upd H' a (ExT cls d a)), rt := fun _ _ => False } (σ.set i (some (.ref a))) H) ∧ (b = false → Wout cls d σ H)
section
variable {X : Cx} {B : Heap} {pins : List (Addr × Obj)} {σ : St} {H : Hp} {s t : Shared} {a : Addr} {cls : Value} {d : Option Addr}
/-- what flies over B did not stand at the entry, -/
theorem Cau.since (C : Cau X B pins σ H a cls d t) (I : Inv X pins σ H s) (hs : X.stack = X.env :: X.outer) (hex : X.ex = []) (nb : ∀ b o, s.heap.get? b = some o → b ∉ frs X.stack → B.get? b = some o) : X.s_0.heap.get? a = none := by
  refine Option.eq_none_iff_forall_ne_some.mpr fun o q => ?_
  have ⟨o', q'⟩ := I.base.there a o q (hex ▸ List.not_mem_nil)
  cases (nb a o' q' (hs ▸ C.off)).symm.trans C.fly.2.1
/-- and is none of the pinned -/
theorem Cau.loose (C : Cau X B pins σ H a cls d t) (I : Inv X pins σ H s) (hs : X.stack = X.env :: X.outer) (nb : ∀ b o, s.heap.get? b = some o → b ∉ frs X.stack → B.get? b = some o) : ∀ p ∈ X.pn ++ pins, p.1 ≠ a := fun p hp z => by
  cases (nb p.1 p.2 (I.pin p hp).1 (hs ▸ z ▸ C.off)).symm.trans (z ▸ C.fly.2.1)
end
section
variable {X : Cx} {n x : Str} {c : Value} {i : Nat} {body suite : List Stmt} {b₀ : Stmt} {np pos' : Pos} {ts : TS} {pos : Pos} {tb : WX → TS} {Wout : WX}
theorem ps_try_keep (hs : X.stack = X.env :: X.outer) (hf : X.env.frame = some X.env.locals) (hN : X.N.Nodup) (hi : X.N[i]? = some n) (hln : X.env.kindOf n = some .local) (hex : X.ex = []) (tk : Takes X Wout)
    (hb : ∀ W pn xe, Takes (X.tr pn xe) W → PassesOwn (model X.prog X.w) X.A X.env xe → PSs (X.tr pn xe) body (tb W))
    (hc : Names X x c) (hsu : ∀ (a : Addr) (oe : Obj) (pn : List (Addr × Obj)), PSs (X.suite a ((a, oe) :: pn)) (b₀ :: suite) ts) :
    PS X (.Try body [.ExceptHandler (some (.Name x np)) (some n) (b₀ :: suite) pos'] [] [] pos) (fun D σ H => tb (wKeep X.K i Wout D c ts) D σ H) where
  run pins s σ H D I h := by
    have ok := I.ok
    have fr : X.A.frames = some (X.env :: X.outer) := ok.frames.trans (congrArg some hs)
    refine wpAny_Try_except (wpAny_mono ((hb (wKeep X.K i Wout D c ts) (X.pn ++ pins) _ ?_ PassesOwn.looking).run [] s σ H D (I.toTry _) h) ?_ fun _ _ he => he)
    · rintro u st ⟨a, B, sI, _, σ', H', cls, d, rfl, J, nb, up, sky, na, os, ag, b, hm, yes, no⟩
      have J := Inv.ofTry (pins := pins) J ok
      refine Sky.land Zc.steady fr hf (hs ▸ sky) fun h3 fl up3 => ?_
      have land : ∀ h', HandSPX.FlyingZ B (X.env :: X.outer) a (Zc cls d) h' → st.heap.UpToSlots h' → Cau X B pins σ' H' a cls d { st with heap := h' } := fun h' f u => ⟨J.landed nb f.1 (up.trans u) os ag, f, na⟩
      have C := land h3 fl up3
      have test : ∀ {Q : Value → Shared → Prop} {E : Value → Shared → Prop}, Q c { st with heap := h3 } → wpAny (model X.prog X.w) (X.A.mark (some (.ref a))) (eval (.Name x np) X.env) Q E { st with heap := h3 } := fun q => by
        have ⟨_, _, _, _, S⟩ := C.open_ hf
        rcases hc with ⟨hg, hdb, hm | ⟨hm, hv, hn⟩⟩
        · exact ld_glob S hg hm q hdb
        · exact ld_blt S hg hm hv q hn hdb
      cases b with
      | false => exact PX.clause_passZ C.inv.kIn (fun _ z => z.1) C.fly hm test (PX.no_clauseZ hf C.fly fun h' hd u => tk _ _ ⟨a, B, sI, pins, σ', H', cls, d, rfl, J, nb, up.trans (up3.trans u), .inr (.inr (hs ▸ hd)), na, os, ag, no rfl⟩)
      | true =>
        refine PX.clause_asZ C.inv.kIn (fun _ z => z.1) C.fly hm test fun h' f' u' => ?_
        have C := land h' f' (up3.trans u')
        have ⟨oe, _, z, ⟨_, dd⟩, S⟩ := C.open_ hf
        refine store_ok (X := X.suite a ((a, oe) :: (X.pn ++ pins))) S hN hi (.inl hln) (v := .ref a) rfl (fun s5 S5 => wpAny_mono ((hsu a oe _).run [] s5 _ H' _ S5 (yes rfl a na)) (fun f s6 e => ?_) fun _ _ z => z.elim) (.inr hln)
        cases f with
        | next =>
          have ⟨_, _, S6, q⟩ := e
          have P := S6.pin (a, oe) (.head _)
          exact gone_ok ((S6.unsuite ok).track P.2.1 P.1 z dd (C.since J hs hex nb) (C.offL hf) (C.loose J hs nb)) hN hi hln fun _ L => ⟨_, _, L, q P.2.1⟩
        | ret u => have ⟨_, _, _, _, _, q⟩ := e; exact q.elim
        | brk => have ⟨_, _, _, q⟩ := e; exact q.elim
        | cont => have ⟨_, _, _, q⟩ := e; exact q.elim
    · intro f st e
      cases f with
      | ret u => have ⟨v, σ', H', J, r, q⟩ := e; exact ⟨v, σ', H', J.ofTry ok, r, q⟩
      | next => have ⟨σ', H', J, q⟩ := e; exact wpAny_execs_nil ⟨σ', H', J.ofTry ok, q⟩
      | brk => have ⟨σ', H', J, q⟩ := e; exact ⟨σ', H', J.ofTry ok, q⟩
      | cont => have ⟨σ', H', J, q⟩ := e; exact ⟨σ', H', J.ofTry ok, q⟩
end
/-! ### isinstance and fields of a kept exception -/
def rIsX (K : PySem.W.Frag) : List V → Hp → VK → Prop := fun xs H Q => ∃ (a D : Addr) (d : Option Addr) (c : V) (cv : Value) (b : Bool), xs = [.ref a, c] ∧ H a = some (ExT (.ref D) d a) ∧ L3.EcK K D ∧ (∀ u, RelV c u → u = cv) ∧ PySem.W.kitOne K (.ref D) cv = some b ∧
  (d = none ∨ ∃ dd fs, d = some dd ∧ H dd = some (.xd fs)) ∧ Q (.bl b) H
/-- a kept exception as the library's rules see it: its class, its dict and what stands there -/
theorem exT_inst {X : Cx} {pins : List (Addr × Obj)} {σ : St} {H : Hp} {s : Shared} {a C : Addr} {d : Option Addr} (I : Inv X pins σ H s) (h : H a = some (ExT (.ref C) d a)) :
    (d = none → ∃ oe, PySem.W.InstAt s.heap a oe C none) ∧ ∀ dd fs, d = some dd → H dd = some (.xd fs) → ∃ (oe od : Obj) (m : Str → Option Value), PySem.W.InstAt s.heap a oe C (some od) ∧ (∀ f, PySem.W.lookIn f od = some (m f)) ∧ ∀ f, RelO (fs.lookup f) (m f) := by
  have ⟨oe, vs, e, ⟨zc, zd⟩, hd⟩ := exT_at I.hok h
  have nc : PySem.W.notCls oe := by unfold PySem.W.notCls; rw [hd] <;> rfl
  refine ⟨fun e0 => ⟨oe, e, zc, nc, ?_⟩, fun dd fs e0 hx => ?_⟩
  · rw [zd, e0]; trivial
  · have ⟨m, ns, r⟩ : ObjOk X.prog X.w H s.heap dd (.xd fs) := I.hok dd _ hx
    have ⟨od, ho, l⟩ := lookIn_ns ns
    exact ⟨oe, od, m, ⟨e, zc, nc, by rw [zd, e0]; exact ho⟩, l, r⟩
theorem call_isX {X : Cx} : CallR X (.builtin "isinstance") (rIsX X.K) := by
  rintro pins s σ H xs us Q I r ⟨a, D, d, c, cv, b, rfl, ha, C, hcv, e, hdd, q⟩
  cases r with | cons rx rr => cases rr with | cons rt rn =>
  cases rn
  cases rx
  cases hcv _ rt
  have T := exT_inst I ha
  have ⟨od, oe, J⟩ : ∃ od oe, PySem.W.InstAt s.heap a oe D od := by
    rcases hdd with h0 | ⟨dd, fs, h1, h2⟩
    · exact ⟨none, T.1 h0⟩
    · have ⟨oe, od, _, J, _⟩ := T.2 dd fs h1 h2; exact ⟨some od, oe, J⟩
  exact PySem.W.kia_one (PySem.W.kitx_exc C.cl C.ga C.gg C.sub C.ac C.sp C.tk C.mr) I.kIn J e (fun z => nomatch z) fun tk => ⟨.bl b, H, I.kept (t' := tk) fun _ _ z => z, rfl, q⟩
def tXfT (K : PySem.W.Frag) (f : Str) (te : TE) : TE := fun σ H Q => te σ H fun x H1 => ∃ (a C dd : Addr) (fs : List (Str × V)) (v : V), x = .ref a ∧ H1 a = some (ExT (.ref C) (some dd) a) ∧ XfC K C ∧ PySem.W.findIn K (.ref C) f = some none ∧ H1 dd = some (.xd fs) ∧ fs.lookup f = some v ∧ Q v H1
theorem pe_xfT {X : Cx} {e : Expr} {te : TE} {pos : Pos} {n : Str} (he : PE X e te) (hb : attributeBase e n X.env (eval e X.env) = eval e X.env) : PE X (.Attribute e n pos) (tXfT X.K n te) where
  run pins s σ H Q I h := attr_of hb (thn (he.run pins s σ H _ I h) fun u s1 hh => by
    have ⟨x, H1, I1, rx, a, C, dd, fs, v, ex, hT, T, hno, ea, l, q⟩ := hh
    cases (show u = .ref a by rw [ex] at rx; exact rx)
    have ⟨oe, od, m, J, lk, rel⟩ := (exT_inst I1 hT).2 dd fs rfl ea
    have ⟨w, hw, rw'⟩ := RelO.some_of (v := v) (o := m n) (l ▸ rel n)
    exact HandSPX.exc_get I1.kIn J T.ga T.gg T.exC (PySem.W.findObj_own T.hdC hno rfl ((lk n).trans (congrArg some hw))) (handed_of rw') ⟨v, H1, I1.tok _, rw', q⟩)
end L2
namespace L3
open PySem PySem.Spec L2
section
variable {ι : Type} {G : Gd} {X : ι → Cx} {W : WX} {P : List Nat} {e : Expr} {es : List Expr} {pos : Pos} {i k : Nat} {n : Str}
def sTryK (i k : Nat) (fb : FS) (sub : Ex → Option Bool) : FS := fun n ρ => match fb n ρ with
  | some (.ex x ρ1) => match sub x with
    | some true => if i < ρ1.length ∧ k < ρ1.length then some (.nx (((ρ1.set i none).set k (some (.exn x.cls x.fs))).set i none)) else none
    | some false => some (.ex x ρ1)
    | none => none
  | o => o
theorem xs_tryK {body : List Stmt} {x : Str} {cv : Addr} {b₀ : Stmt} {np pos' : Pos} {sub : Ex → Option Bool} {fb : FS} (hK : ∀ j, (X j).K = G.K) (hs : ∀ j, (X j).stack = (X j).env :: (X j).outer) (hf : ∀ j, (X j).env.frame = some (X j).env.locals) (hN : ∀ j, (X j).N.Nodup) (hi : ∀ j, (X j).N[i]? = some n) (hln : ∀ j, (X j).env.kindOf n = some .local) (hex : ∀ j, (X j).ex = [])
    (hiP : i ∉ P) (hkP : k ∉ P) (tk : ∀ j, Takes (X j) W) (hb : ∀ Wb, XSs G (trX X Wb) Wb P body fb) (hc : ∀ j, Names (X j) x (.ref cv)) (hsub : ∀ e C b, sub e = some b → G.mg e.cls = some (.ref C) → PySem.W.exmOne G.K (.ref C) (.ref cv) = some b)
    (hsu : ∀ j a oe pn, PSs ((X j).suite a ((a, oe) :: pn)) [b₀] (tAsg (tVar i) (gName k))) : XS G X W P (.Try body [.ExceptHandler (some (.Name x np)) (some n) [b₀] pos'] [] [] pos) (sTryK i k fb sub) := by
  refine ⟨fun D σ H => (hb (wKeep G.K i W D (.ref cv) (tAsg (tVar i) (gName k)))).choose D σ H, fun j => ?_, fun m ρ o e F H σ T D hR hP => ?_⟩
  · have := ps_try_keep (X := X j) (pos := pos) (np := np) (pos' := pos') (tb := fun W' => (hb W').choose) (hs j) (hf j) (hN j) (hi j) (hln j) (hex j) (tk j) (fun W' pn xe t1 t2 => (hb W').choose_spec.1 ⟨(j, pn, xe), t1, t2⟩) (hc j) (hsu j)
    rw [hK j] at this
    exact this
  · unfold sTryK at e
    cases q : fb m ρ with
    | none => rw [q] at e; cases e
    | some o1 =>
      rw [q] at e
      refine (hb (wKeep G.K i W D (.ref cv) (tAsg (tVar i) (gName k)))).choose_spec.2 m ρ o1 q F H σ T D hR ?_
      cases o1 with
      | ex x ρ1 =>
        intro F' H' σ' cls d s' R' k' xr
        obtain ⟨C, x1, x2, x3⟩ := id xr
        dsimp only at e
        cases q2 : sub x with
        | none => rw [q2] at e; cases e
        | some b =>
          rw [q2] at e
          refine ⟨b, by rw [x2]; exact hsub x C b q2 x1, ?_, ?_⟩
          · rintro rfl a na
            dsimp only at e
            split at e
            · rename_i hl
              cases e
              have R2 := R'.gone i (some (.ref a))
              refine ⟨.ref a, List.getElem?_set_self (by rw [← R'.ok.len]; exact hl.1), fun _ => ?_⟩
              obtain ⟨s2, R3⟩ := R2.hr.newF (o := ExT cls d a) na
              have cr : G.CR (upd F' a (ExT cls d a)) (upd H' a (ExT cls d a)) (.exn x.cls x.fs) (.ref a) [] := by
                rw [x2]
                refine .exn x1 upd_same ?_
                rcases x3 with ⟨y1, y2⟩ | ⟨dd, fvs, y1, y2, y3⟩
                · exact .inl ⟨y1, y2⟩
                · refine .inr ⟨dd, fvs, y1, ?_, y3.mono (by rw [← x2]; exact s2)⟩
                  rw [upd_ne]
                  · exact y2
                  · intro z
                    have h1 := R'.sub _ _ y2
                    rw [z, na] at h1
                    cases h1
              have R4 : G.R (upd F' a (ExT cls d a)) (upd H' a (ExT cls d a)) (ρ1.set i none) (σ'.set i (some (.ref a))) ((.exn x.cls x.fs, .ref a) :: T) := by
                obtain ⟨sb, A, nd, hl⟩ := R3
                exact .mk' ⟨sb, [] ++ A, nd, .cons cr hl⟩ R2.ok
              have R5 := R4.set (i := k) (by rw [List.length_set]; exact hl.2)
              exact hP _ _ _ (s'.trans s2) (R5.gone i none) (k'.trans ((Kp.set hiP).trans ((Kp.set hkP).trans (Kp.set hiP))))
            · cases e
          · rintro rfl
            cases e
            exact hP F' H' σ' cls d s' R' k' xr
      | nx ρ1 => cases e; exact hP
      | rt c ρ1 => cases e; exact hP
      | bk ρ1 => cases e; exact hP
      | ct ρ1 => cases e; exact hP
def fIsX (sub : Ex → Option Bool) (f : Fn Bv) : Fn Cl := fun n ρ => bnd (f n ρ) fun b ρ1 => match lk ρ1 b with
  | some (.exn c fs) => match sub ⟨c, fs⟩ with
    | some r => some (.ok (.fz (.bool r)) ρ1)
    | none => none
  | _ => none
theorem snd_isX {sub : Ex → Option Bool} {f : Fn Bv} {t t2 : TE} {c : V} {cv : Value} (ht2 : ∀ σ H Q, Q c H → t2 σ H Q) (hcv : ∀ u, RelV c u → u = cv) (hsub : ∀ e C b, sub e = some b → G.mg e.cls = some (.ref C) → EcK G.K C ∧ PySem.W.kitOne G.K (.ref C) cv = some b) (h : SndB G W t f) : SndE G W (tCB (rIsX G.K) (tCons t (tCons t2 tNil))) (fIsX sub f) := fun n ρ r eq F H σ T Q hR hP => by
  unfold fIsX at eq
  cases q : f n ρ with
  | none => rw [q] at eq; cases eq
  | some r1 =>
    rw [q] at eq
    refine h n ρ r1 q F H σ T _ hR ?_
    cases r1 with
    | ex x ρ' => cases eq; exact hP
    | ok b ρ1 =>
      rw [bnd_ok] at eq
      intro F1 H1 v s1 R1 v1
      split at eq
      · rename_i cc es q2
        split at eq
        · rename_i rb q3
          cases eq
          obtain ⟨A, cr⟩ := bv_cr R1 bvT_nil v1 q2
          cases cr with
          | exn k1 k2 k3 =>
            obtain ⟨m1, m2⟩ := hsub ⟨cc, es⟩ _ rb q3 k1
            refine ht2 _ _ _ ?_
            refine ⟨_, _, _, c, cv, rb, rfl, R1.sub _ _ k2, m1, hcv, m2, ?_, hP F1 H1 _ s1 ((bvT_drop b _ R1).push (.bl rb))⟩
            rcases k3 with ⟨_, y⟩ | ⟨dd, kvs, y1, y2, y3⟩
            · exact .inl y
            · exact .inr ⟨dd, kvs, y1, R1.sub _ _ y2⟩
        · cases eq
      · cases eq
theorem xe_isX {sub : Ex → Option Bool} {x : Str} {cv : Addr} {p p2 : Pos} {f : Fn Bv} (hK : ∀ i, (X i).K = G.K) (hg : ∀ i, Gl (X i) "isinstance") (hm : ∀ i, (X i).mg "isinstance" = none) (hgT : ∀ i, Gl (X i) x) (hmC : ∀ i, (X i).mg x = some (.ref cv)) (hcd : (x == ("__debug__" : Str)) = false) (ha : XB G X W e f)
    (hsub : ∀ e C b, sub e = some b → G.mg e.cls = some (.ref C) → EcK G.K C ∧ PySem.W.kitOne G.K (.ref C) (.ref cv) = some b)
    (hs1 : ∀ i, starEach [e, .Name x p2] (X i).env = (false, eval e (X i).env) :: starEach [.Name x p2] (X i).env) (hs2 : ∀ i, starEach [.Name x p2] (X i).env = (false, eval (.Name x p2) (X i).env) :: starEach [] (X i).env) (hpl : ∀ i, (backTo pos (starEach [.Name x p2] (X i).env)).any (·.1) = false) :
    XE G X W (.Call (.Name "isinstance" p) [e, .Name x p2] [] pos) (fIsX sub f) := by
  obtain ⟨t, h1, h2⟩ := ha
  refine ⟨_, fun i => by
    have := pe_callB (x := "isinstance") (p := p) (pos := pos) call_isX (hg i) (hm i) (by decide +kernel) (pa_cons (h1 i) (pa_cons (pe_glob (v := .ref cv) (hgT i) (hmC i) rfl hcd) pa_nil (hs2 i)) (hs1 i)) (by decide) (by decide) (hs1 i) (hpl i)
    rw [hK i] at this
    exact this, snd_isX (c := .ref cv) (cv := .ref cv) (fun σ H Q q => q) (fun u h => h) hsub h2⟩
theorem xe_isXT {sub : Ex → Option Bool} {x : Str} {T : String} {p p2 : Pos} {f : Fn Bv} (hK : ∀ i, (X i).K = G.K) (hg : ∀ i, Gl (X i) "isinstance") (hm : ∀ i, (X i).mg "isinstance" = none) (hgT : ∀ i, Gl (X i) x) (hmT : ∀ i, (X i).mg x = none) (hv : bootBuiltins x = some (.type T)) (hx : x ≠ "__name__") (hxd : (x == ("__debug__" : Str)) = false) (ha : XB G X W e f)
    (hsub : ∀ e C b, sub e = some b → G.mg e.cls = some (.ref C) → EcK G.K C ∧ PySem.W.kitOne G.K (.ref C) (.type T) = some b)
    (hs1 : ∀ i, starEach [e, .Name x p2] (X i).env = (false, eval e (X i).env) :: starEach [.Name x p2] (X i).env) (hs2 : ∀ i, starEach [.Name x p2] (X i).env = (false, eval (.Name x p2) (X i).env) :: starEach [] (X i).env) (hpl : ∀ i, (backTo pos (starEach [.Name x p2] (X i).env)).any (·.1) = false) :
    XE G X W (.Call (.Name "isinstance" p) [e, .Name x p2] [] pos) (fIsX sub f) := by
  obtain ⟨t, h1, h2⟩ := ha
  refine ⟨_, fun i => by
    have := pe_callB (x := "isinstance") (p := p) (pos := pos) call_isX (hg i) (hm i) (by decide +kernel) (pa_cons (h1 i) (pa_cons (pe_bltn (v := .ty T) (hgT i) (hmT i) hv rfl hx hxd) pa_nil (hs2 i)) (hs1 i)) (by decide) (by decide) (hs1 i) (hpl i)
    rw [hK i] at this
    exact this, snd_isX (c := .ty T) (cv := .type T) (fun σ H Q q => q) (fun u h => h) hsub h2⟩
def fXFld (cs : List Str) (f : Str) (fo : Fn Bv) : Fn Cl := fun n ρ => bnd (fo n ρ) fun b ρ1 => match lk ρ1 b with
  | some (.exn c fs) => match seF cs f ⟨c, fs⟩ with
    | some d => some (.ok (.fz d) ρ1)
    | none => none
  | _ => none
theorem xe_xfld {cs : List Str} {f : Str} {fo : Fn Bv} (hK : ∀ i, (X i).K = G.K) (hC : ∀ c C, cs.contains c = true → G.mg c = some (.ref C) → XfC G.K C ∧ PySem.W.findIn G.K (.ref C) f = some none) (ho : XB G X W e fo) (hb : ∀ i, attributeBase e f (X i).env (eval e (X i).env) = eval e (X i).env) : XE G X W (.Attribute e f pos) (fXFld cs f fo) := by
  obtain ⟨t, h1, h2⟩ := ho
  refine ⟨tXfT G.K f t, fun i => by have := pe_xfT (pos := pos) (h1 i) (hb i); rw [hK i] at this; exact this, fun n ρ r eq F H σ T Q hR hP => ?_⟩
  unfold fXFld at eq
  cases q : fo n ρ with
  | none => rw [q] at eq; cases eq
  | some r1 =>
    rw [q] at eq
    refine h2 n ρ r1 q F H σ T _ hR ?_
    cases r1 with
    | ex x ρ' => cases eq; exact hP
    | ok b ρ1 =>
      rw [bnd_ok] at eq
      intro F1 H1 v s1 R1 v1
      split at eq
      · rename_i cc es q2
        split at eq
        · rename_i d q3
          cases eq
          obtain ⟨A, cr⟩ := bv_cr R1 bvT_nil v1 q2
          unfold seF at q3
          dsimp only at q3
          split at q3
          · rename_i hc
            cases cr with
            | exn k1 k2 k3 =>
              obtain ⟨m1, m2⟩ := hC _ _ hc k1
              rcases k3 with ⟨y, _⟩ | ⟨dd, kvs, y1, y2, y3⟩
              · rw [y] at q3; cases q3
              · obtain ⟨w, l, rw'⟩ := lookup_ks y3 q3
                subst y1
                exact ⟨_, _, dd, kvs, w, rfl, R1.sub _ _ k2, m1, m2, R1.sub _ _ y2, l, hP F1 H1 w s1 ((bvT_drop b _ R1).push rw')⟩
          · cases q3
        · cases eq
      · cases eq
/-- {k1: v1, k2: v2} of constants -/
def fDct2c (k1 : Int) (d1 : D) (k2 : Int) (d2 : D) : Fn Cl := fun _ ρ => some (.ok (.dct [(.inl k1, d1), (.inl k2, d2)]) ρ)
theorem xe_dct2c {k1 k2 : Int} {d1 d2 : D} {v1 v2 : V} {e1 e2 f1 f2 : Expr} (hne : k2 ≠ k1) (a1 : ∀ i, PE (X i) e1 (tC (.int k1))) (b1 : ∀ i, PE (X i) f1 (tC v1)) (a2 : ∀ i, PE (X i) e2 (tC (.int k2))) (b2 : ∀ i, PE (X i) f2 (tC v2)) (r1 : ∀ F, Rp G.K F v1 d1) (r2 : ∀ F, Rp G.K F v2 d2) :
    XE G X W (.Dict [some e1, some e2] [f1, f2] pos) (fDct2c k1 d1 k2 d2) := by
  refine ⟨_, fun i => pe_disp (pps_cons (a1 i) (b1 i) (pps_cons (a2 i) (b2 i) pps_nil)) rfl rfl (by simp) (by simp), fun n ρ r eq F H σ T Q hR hP => ?_⟩
  cases eq
  intro p hp
  have fp : F p = none := by
    cases q : F p with
    | none => rfl
    | some o => rw [hR.sub _ _ q] at hp; cases hp
  refine ⟨upd_same, [(.inl k1, v1), (.inl k2, v2)], rfl, by simp, ?_⟩
  have e : mergeK [] [((.inl k1 : Key), v1), (.inl k2, v2)] = [(.inl k1, v1), (.inl k2, v2)] := by
    have ne : ¬ ((.inl k1 : Key) = .inl k2) := fun z => hne (Sum.inl.inj z).symm
    simp [mergeK, putK, ne]
  rw [e, upd_upd]
  exact hP F _ _ (Same.refl _) (.mk' (hR.hr.newO hp (.dct upd_same fp (.cons (r1 F) (.cons (r2 F) .nil)))) hR.ok)
/-! ### tables -/
theorem one_c {c : Str} {C0 : Addr} {Pr : Addr → Prop} (h : G.mg c = some (.ref C0)) (hp : Pr C0) : ∀ C, G.mg c = some (.ref C) → Pr C := fun C e => by
  rw [h] at e
  cases e
  exact hp
theorem memc {α : Type} {p : α → Prop} {x : α} {l : List α} (h : p x) (r : ∀ y ∈ l, p y) : ∀ y ∈ x :: l, p y := fun y hy => by
  rcases List.mem_cons.mp hy with e | hy
  · rw [e]; exact h
  · exact r y hy
def kbRow (K : PySem.W.Frag) (cv : Value) (l : List (Addr × Bool)) : Bool := l.all fun p => decide (PySem.W.kitOne K (.ref p.1) cv = some p.2)
theorem kb_sub {cv : Value} {l : List (Str × Addr)} {bs : List Bool} {tb : List (Str × Bool)} (h1 : ∀ p ∈ l, G.mg p.1 = some (.ref p.2) ∧ EcK G.K p.2) (h2 : kbRow G.K cv ((l.map (·.2)).zip bs) = true) (e : tb = (l.map (·.1)).zip bs) :
    ∀ e C b, tblO tb e = some b → G.mg e.cls = some (.ref C) → EcK G.K C ∧ PySem.W.kitOne G.K (.ref C) cv = some b := by
  subst e
  intro x C b q m
  unfold tblO at q
  induction l generalizing bs with
  | nil => cases q
  | cons p l ih =>
    obtain ⟨c, a⟩ := p
    cases bs with
    | nil => cases q
    | cons b0 bs =>
      unfold kbRow at h2
      simp only [List.map_cons, List.zip_cons_cons, List.all_cons, Bool.and_eq_true] at h2
      simp only [List.map_cons, List.zip_cons_cons, List.lookup_cons] at q
      split at q
      · rename_i z
        cases q
        obtain ⟨m1, m2⟩ := h1 (c, a) List.mem_cons_self
        have ec : x.cls = c := by simpa using z
        rw [ec] at m
        rw [m1] at m
        cases m
        exact ⟨m2, of_decide_eq_true h2.1⟩
      · exact ih (fun p hp => h1 p (List.mem_cons_of_mem _ hp)) (by unfold kbRow; exact h2.2) q
def clsNth (s : Stmt) (j : Nat) : Stmt := match s with
  | .ClassDef (body := b) .. => b.getD j (.Pass ⟨0, 0, 0, 0⟩)
  | _ => s
end
end L3

set_option maxHeartbeats 1000000
namespace L2
open PySem PySem.Spec PyProof.Rows
/-- len(o), o an instance of the class at C -/
def rLenO (C : Addr) (sp : Sp) : List V → Hp → VK → Prop := fun xs H Q => ∃ a dx fs, xs = [.ref a] ∧ H a = some (.ins C dx fs) ∧ sp [.ref a] H (fun v H2 => ∃ n : Int, v = .int n ∧ 0 ≤ n ∧ n < 2 ^ 63 ∧ Q (.int n) H2) E0
theorem call_lenO {X : Cx} {k : Nat} {C f : Addr} {fd : FuncData} {ps : List Str} {sp : Sp} (hs : PySem.W.findIn X.K (.ref C) "__len__" = some (some (.ref f))) (hf : PySem.W.isFn X.K (.ref f) = true)
    (F : FnOk X.prog X.w X.K X.mg X.base (L2.CX X.prog X.w) k f fd ps sp) (hr : Room (k + 1) X.A) (hb : Binds X.K fd ps []) : CallR X (.builtin "len") (rLenO C sp) := by
  intro pins s σ H xs us Q I r ⟨a, dx, fs, e, ea, h⟩
  subst e
  cases r with
  | cons ru rn =>
    cases rn
    rename_i u
    obtain rfl : u = Value.ref a := ru
    obtain ⟨mA, O, _, _, _, _⟩ := ins_get I.hok ea
    obtain ⟨od, J, _⟩ := O.look
    obtain ⟨_, fr⟩ := I.fr
    refine PySem.W.len_K fr I.ok.mod.kin J hs hf ?_
    have hl : [Value.ref a].length = ps.length := F.len _ _ _ _ h
    have b := hb s [Value.ref a] I.kIn (by rw [List.append_nil]; exact hl)
    rw [List.append_nil] at b
    refine wpAny_call (codeAny_mono (F.run X.A.in1 X.stack s H ⟨[Value.ref a], []⟩ [Value.ref a] [V.ref a] _ E0 hr.in1 I.env0.in1 b (.cons rfl .nil) h) fun r s' hq => ?_)
    cases r with
    | error er => exact passL pins σ H s er s' I hq
    | ok fl =>
      cases fl with
      | ret u =>
        obtain ⟨v, H', I3, rv, n, ev, n0, n1, q⟩ := I.after hq
        subst ev
        obtain ⟨t, rfl⟩ := rv
        exact ⟨⟨n0, n1⟩, .int n, H', I3.tok _, ⟨_, rfl⟩, q⟩
      | next => exact hq.elim
      | brk => exact hq.elim
      | cont => exact hq.elim
/-- two lists, each one's own or a constant -/
def rCatL (K : PySem.W.Frag) : R2 := fun x y H Q => ∃ a b xs ys, x = .ref a ∧ y = .ref b ∧ SqL K H a xs ∧ SqL K H b ys ∧ xs.length + ys.length ≤ sizeLine ∧ ∀ p, H p = none → Q (.ref p) (upd H p (.lst (xs ++ ys)))
theorem op_catL {X : Cx} : OpR X (binaryOp .Add) (rCatL X.K) := by
  intro pins s σ H x y v u Q I rx ry ⟨a, b, xs, ys, ex, ey, h1, h2, hz, q⟩
  subst ex
  subst ey
  obtain rfl : v = Value.ref a := rx
  obtain rfl : u = Value.ref b := ry
  obtain ⟨i1, r1, ⟨⟨c1, d1, t1, l1⟩, n1, g1, k1, _, e1⟩, _⟩ := I.list h1
  obtain ⟨i2, r2, ⟨⟨c2, d2, t2, l2⟩, n2, g2, k2, _, e2⟩, _⟩ := I.list h2
  dsimp only at k1 k2 e1 e2
  subst k1 k2 e1 e2
  have ea : i1.toArray ++ i2.toArray = (i1 ++ i2).toArray := by simp
  refine concat_meets ⟨_, g1, rfl⟩ ⟨_, g2, rfl⟩ noFill_list_add seq_list_add PySem.F.slot_list_add PySem.F.entry_list_add (PySem.F.args_list_add_2 _ _) (list_addW a b i1.toArray i2.toArray n1 n2 d1 d2 l1 l2 (by rw [List.size_toArray, List.size_toArray, ← r1.length, ← r2.length]; exact hz)) ⟨g1, g2, ?_⟩
  rw [ea]
  exact ⟨.ref _, _, I.lnew (t' := s.toks) (r1.append r2) (by rw [List.length_append]; exact hz), rfl, q _ I.fresh⟩
end L2
namespace L3
open PySem PySem.Spec L2
/-- + of two lists, frozen ones too; of others as gAdd -/
def rAddX (K : PySem.W.Frag) : R2 := fun x y H Q => rAddA K x y H Q ∨ rCatL K x y H Q
theorem op_addX {X : Cx} : OpR X (binaryOp .Add) (rAddX X.K) := op_addA.or op_catL
def gAddX : List Cl → Option Cl
  | [a, b] => match a.data, b.data with
    | some (.list xs), some (.list ys) => if lsz (xs.length + ys.length) = true then some (.lst (xs ++ ys)) else none
    | _, _ => gAdd [a, b]
  | _ => none
theorem prm_addX {G : Gd} : Prm G (l2 (rAddX G.K)) gAddX := fun F H L cs vs c Q hr hc e hQ => by
  unfold gAddX at e
  split at e
  · rename_i a b
    split at e
    · rename_i xs ys q1 q2
      split at e
      · rename_i hz
        cases e
        obtain ⟨v1, v2, A1, A2, rfl, h1, h2⟩ := crs2 hc
        obtain ⟨p1, w1, rfl, s1, r1⟩ := h1.seqL hr.sub q1
        obtain ⟨p2, w2, rfl, s2, r2⟩ := h2.seqL hr.sub q2
        exact .inr ⟨_, _, _, _, rfl, rfl, s1, s2, by rw [r1.length, r2.length]; exact lsz_ok hz, fun p hp => hQ F _ _ (Same.refl _) (HR.lstN hr hp (r1.append r2))⟩
      · cases e
    · obtain ⟨v1, v2, A1, A2, rfl, h1, h2⟩ := crs2 hc
      exact .inl (prm_add F H L [a, b] [v1, v2] c Q hr hc e hQ)
  · cases e
section
variable {ι : Type} {G : Gd} {X : ι → Cx} {W : WX} {P : List Nat} {e o : Expr} {es : List Expr} {pos apos p : Pos}
/-! ### a property read, len(o): calls of the class's own defs that let nothing out -/
def callP (c : Str) (m : Mr) (ρ : En) (b : Bv) : Option (Cl × En) := match lk ρ b with
  | some (.ins c' _) => if c' = c then match takeA ρ [b] with
    | some (cs, ρ2) => match m cs with
      | some (.ok c1 outs) => some (c1, giveA ρ2 [b] outs)
      | _ => none
    | none => none
    else none
  | _ => none
theorem callP_ok {c : Str} {C : Addr} {m : Mr} {ρ ρ' : En} {b : Bv} {c1 : Cl} {F1 H1 : Hp} {σ : L2.St} {T : List (Cl × V)} {v : V} {Q : VK} (gC : G.mg c = some (.ref C)) (e : callP c m ρ b = some (c1, ρ')) (R1 : G.R F1 H1 ρ σ (bvT b v T)) (v1 : bvV σ b v)
    (hP : ∀ (F' H' : Hp) (v' : V), Same F1 F' → G.R F' H' ρ' σ ((c1, v') :: T) → Q v' H') : ∃ a dx fs, v = .ref a ∧ H1 a = some (.ins C dx fs) ∧ spM G 1 m [.ref a] H1 Q E0 := by
  unfold callP at e
  split at e
  · rename_i c' es q2
    split at e
    · rename_i hc
      subst hc
      obtain ⟨A, cr⟩ := bv_cr R1 bvT_nil v1 q2
      cases cr with
      | ins k1 k2 k3 k4 k5 =>
        have eC := k1.symm.trans gC
        cases eC
        refine ⟨_, _, _, rfl, k2, ?_⟩
        cases q3 : takeA ρ [b] with
        | none => rw [q3] at e; cases e
        | some pp =>
          obtain ⟨cs, ρ2⟩ := pp
          rw [q3] at e
          dsimp only at e
          have vv : bvVs σ [b] [.ref _] := ⟨v1, trivial⟩
          obtain ⟨hh, ok2, lc⟩ := take_many (bs := [b]) R1 vv q3
          cases q4 : m cs with
          | none => rw [q4] at e; cases e
          | some o =>
            rw [q4] at e
            cases o with
            | ok c2 outs =>
              cases e
              exact ⟨rfl, cs, F1, eL ρ2 σ ++ T, _, lc, hh, q4, fun F' H' v' s' h' => hP F' H' v' s' (give_many (T := (c1, v') :: T) h'.rot ok2 vv)⟩
            | ex x outs => cases e
    · cases e
  · cases e
def fProp (c : Str) (m : Mr) (fo : Fn Bv) : Fn Cl := fun n ρ => bnd (fo n ρ) fun b ρ1 => match callP c m ρ1 b with
  | some (c1, ρ2) => some (.ok c1 ρ2)
  | none => none
theorem xe_prop {c f : Str} {C p g : Addr} {fd : FuncData} {ps : List Str} {k : Nat} {m : Mr} {fo : Fn Bv} (Fk : ∀ i, FnOk (X i).prog (X i).w (X i).K (X i).mg (X i).base (L2.CX (X i).prog (X i).w) k g fd ps (spM G 1 m)) (hr : ∀ i, Room (k + 1) (X i).A)
    (cC : ∀ i, Cls (X i).K C) (hp : ∀ i, PropOf (X i).K C f p g) (gC : G.mg c = some (.ref C)) (hb : ∀ i, Binds (X i).K fd ps []) (ho : XB G X W o fo) (hab : ∀ i, attributeBase o f (X i).env (eval o (X i).env) = eval o (X i).env) : XE G X W (.Attribute o f pos) (fProp c m fo) := by
  obtain ⟨t, h1, h2⟩ := ho
  refine ⟨_, fun i => pe_prop (ds := []) (dvs := []) (E := E0) (h1 i) (cC i) (hp i) (Fk i) (hr i) (hb i) .nil passL (hab i), fun n ρ r eq F H σ T Q hR hP => ?_⟩
  unfold fProp at eq
  cases q : fo n ρ with
  | none => rw [q] at eq; cases eq
  | some r1 =>
    rw [q] at eq
    refine h2 n ρ r1 q F H σ T _ hR ?_
    cases r1 with
    | ex x ρ' => cases eq; exact hP
    | ok b ρ1 =>
      rw [bnd_ok] at eq
      intro F1 H1 v s1 R1 v1
      cases q2 : callP c m ρ1 b with
      | none => rw [q2] at eq; cases eq
      | some pp =>
        obtain ⟨c1, ρ2⟩ := pp
        rw [q2] at eq
        cases eq
        obtain ⟨a, dx, fs, ev, ea, sp⟩ := callP_ok (Q := Q) gC q2 R1 v1 fun F' H' v' s' R' => hP F' H' v' (s1.trans s') R'
        exact ⟨a, dx, fs, ev, ea, sp⟩
def fLenO (c : Str) (m : Mr) (fo : Fn Bv) : Fn Cl := fun n ρ => bnd (fo n ρ) fun b ρ1 => match callP c m ρ1 b with
  | some (.fz (.int i), ρ2) => if (decide (0 ≤ i) && Nat.ble i.natAbs 1000000) = true then some (.ok (.i i) ρ2) else none
  | _ => none
theorem xe_lenO {c x : Str} {C f : Addr} {fd : FuncData} {ps : List Str} {k : Nat} {m : Mr} {fo : Fn Bv} (Fk : ∀ i, FnOk (X i).prog (X i).w (X i).K (X i).mg (X i).base (L2.CX (X i).prog (X i).w) k f fd ps (spM G 1 m)) (hr : ∀ i, Room (k + 1) (X i).A)
    (hs : ∀ i, PySem.W.findIn (X i).K (.ref C) "__len__" = some (some (.ref f))) (hf : ∀ i, PySem.W.isFn (X i).K (.ref f) = true) (gC : G.mg c = some (.ref C)) (hb : ∀ i, Binds (X i).K fd ps []) (hg : ∀ i, Gl (X i) x) (hm : ∀ i, (X i).mg x = none) (hv : bootBuiltins x = some (.builtin "len"))
    (hn : x ≠ "__name__") (hdb : (x == ("__debug__" : Str)) = false) (ho : XB G X W o fo) (he : ∀ i, starEach [o] (X i).env = (false, eval o (X i).env) :: starEach [] (X i).env) (hpl : ∀ i, (backTo pos (starEach [] (X i).env)).any (·.1) = false) :
    XE G X W (.Call (.Name x p) [o] [] pos) (fLenO c m fo) := by
  obtain ⟨t, h1, h2⟩ := ho
  refine ⟨_, fun i => pe_callB (call_lenO (hs i) (hf i) (Fk i) (hr i) (hb i)) (hg i) (hm i) hv (pa_cons (h1 i) pa_nil (hs := he i)) hn hdb (he i) (hpl i), fun n ρ r eq F H σ T Q hR hP => ?_⟩
  unfold fLenO at eq
  cases q : fo n ρ with
  | none => rw [q] at eq; cases eq
  | some r1 =>
    rw [q] at eq
    refine h2 n ρ r1 q F H σ T _ hR ?_
    cases r1 with
    | ex x ρ' => cases eq; exact hP
    | ok b ρ1 =>
      rw [bnd_ok] at eq
      intro F1 H1 v s1 R1 v1
      split at eq
      · rename_i i ρ2 q2
        split at eq
        · rename_i hi
          cases eq
          rw [Bool.and_eq_true] at hi
          have i0 : 0 ≤ i := of_decide_eq_true hi.1
          have i1 : i.natAbs ≤ 1000000 := Nat.le_of_ble_eq_true hi.2
          obtain ⟨a, dx, fs, ev, ea, sp⟩ := callP_ok (Q := fun v H2 => ∃ n : Int, v = .int n ∧ 0 ≤ n ∧ n < 2 ^ 63 ∧ Q (.int n) H2) gC q2 R1 v1 fun F' H' v' s' R' => by
            have rv := R'.rp
            cases rv
            exact ⟨i, rfl, i0, by omega, hP F' H' _ (s1.trans s') R'⟩
          subst ev
          exact ⟨a, dx, fs, rfl, ea, sp⟩
        · cases eq
      · cases eq
end
end L3

set_option maxHeartbeats 1000000
namespace L3
open PySem PySem.Spec L2 PyProof.Rows
/-! ### sorted(xs), xs a list of rows: lists of ints, or tuples of ints -/
def leR : List Int → List Int → Bool
  | [], _ => true
  | _ :: _, [] => false
  | x :: xs, y :: ys => if x = y then leR xs ys else decide (x < y)
theorem leR_eq : ∀ xs ys : List Int, leR xs ys = decide (xs ≤ ys)
  | [], ys => by simp [leR]
  | x :: xs, [] => by simp [leR]
  | x :: xs, y :: ys => by
    unfold leR
    rw [leR_eq xs ys]
    by_cases h : x = y
    · subst h; simp [List.cons_le_cons_iff]
    · rw [if_neg h]; simp [List.cons_le_cons_iff, h]
theorem leR_refl : ∀ xs : List Int, leR xs xs = true
  | [] => rfl
  | x :: xs => by unfold leR; rw [if_pos rfl]; exact leR_refl xs
theorem leR_anti : ∀ xs ys : List Int, leR xs ys = true → leR ys xs = true → xs = ys
  | [], [], _, _ => rfl
  | [], y :: ys, _, h => by cases h
  | x :: xs, [], h, _ => by cases h
  | x :: xs, y :: ys, h, h' => by
    unfold leR at h h'
    by_cases e : x = y
    · subst e
      rw [if_pos rfl] at h h'
      rw [leR_anti xs ys h h']
    · rw [if_neg e] at h
      rw [if_neg (Ne.symm e)] at h'
      have := of_decide_eq_true h
      have := of_decide_eq_true h'
      omega
theorem leR_trans : ∀ xs ys zs : List Int, leR xs ys = true → leR ys zs = true → leR xs zs = true
  | [], _, _, _, _ => by unfold leR; rfl
  | x :: xs, [], _, h, _ => by cases h
  | x :: xs, y :: ys, [], _, h => by cases h
  | x :: xs, y :: ys, z :: zs, h, h' => by
    unfold leR at h h' ⊢
    by_cases e : x = y
    · subst e
      rw [if_pos rfl] at h
      by_cases e2 : x = z
      · subst e2
        rw [if_pos rfl] at h' ⊢
        exact leR_trans xs ys zs h h'
      · rw [if_neg e2] at h' ⊢
        exact h'
    · rw [if_neg e] at h
      have h1 := of_decide_eq_true h
      by_cases e2 : y = z
      · subst e2
        rw [if_neg e]
        exact h
      · rw [if_neg e2] at h'
        have h2 := of_decide_eq_true h'
        rw [if_neg (by omega)]
        exact decide_eq_true (by omega)
theorem leR_total : ∀ xs ys : List Int, leR xs ys = true ∨ leR ys xs = true
  | [], _ => .inl (by unfold leR; rfl)
  | x :: xs, [] => .inr (by unfold leR; rfl)
  | x :: xs, y :: ys => by
    unfold leR
    by_cases e : x = y
    · subst e
      rw [if_pos rfl, if_pos rfl]
      exact leR_total xs ys
    · rw [if_neg e, if_neg (Ne.symm e)]
      rcases Int.lt_or_gt_of_ne e with h | h
      · exact .inl (decide_eq_true h)
      · exact .inr (decide_eq_true h)
def insR (x : List Int) : List (List Int) → List (List Int)
  | [] => [x]
  | y :: ys => if leR x y = true then x :: y :: ys else y :: insR x ys
def sortR : List (List Int) → List (List Int)
  | [] => []
  | x :: xs => insR x (sortR xs)
theorem insR_perm (x : List Int) : ∀ ys : List (List Int), (insR x ys).Perm (x :: ys)
  | [] => .refl _
  | y :: ys => by
    unfold insR
    split
    · exact .refl _
    · exact (List.Perm.cons y (insR_perm x ys)).trans (.swap x y ys)
theorem sortR_perm : ∀ xs : List (List Int), (sortR xs).Perm xs
  | [] => .refl _
  | x :: xs => (insR_perm x _).trans (List.Perm.cons x (sortR_perm xs))
theorem insR_pw (x : List Int) : ∀ ys : List (List Int), ys.Pairwise (leR · · = true) → (insR x ys).Pairwise (leR · · = true)
  | [], _ => List.pairwise_singleton _ _
  | y :: ys, h => by
    have h' := List.pairwise_cons.mp h
    unfold insR
    split
    · rename_i hx
      refine List.pairwise_cons.mpr ⟨fun z hz => ?_, h⟩
      rcases List.mem_cons.mp hz with e | hz
      · rw [e]; exact hx
      · exact leR_trans _ _ _ hx (h'.1 z hz)
    · rename_i hx
      refine List.pairwise_cons.mpr ⟨fun z hz => ?_, insR_pw x ys h'.2⟩
      rcases List.mem_cons.mp ((insR_perm x ys).mem_iff.mp hz) with e | hz
      · rw [e]; exact (leR_total x y).resolve_left hx
      · exact h'.1 z hz
theorem sortR_pw : ∀ xs : List (List Int), (sortR xs).Pairwise (leR · · = true)
  | [] => .nil
  | x :: xs => insR_pw x _ (sortR_pw xs)
theorem pwR_uniq : ∀ xs ys : List (List Int), xs.Perm ys → xs.Pairwise (leR · · = true) → ys.Pairwise (leR · · = true) → xs = ys
  | [], ys, p, _, _ => (List.Perm.nil_eq p)
  | x :: xs, [], p, _, _ => by have := p.length_eq; simp at this
  | x :: xs, y :: ys, p, h1, h2 => by
    have a1 := List.pairwise_cons.mp h1
    have a2 := List.pairwise_cons.mp h2
    have e : x = y := by
      have m1 : x ∈ y :: ys := p.mem_iff.mp List.mem_cons_self
      have m2 : y ∈ x :: xs := p.mem_iff.mpr List.mem_cons_self
      rcases List.mem_cons.mp m1 with e | m1
      · exact e
      · rcases List.mem_cons.mp m2 with e | m2
        · exact e.symm
        · exact leR_anti _ _ (a1.1 y m2) (a2.1 x m1)
    subst e
    rw [pwR_uniq xs ys ((List.perm_cons x).mp p) a1.2 a2.2]
theorem merge_is (rs : List (List Int)) : rs.mergeSort (fun p q => decide (p ≤ q)) = sortR rs := by
  have e : (fun p q : List Int => decide (p ≤ q)) = leR := by funext p q; exact (leR_eq p q).symm
  rw [e]
  refine pwR_uniq _ _ ((List.mergeSort_perm rs leR).trans (sortR_perm rs).symm) (List.pairwise_mergeSort (fun a b c h h' => leR_trans a b c h h') (fun a b => ?_) rs) (sortR_pw rs)
  rcases leR_total a b with h | h <;> simp [h]
def rowD (tp : Bool) (r : List Int) : D := if tp = true then .tuple (r.map PyData.int) else .list (r.map PyData.int)
/-- rows of one kind -/
def rowsD (tp : Bool) : List D → Option (List (List Int))
  | [] => some []
  | .list ds :: r => if tp = true then none else match intsD ds, rowsD tp r with
    | some x, some xs => some (x :: xs)
    | _, _ => none
  | .tuple ds :: r => if tp = true then (if ds.length = 0 then none else match intsD ds, rowsD tp r with
    | some x, some xs => some (x :: xs)
    | _, _ => none) else none
  | _ => none
theorem rowsD_is {tp : Bool} : ∀ {ds : List D} {rs : List (List Int)}, rowsD tp ds = some rs → ds = rs.map (rowD tp) ∧ (tp = true → ∀ r ∈ rs, r ≠ [])
  | [], rs, h => by cases h; exact ⟨rfl, fun _ _ z => nomatch z⟩
  | d :: ds, rs, h => by
    cases d with
    | list es =>
      unfold rowsD at h
      split at h
      · cases h
      · rename_i ht
        cases q : intsD es with
        | none => rw [q] at h; cases h
        | some x =>
          cases q2 : rowsD tp ds with
          | none => rw [q, q2] at h; cases h
          | some xs =>
            rw [q, q2] at h
            cases h
            obtain ⟨h1, h2⟩ := rowsD_is q2
            refine ⟨?_, fun z => absurd z ht⟩
            rw [List.map_cons, ← h1, intsD_ok q]
            unfold rowD
            rw [if_neg ht]
    | tuple es =>
      unfold rowsD at h
      split at h
      · rename_i ht
        split at h
        · cases h
        · rename_i hl
          cases q : intsD es with
          | none => rw [q] at h; cases h
          | some x =>
            cases q2 : rowsD tp ds with
            | none => rw [q, q2] at h; cases h
            | some xs =>
              rw [q, q2] at h
              cases h
              obtain ⟨h1, h2⟩ := rowsD_is q2
              refine ⟨?_, fun z r hr => ?_⟩
              · rw [List.map_cons, ← h1, intsD_ok q]
                unfold rowD
                rw [if_pos ht]
              · rcases List.mem_cons.mp hr with e | hr
                · rw [e]
                  rintro rfl
                  rw [intsD_ok q] at hl
                  exact hl rfl
                · exact h2 z r hr
      · cases h
    | _ => cases h
theorem canLayZ : ∀ ns : List Int, PyData.canLayAll0 (ns.map PyData.int) = true
  | [] => rfl
  | n :: ns => by
    show PyData.canLayAll0 (.int n :: List.map PyData.int ns) = true
    rw [PyData.canLayAll0, canLayZ ns]
    rfl
theorem canLayR (tp : Bool) (r : List Int) : (rowD tp r).canLay0 = true := by
  unfold rowD
  split <;> (rw [PyData.canLay0]; exact canLayZ r)
theorem depthR (tp : Bool) (r : List Int) : (rowD tp r).depth ≤ 1 := by
  have e : PyData.depthAll (r.map PyData.int) = 0 := PySem.W.depth_ints r
  unfold rowD
  split <;> (simp only [PyData.depth, e]; omega)
theorem alikeR (tp : Bool) (r s : List Int) : PySem.W.alike (rowD tp r) (rowD tp s) = true := by
  unfold rowD
  split <;> (rw [PySem.W.alike]; exact PySem.W.alike_ints r s)
theorem dataLeR (tp : Bool) : PySem.W.dataLe false (rowD tp) = fun p q => decide (p ≤ q) := by
  funext p q
  rw [PySem.W.dataLe_eq]
  show (!PySem.W.dataLt (rowD tp q) (rowD tp p)) = _
  have e : PySem.W.dataLt (rowD tp q) (rowD tp p) = decide (q < p) := by
    unfold rowD
    split
    · rw [PySem.W.dataLt_tuple]; exact PySem.W.dataLt_ints q p
    · rw [PySem.W.dataLt_list]; exact PySem.W.dataLt_ints q p
  rw [e]
  by_cases h : q < p
  · have h' : ¬ p ≤ q := fun r => List.not_lt.mpr r h
    simp [h, h']
  · have h' : p ≤ q := List.not_lt.mp h
    simp [h, h']
end L3
namespace L2
open PySem PySem.Spec PyProof.Rows L3
def rSortRows (K : PySem.W.Frag) (tp : Bool) : List V → Hp → VK → Prop := fun vs H Q => ∃ (a : Addr) (F : Hp) (xs : List V) (rs : List (List Int)), vs = [V.ref a] ∧ Same F H ∧ SqL K H a xs ∧ RpA K F xs (rs.map (rowD tp)) ∧ (tp = true → ∀ r ∈ rs, r ≠ []) ∧
  ∀ (ys : List V) (p : Addr), RpA K F ys ((sortR rs).map (rowD tp)) → H p = none → Q (.ref p) (upd H p (.lst ys))
theorem cr_sortRows {X : Cx} (tp : Bool) (hu : X.A.units + 65 < cLine) : CallR X (.builtin "sorted") (rSortRows X.K tp) := by
  intro pins s σ H vs us Q I r h
  obtain ⟨a, F, xs, rs, rfl, sm, hs, ra, ne, q⟩ := h
  obtain ⟨its, rv, hl, hz⟩ := I.list hs
  rw [Vals.ref1 r]
  have e0 : ∀ {xs : List V} {its : List Value} {rs : List (List Int)}, Vals xs its → RpA X.K F xs (rs.map (rowD tp)) → PySem.W.EachIs (fun v b => ∃ x, RelV x v ∧ Rp X.K F x (rowD tp b)) its rs := by
    intro xs its rs rv ra
    induction rs generalizing xs its with
    | nil => cases ra; cases rv; exact .nil
    | cons b bs ih => cases ra with
      | cons h1 h2 => cases rv with
        | cons r1 r2 => exact .cons ⟨_, r1, h1⟩ (ih r2 h2)
  have e := e0 rv ra
  have er : PySem.W.EachIs (fun v b => ∃ as, Reads s.heap v (rowD tp b) as) its rs := e.mono fun v b ⟨x, r1, r2⟩ => Dp.reads I _ x v ((r2.mono sm).dp (canLayR tp b)) r1
  have hk : PySem.W.Sortable (rs.map (rowD tp)) := by
    cases tp with
    | true =>
      refine .inl fun d hd => ?_
      obtain ⟨b, hb, rfl⟩ := List.mem_map.mp hd
      cases b with
      | nil => exact absurd rfl (ne rfl _ hb)
      | cons x b => exact ⟨_, _, rfl⟩
    | false => exact PySem.W.Sortable.others fun b => ⟨(fun z => nomatch z), fun xs z => nomatch z⟩
  have ll : its.length = rs.length := e.length
  refine PySem.W.sorted_data (enc := rowD tp) (R := fun v b => ∃ x, RelV x v ∧ Rp X.K F x (rowD tp b)) hl.isList e er (PySem.W.AllAlike.of (alikeR tp)) hk (by rw [← ll, ← rv.length]; exact hz) (fun b _ => by have := depthR tp b; omega) fun out lo eo => ?_
  rw [dataLeR, merge_is] at eo
  obtain ⟨ep, he'⟩ := PyProof.Rows.sortedAll_at s.heap its out.toArray
  have back : ∀ {out : List Value} {rs : List (List Int)}, PySem.W.EachIs (fun v b => ∃ x, RelV x v ∧ Rp X.K F x (rowD tp b)) out rs → ∃ ys, Vals ys out ∧ RpA X.K F ys (rs.map (rowD tp)) := by
    intro out rs h
    induction h with
    | nil => exact ⟨[], .nil, .nil⟩
    | cons h t ih =>
      obtain ⟨x, h1, h2⟩ := h
      obtain ⟨ys, h3, h4⟩ := ih
      exact ⟨x :: ys, .cons h1 h3, .cons h2 h4⟩
  obtain ⟨ys, hv, hr⟩ := back eo
  have hlen : ys.length ≤ sizeLine := by
    rw [hv.length, lo, ← ll, ← rv.length]
    exact hz
  exact ⟨.ref _, upd H (s.heap.objs.size + 1) (.lst ys), I.laid (t' := s.toks) (fun _ _ => PyProof.Rows.sortedAll_old) (Nat.le_succ _) ⟨hlen, out, ep, hv, he'⟩, rfl, q _ _ hr (I.hok.fresh (Nat.le_succ _))⟩
end L2
namespace L3
open PySem PySem.Spec L2
def gSortRows (tp : Bool) : List Cl → Option Cl
  | [c] => match c.data with
    | some (.list ds) => (rowsD tp ds).map fun rs => .lst ((sortR rs).map (rowD tp))
    | _ => none
  | _ => none
theorem prm_sortRows {G : Gd} (tp : Bool) : Prm G (rSortRows G.K tp) (gSortRows tp) := fun F H L cs vs c Q hr hc e hQ => by
  unfold gSortRows at e
  split at e
  · rename_i c0
    obtain ⟨v1, A1, rfl, h1⟩ := crs1 hc
    split at e
    · rename_i ds q1
      cases q : rowsD tp ds with
      | none => rw [q] at e; cases e
      | some rs =>
        rw [q] at e
        cases e
        obtain ⟨e1, e2⟩ := rowsD_is q
        obtain ⟨a, xs, rfl, s1, r1⟩ := h1.seqL hr.sub q1
        rw [e1] at r1
        exact ⟨a, F, xs, rs, rfl, hr.sub, s1, r1, e2, fun ys p ry hp => hQ F _ _ (Same.refl _) (hr.lstN hp ry)⟩
    · cases e
  · cases e
end L3

set_option maxHeartbeats 1000000
namespace L3
open PySem PySem.Spec L2 PyProof.Rows
/-! ### lists in a list, all of one's own -/
section
variable {K : PySem.W.Frag} {cl : Str → Addr → Prop} {F H : Hp}
/-- they are told by where they stand -/
theorem OwL.refs : ∀ {ms : List V} {dss : List (List D)} {A : List Addr}, OwL K F H ms dss A → ms = A.map V.ref ∧ ∀ a ∈ A, F a = none ∧ ∃ vs ds, H a = some (.lst vs) ∧ ds ∈ dss ∧ RpA K F vs ds
  | _, _, _, .nil => ⟨rfl, fun _ m => nomatch m⟩
  | _, _, _, .cons h f r q => by
    have ⟨e, all⟩ := OwL.refs q
    refine ⟨by rw [e]; rfl, fun a m => ?_⟩
    rcases List.mem_cons.mp m with rfl | m
    · exact ⟨f, _, _, h, .head _, r⟩
    · have ⟨f', vs, ds, h', i, r'⟩ := all a m
      exact ⟨f', vs, ds, h', .tail _ i, r'⟩
/-- two lists of one's own come into a list -/
theorem HR.two {L : List (Cl × V)} {d1 d2 : List D} {v1 v2 : V} {p : Addr} (h : HR K cl F H ((.lst d2, v2) :: (.lst d1, v1) :: L)) (hp : H p = none) : HR K cl F (upd H p (.lst [v1, v2])) ((.nst [d1, d2] none, .ref p) :: L) := by
  have ⟨s, A, n, q⟩ := h
  cases q with | cons q2 q => ?_
  cases q with | cons q1 r => ?_
  cases q1 with | @lst a1 vs1 _ h1 f1 r1 => ?_
  cases q2 with | @lst a2 vs2 _ h2 f2 r2 => ?_
  rename_i B
  have out : ∀ {b o}, H b = some o → upd H p (.lst [.ref a1, .ref a2]) b = H b := fun {b o} e => upd_ne (ne_of_none e hp)
  have n' : (a2 :: a1 :: B).Nodup := n
  have n2 := List.nodup_cons.mp n'
  have n1 := List.nodup_cons.mp n2.2
  have away : ∀ b ∈ [a1, a2] ++ B, b ≠ p := fun b m z => by
    subst z
    simp only [List.cons_append, List.nil_append, List.mem_cons] at m
    rcases m with rfl | rfl | m
    · rw [hp] at h1; cases h1
    · rw [hp] at h2; cases h2
    · have ⟨_, u, e⟩ := r.fr b m
      rw [hp] at e; cases e
  refine ⟨fun b u e => (out (s b u e)).trans (s b u e), p :: [a1, a2] ++ B, ?_, .cons (.lls upd_same (s.free hp) (.cons ((out h1).trans h1) f1 r1 (.cons ((out h2).trans h2) f2 r2 .nil))) (r.mono (Same.refl _) fun b m => ⟨(r.fr b m).1, (r.fr b m).2.elim fun _ e => out e⟩)⟩
  refine List.nodup_cons.mpr ⟨fun m => away p m rfl, List.nodup_cons.mpr ⟨fun m => ?_, List.nodup_cons.mpr ⟨fun m => n2.1 (.tail _ m), n1.2⟩⟩⟩
  rcases List.mem_cons.mp m with e | m
  · exact n2.1 (e ▸ .head _)
  · exact n1.1 m
/-- .. and that with a frozen thing into one more -/
theorem HR.nest {L : List (Cl × V)} {dss : List (List D)} {d : D} {v w : V} {a : Addr} (h : HR K cl F H ((.fz d, w) :: (.nst dss none, v) :: L)) (ha : H a = none) : HR K cl F (upd H a (.lst [v, w])) ((.nst dss (some d), .ref a) :: L) := by
  have ⟨s, A, n, q⟩ := h
  cases q with | cons q2 q => ?_
  cases q with | cons q1 r => ?_
  cases q2 with | fz rw' => ?_
  cases q1 with | @lls p ms _ A h1 f1 ow => ?_
  rename_i B
  have out : ∀ {b o}, H b = some o → upd H a (.lst [.ref p, w]) b = H b := fun {b o} e => upd_ne (ne_of_none e ha)
  have n' : (p :: (A ++ B)).Nodup := n
  have away : ∀ b ∈ p :: (A ++ B), b ≠ a := fun b m z => by
    subst z
    rcases List.mem_cons.mp m with rfl | m
    · rw [ha] at h1; cases h1
    · rcases List.mem_append.mp m with m | m
      · have ⟨_, u, e⟩ := ow.fr b m
        rw [ha] at e; cases e
      · have ⟨_, u, e⟩ := r.fr b m
        rw [ha] at e; cases e
  exact ⟨fun b u e => (out (s b u e)).trans (s b u e), (a :: p :: A) ++ B, List.nodup_cons.mpr ⟨fun m => away a m rfl, n'⟩,
    .cons (.nst upd_same (s.free ha) ((out h1).trans h1) f1 (ow.mono (Same.refl _) fun b m => ⟨(ow.fr b m).1, (ow.fr b m).2.elim fun _ e => out e⟩) rw') (r.mono (Same.refl _) fun b m => ⟨(r.fr b m).1, (r.fr b m).2.elim fun _ e => out e⟩)⟩
end
section
variable {ι : Type} {G : Gd} {X : ι → Cx} {W : WX} {P : List Nat} {e1 e2 e3 : Expr} {pos p1 : Pos}
/-- [[e1, e2], e3]: the lists e1 and e2 stay one's own -/
def fNst (f g : Fn Cl) (h : Fn Bv) : Fn Cl := fun n ρ => bnd (f n ρ) fun c1 ρ1 => match c1 with
  | .lst d1 => bnd (g n ρ1) fun c2 ρ2 => match c2 with
    | .lst d2 => bnd (fFz h n ρ2) fun c3 ρ3 => match c3 with
      | .fz d => some (.ok (.nst [d1, d2] (some d)) ρ3)
      | _ => none
    | _ => none
  | _ => none
theorem PoX.drop1 {F : Hp} {σ : L2.St} {T : List (Cl × V)} {x : Ex} {ρ : En} {c : Cl} {v : V} (h : PoX G W F σ T x ρ) : PoX G W F σ ((c, v) :: T) x ρ := fun F' H' cls d s R xr => h F' H' cls d s R.tail xr
theorem xe_nst {f g : Fn Cl} {h : Fn Bv} (h1 : XE G X W e1 f) (h2 : XE G X W e2 g) (h3 : XB G X W e3 h)
    (s1 : ∀ i, starEach [e1, e2] (X i).env = (false, eval e1 (X i).env) :: starEach [e2] (X i).env) (s2 : ∀ i, starEach [e2] (X i).env = (false, eval e2 (X i).env) :: starEach [] (X i).env)
    (s3 : ∀ i, starEach [.List [e1, e2] p1, e3] (X i).env = (false, eval (.List [e1, e2] p1) (X i).env) :: starEach [e3] (X i).env) (s4 : ∀ i, starEach [e3] (X i).env = (false, eval e3 (X i).env) :: starEach [] (X i).env) :
    XE G X W (.List [.List [e1, e2] p1, e3] pos) (fNst f g h) := by
  have ⟨t1, a1, b1⟩ := h1
  have ⟨t2, a2, b2⟩ := h2
  have ⟨t3, a3, b3⟩ := h3
  refine ⟨_, fun i => pe_lst (pa_cons (pe_lst (pa_cons (a1 i) (pa_cons (a2 i) pa_nil (s2 i)) (s1 i))) (pa_cons (a3 i) pa_nil (s4 i)) (s3 i)), fun n ρ r eq F H σ T Q hR hP => ?_⟩
  unfold fNst at eq
  cases q1 : f n ρ with
  | none => rw [q1] at eq; cases eq
  | some r1 =>
    rw [q1] at eq
    refine b1 n ρ r1 q1 F H σ T _ hR ?_
    cases r1 with
    | ex x ρ' => cases eq; exact hP
    | ok c1 ρ1 =>
      rw [bnd_ok] at eq
      intro F1 H1 v1 m1 R1
      split at eq
      case h_2 => cases eq
      rename_i d1
      cases q2 : g n ρ1 with
      | none => rw [q2] at eq; cases eq
      | some r2 =>
        rw [q2] at eq
        refine b2 n ρ1 r2 q2 F1 H1 σ _ _ R1 ?_
        cases r2 with
        | ex x ρ' => cases eq; exact (PoX.mono hP m1).drop1
        | ok c2 ρ2 =>
          rw [bnd_ok] at eq
          intro F2 H2 v2 m2 R2
          split at eq
          case h_2 => cases eq
          rename_i d2
          refine ⟨by show 2 ≤ sizeLine; decide, fun p hp => ?_⟩
          have R3 : G.R F2 (upd H2 p (.lst [v1, v2])) ρ2 σ ((.nst [d1, d2] none, .ref p) :: T) := .mk' (HR.two (R2.hr'.perm (.cons _ List.perm_middle)) hp) R2.ok
          cases q3 : fFz h n ρ2 with
          | none => rw [q3] at eq; cases eq
          | some r3 =>
            rw [q3] at eq
            refine snd_fz b3 n ρ2 r3 q3 F2 _ σ _ _ R3 ?_
            cases r3 with
            | ex x ρ' => cases eq; exact (PoX.mono hP (m1.trans m2)).drop1
            | ok c3 ρ3 =>
              rw [bnd_ok] at eq
              intro F3 H3 v3 m3 R4
              split at eq
              · cases eq
                refine ⟨by show 2 ≤ sizeLine; decide, fun a ha => ?_⟩
                exact hP F3 _ _ ((m1.trans m2).trans m3) (.mk' (HR.nest (R4.hr'.perm (.cons _ List.perm_middle)) ha) R4.ok)
              · cases eq
/-- ahead of a statement the nested list of slot k is frozen -/
def frzN (k : Nat) (ρ : En) : En := match (ρ[k]?).join with
  | some (.nst dss (some d)) => ρ.set k (some (.fz (.list [.list (dss.map PyData.list), d])))
  | _ => ρ
def sFrzN (k : Nat) (f : FS) : FS := fun n ρ => f n (frzN k ρ)
theorem xs_frzN {k : Nat} {st : Stmt} {f : FS} (h : XS G X W P st f) : XS G X W P st (sFrzN k f) := by
  have ⟨t, a1, a2⟩ := h
  refine ⟨t, a1, fun n ρ o eq F H σ T D hR hP => ?_⟩
  unfold sFrzN at eq
  have thru : ∀ {ρ' : En}, f n ρ' = some o → (∃ F', Same F F' ∧ G.R F' H ρ' σ T) → t D σ H := fun e ⟨F', s, R'⟩ => a2 n _ o e F' H σ T D R' (hP.mono s (Kp.refl σ))
  unfold frzN at eq
  split at eq
  · rename_i dss d q
    have ⟨v, hv, R1⟩ := R.take hR (join_some q)
    have ⟨F', s, r⟩ := HR.freezeN R1.hr'
    refine thru eq ⟨F', s, ?_⟩
    have lt : k < ρ.length := (List.getElem?_eq_some_iff.mp (join_some q)).1
    have R2 : G.R F' H (ρ.set k none) σ ((.fz (.list [.list (dss.map PyData.list), d]), v) :: T) := .mk' r R1.ok
    have R3 := R.put R2 (c := .fz (.list [.list (dss.map PyData.list), d])) (i := k) (by rw [List.getElem?_set_self lt]) hv
    rwa [List.set_set] at R3
  · exact thru eq ⟨F, Same.refl _, hR⟩
/-- for y in x[0]: y.append(text); y.reverse(): x, the nested list, is used up, and so is y -/
def sLate (kx ky : Nat) : FS := fun _ ρ => match (ρ[kx]?).join with
  | some (.nst dss (some _)) => if ky < ρ.length ∧ dss.all (fun ds => Nat.ble ds.length 10000000) = true then some (.nx ((ρ.set kx none).set ky none)) else none
  | _ => none
abbrev tLate (K : PySem.W.Frag) (ky : Nat) (txt : Str) : TS := tSeq (tDrop (tBM K "list" rAppend (tVar ky) (tCons (tC (.str txt)) tNil))) (tSeq (tDrop (tBM0 K "list" rReverse (tVar ky))) tNext)
theorem snd_late {K : PySem.W.Frag} {kx ky : Nat} {txt : Str} (hK : G.K = K) (hy : ky ∉ P) : SndS G W P (tFor (iSeq K (tOp (rIx K) (tVar kx) (tC (.int 0)))) (gName ky) (tLate K ky txt)) (sLate kx ky) := fun n ρ o eq F H σ T D hR hP => by
  subst hK
  unfold sLate at eq
  split at eq
  case h_2 => cases eq
  rename_i dss d q
  split at eq
  case isFalse => cases eq
  rename_i fit
  cases eq
  have ⟨v, hv, R1⟩ := R.take hR (join_some q)
  have ⟨s, AB, nd, hl⟩ := R1.hr'
  cases hl with | cons cr r => ?_
  rename_i B
  cases cr with | @nst a p w ms _ _ A ha fa hp fp ow rw' => ?_
  have ⟨em, all⟩ := ow.refs
  have nd : (a :: p :: (A ++ B)).Nodup := nd
  have nd2 := (List.nodup_cons.mp (List.nodup_cons.mp nd).2)
  have ndA := (List.nodup_append.mp nd2.2).1
  have apart := (List.nodup_append.mp nd2.2).2.2
  have pA : p ∉ A := fun m => nd2.1 (List.mem_append_left _ m)
  have small : ∀ ds ∈ dss, ds.length ≤ 10000000 := fun ds m => Nat.le_of_ble_eq_true (List.all_eq_true.mp fit.2 ds m)
  have lenσ : ky < σ.length := by rw [← hR.ok.len]; exact fit.1
  refine ⟨.ref a, hv, .inl ⟨a, [.ref p, w], 0, .ref p, rfl, rfl, .inl (.inl ha), rfl, p, rfl, .inl ⟨ms, .inl (.inl hp), ?_⟩⟩⟩
  refine ⟨fun i m σ' H' => m = A.length - i ∧ i ≤ A.length ∧ (∃ o, σ' = σ.set ky o) ∧ ∀ b, b ∉ A.take i → H' b = H b, ⟨A.length, rfl, Nat.zero_le _, ⟨(σ[ky]?).join, ?_⟩, fun _ _ => rfl⟩, ?_⟩
  · rw [List.getElem?_eq_getElem lenσ]
    exact (List.set_getElem_self lenσ).symm
  rintro i m σ' H' ⟨rfl, le, ⟨o, rfl⟩, same⟩
  have hp' : H' p = some (.lst ms) := (same p fun m => pA (List.mem_of_mem_take m)).trans hp
  by_cases lt : i < A.length
  · have ati : ms[i]? = some (.ref A[i]) := by rw [em, List.getElem?_map, List.getElem?_eq_getElem lt]; rfl
    refine .inr ⟨⟨ms, _, .inl (.inl hp'), ati⟩, fun σ2 H2 => (∃ o, σ2 = σ.set ky o) ∧ ∀ b, b ∉ A.take (i + 1) → H2 b = H b, fun σ2 H2 ⟨e, k⟩ => ⟨A.length - (i + 1), by omega, rfl, lt, e, k⟩, ?_⟩
    rintro x H2 ⟨rfl, yl⟩
    cases Option.some.inj (ati.symm.trans (yl ms (.inl (.inl hp'))))
    have fresh : A[i] ∉ A.take i := fun m => by
      have ⟨j, hj, e⟩ := List.getElem_of_mem m
      rw [List.getElem_take] at e
      rw [List.length_take] at hj
      exact List.pairwise_iff_getElem.mp ndA j i (by omega) lt (by omega) e
    have ⟨_, vs, ds, hm, mem, rel⟩ := all A[i] (List.getElem_mem lt)
    have hm' : H2 A[i] = some (HO.lst vs) := (same _ fresh).trans hm
    have here : ((σ.set ky o).set ky (some (V.ref A[i])))[ky]? = some (some (V.ref A[i])) := List.getElem?_set_self (by rw [List.length_set]; exact lenσ)
    have room := small ds mem
    refine ⟨_, here, .inl ⟨rfl, _, .inl (.inl hm')⟩, ⟨_, vs, .str txt, rfl, rfl, hm', by rw [rel.length, sizeLine_eq]; omega, ?_⟩⟩
    refine ⟨_, here, .inl ⟨rfl, _, .inl (.inl upd_same)⟩, ⟨_, _, rfl, rfl, upd_same, ⟨_, List.set_set ..⟩, fun b nb => ?_⟩⟩
    have nb' : b ≠ A[i] ∧ b ∉ A.take i := by
      rw [List.take_succ_eq_append_getElem lt] at nb
      exact ⟨fun e => nb (List.mem_append_right _ (e ▸ .head _)), fun m => nb (List.mem_append_left _ m)⟩
    rw [upd_ne nb'.1, upd_ne nb'.1]
    exact same b nb'.2
  · obtain rfl : i = A.length := Nat.le_antisymm le (Nat.le_of_not_lt lt)
    rw [List.take_length] at same
    refine .inl ⟨⟨ms, .inl (.inl hp'), by rw [em, List.length_map]; exact Nat.le_refl _⟩, hP F H' _ (Same.refl _) (R.gone ⟨⟨fun b u e => ?_, B, (List.nodup_append.mp nd2.2).2.1, r.mono (Same.refl _) fun b m => ⟨(r.fr b m).1, same b fun m' => apart b m' b m rfl⟩⟩, R1.ok⟩ ky o) (Kp.set hy)⟩
    exact (same b fun m => by have ⟨f, _⟩ := all b m; rw [f] at e; cases e).trans (s b u e)
theorem xs_late {kx ky : Nat} {txt : Str} {tg iter : Expr} {body : List Stmt} (hp : ∀ j, PassesOwn (model (X j).prog (X j).w) (X j).A (X j).env (X j).xe) (hc : ∀ j, (X j).calm = true) (hK : ∀ j, (X j).K = G.K) (hy : ky ∉ P) (hi : ∀ j, PE (X j) iter (tOp (rIx (X j).K) (tVar kx) (tC (.int 0)))) (hg : ∀ j, PG (X j) tg (gName ky))
    (hb : ∀ j, PSs (X j) body (tLate (X j).K ky txt)) (hs : ∀ j, ∀ x, foldedSetIterable iter (X j).env x = pure x) : XS G X W P (.For tg iter body [] pos) (sLate kx ky) :=
  ⟨_, fun j => by have := ps_for (pos := pos) (hp j) (hc j) (pi_seq (tg := tg) (hi j)) (hg j) (hb j) (hs j); rw [hK j] at this; exact this, snd_late rfl hy⟩
/-- xs[::-1] of a list, a new one -/
def fRevL (f : Fn Bv) : Fn Cl := fun n ρ => bnd (f n ρ) fun b ρ1 => match lk ρ1 b with
  | some c => match c.data with
    | some (.list ds) => some (.ok (.lst ds.reverse) ρ1)
    | _ => none
  | none => none
theorem xe_revL {e : Expr} {f : Fn Bv} {k : Nat} {p1 p2 p3 : Pos} (hK : ∀ i, (X i).K = G.K) (h : XB G X W e f) : XE G X W (.Subscript e (.Slice none none (some (.UnaryOp .USub (.Constant (.int 1) k p1) p2)) p3) pos) (fRevL f) := by
  have ⟨t, h1, h2⟩ := h
  refine ⟨_, fun i => by
    have := pe_revL (k := k) (p1 := p1) (p2 := p2) (p3 := p3) (pos := pos) (h1 i)
    rw [hK i] at this
    exact this, fun n ρ r eq F H σ T Q hR hP => ?_⟩
  unfold fRevL at eq
  cases q : f n ρ with
  | none => rw [q] at eq; cases eq
  | some r1 =>
    rw [q] at eq
    refine h2 n ρ r1 q F H σ T _ hR ?_
    cases r1 with
    | ex x ρ' => cases eq; exact hP
    | ok b ρ1 =>
      rw [bnd_ok] at eq
      intro F1 H1 v s1 R1 v1
      split at eq
      · rename_i c q2
        split at eq
        · rename_i ds q3
          cases eq
          have ⟨A, cr⟩ := bv_cr R1 bvT_nil v1 q2
          have ⟨a, xs, ev, at_, rel⟩ := CR.seqL R1.sub cr q3
          cases ev
          exact ⟨a, xs, rfl, at_, fun p hp => hP F1 _ _ s1 ((bvT_drop b _ R1).newLst hp rel.reverse)⟩
        · cases eq
      · cases eq
end
end L3

set_option maxHeartbeats 1000000
namespace L2
open PySem PySem.Spec PyProof.Rows L3
/-! ### len(set(t)), t a tuple of ints -/
def distI : List Int → Nat
  | [] => 0
  | x :: xs => if x ∈ xs then distI xs else distI xs + 1
theorem dist_len : ∀ (ns K : List Int), K.Nodup → (∀ k, k ∈ K ↔ k ∈ ns) → K.length = distI ns
  | [], K, _, h => by
    cases K with
    | nil => rfl
    | cons x K => exact absurd ((h x).mp (.head _)) (by simp)
  | x :: ns, K, nd, h => by
    unfold distI
    by_cases hx : x ∈ ns
    · rw [if_pos hx]
      refine dist_len ns K nd fun k => (h k).trans ⟨fun m => ?_, fun m => .tail _ m⟩
      rcases List.mem_cons.mp m with rfl | m
      · exact hx
      · exact m
    · rw [if_neg hx]
      have hk : x ∈ K := (h x).mpr (.head _)
      have e := dist_len ns (K.erase x) (nd.erase x) fun k => by
        rw [nd.mem_erase_iff, h k, List.mem_cons]
        constructor
        · rintro ⟨a, rfl | b⟩
          · exact absurd rfl a
          · exact b
        · intro b
          exact ⟨fun z => hx (z ▸ b), .inr b⟩
      rw [List.length_erase_of_mem hk] at e
      have := List.length_pos_of_mem hk
      omega
section
variable {X : Cx}
def tLenSetT (K : PySem.W.Frag) (ta : TE) : TE := fun σ H Q => ta σ H fun x H1 => ∃ (l : Addr) (ns : List Int), x = V.ref l ∧ SqT K H1 l (ns.map V.int) ∧ ns.length ≤ 1000 ∧ Q (.int (distI ns : Nat)) H1
theorem pe_lenSetT {a : Expr} {ta : TE} {p p2 q pos : Pos} (hc : X.calm = true) (hg : Gl X "len") (hm : X.mg "len" = none) (hg2 : Gl X "set") (hm2 : X.mg "set" = none) (ha : PE X a ta)
    (na : starEach [a] X.env = (false, eval a X.env) :: starEach [] X.env := by rfl) : PE X (.Call (.Name "len" p) [.Call (.Name "set" p2) [a] [] q] [] pos) (tLenSetT X.K ta) := by
  refine ⟨fun pins s σ H Q I h => Call_ (ld_blt I hg hm PySem.boot_len (callWith_builtin1 (args_cons (Call_ (ld_blt I hg2 hm2 PyProof.Rows.boot_set (callWith_type1 (args_cons (thn (ha.run pins s σ H _ I h) fun v s1 ⟨x, H1, I1, r1, l, ns, e, hq, hl, q1⟩ => args_nil ?_) na) na rfl))) rfl) rfl rfl))⟩
  subst e
  cases r1
  have ⟨its, r, pl, hz⟩ := I1.tuple hq
  refine call_set_tupI ns (I1.ok.hd hc) pl (by simpa using r.ints) (by unfold scanBound; omega) fun h' tk c R1 hcn k => args_nil ?_
  have ⟨o, es, ep, t, ho, hex, hdt, g, nd, mem, hb, hf, hn, hr, hl2⟩ := R1
  have hlen : es.size = distI ns := by
    rw [← dist_len ns (es.toList.map keyOf) nd fun k => (mem k).symm.trans (by simp), List.length_map, Array.length_toList]
  have I2 : Inv X pins σ H1 { s1 with heap := h', toks := tk } := I1.kept k
  exact call_len_set ho hex hdt hf (by rw [hlen]; have : distI ns ≤ ns.length := hlen ▸ hn ▸ hcn; omega) ⟨.int (distI ns : Nat), H1, I2.tok _, ⟨_, by rw [hlen]⟩, q1⟩
/-! ### min(xs), xs a list of pairs of tuples of ints -/
abbrev PrI := List Int × List Int
abbrev PrT := PySem.W.Tup Int × PySem.W.Tup Int
def prT (p : PrI) : PrT := (⟨p.1⟩, ⟨p.2⟩)
def ppD (p : PrI) : D := .tuple [.tuple (p.1.map PyData.int), .tuple (p.2.map PyData.int)]
theorem ppD_toD (p : PrI) : PySem.W.Datum.toD (prT p) = ppD p := rfl
def unT (p : PrT) : PrI := (p.1.items, p.2.items)
theorem unT_toD (p : PrT) : PySem.W.Datum.toD p = ppD (unT p) := rfl
theorem map_toD (ps : List PrI) : (ps.map prT).map PySem.W.Datum.toD = ps.map ppD := by rw [List.map_map]; rfl
def minP (p : PrI) (ps : List PrI) : PrI := unT (PySem.W.minOf (prT p) (ps.map prT))
theorem canLayI : ∀ ns : List Int, PyData.canLayAll0 (ns.map PyData.int) = true := canLayZ
theorem canLayP (p : PrI) : (ppD p).canLay0 = true := by
  unfold ppD
  simp only [PyData.canLay0, PyData.canLayAll0, canLayI, Bool.and_self]
theorem depthP : PySem.W.Datum.depth PrT = 2 := rfl
def rMinP (K : PySem.W.Frag) : List V → Hp → VK → Prop := fun vs H Q => ∃ (a : Addr) (F : Hp) (xs : List V) (p : PrI) (ps : List PrI), vs = [V.ref a] ∧ Same F H ∧ SqL K H a xs ∧ RpA K F xs ((p :: ps).map ppD) ∧ ∀ y : V, Rp K F y (ppD (minP p ps)) → Q y H
theorem holdP {pins : List (Addr × Obj)} {σ : St} {H : Hp} {s : Shared} (I : Inv X pins σ H s) {F : Hp} (sm : Same F H) : ∀ {xs : List V} {its : List Value} {ps : List PrI}, Vals xs its → RpA X.K F xs (ps.map ppD) → PySem.W.HoldAll s.heap its (ps.map prT)
  | [], _, [], .nil, _ => PySem.W.HoldAll.nil
  | [], _, _ :: _, .nil, h => nomatch h
  | _ :: _, _, [], _, h => nomatch h
  | _ :: _, _, p :: ps, .cons r rs, h => by
    cases h with
    | cons h1 h2 => exact PySem.W.HoldAll.cons (Dp.reads I _ _ _ ((h1.mono sm).dp (canLayP p)) r) (holdP I sm rs h2)
theorem vals_get : ∀ {xs : List V} {its : List Value} {i : Nat} {v : Value}, Vals xs its → its[i]? = some v → ∃ x, xs[i]? = some x ∧ RelV x v
  | _, _, _, _, .nil, e => by simp at e
  | _, _, 0, _, .cons r _, e => ⟨_, rfl, by cases e; exact r⟩
  | _, _, i + 1, _, .cons _ rs, e => vals_get (i := i) rs (by simpa using e)
theorem cr_minP (hc : X.calm = true) (hu : X.A.units + 65 < cLine) : CallR X (.builtin "min") (rMinP X.K) := by
  intro pins s σ H vs us Q I r h
  have ⟨a, F, xs, p, ps, e, sm, hs, ra, q⟩ := h
  subst e
  have ⟨its, rv, hl, hz⟩ := I.list hs
  rw [Vals.ref1 r]
  have ha := holdP I sm rv ra
  refine PySem.W.min_list_datum (x := prT p) (xs := ps.map prT) (I.ok.hd hc) hl.isList (by simpa using ha) (by rw [depthP]; omega) fun i v h' tk hi hv hk => ?_
  have hi : its[i]? = some v := by simpa using hi
  have ⟨x, hx, rx⟩ := vals_get rv hi
  have ⟨d, hd, rd⟩ := ra.getV hx
  have hd' : ∃ p', (p :: ps)[i]? = some p' ∧ ppD p' = d := by
    rw [List.getElem?_map] at hd
    cases q2 : (p :: ps)[i]? with
    | none => rw [q2] at hd; cases hd
    | some p' => rw [q2] at hd; exact ⟨p', rfl, Option.some.inj hd⟩
  have ⟨p', _, ed⟩ := hd'
  subst ed
  have ⟨bs, hb⟩ := hv
  have r1 := Reads.keeps hk (Dp.reads I _ _ _ ((rd.mono sm).dp (canLayP p')) rx).choose_spec
  have e2 : ppD p' = ppD (minP p ps) := SeqAt.Reads.unique _ _ _ _ _ (canLayP p') r1 hb
  rw [e2] at rd
  exact ⟨x, H, I.kept (t' := tk) hk, rx, q x rd⟩
end
end L2
namespace L2
open PySem PySem.Spec PyProof.Rows L3
section
variable {X : Cx}
theorem prT_inj {p q : PrI} : (prT p = prT q) = (p = q) := by
  refine propext ⟨fun e => ?_, fun e => congrArg prT e⟩
  have h1 := congrArg (fun z : PrT => z.1.items) e
  have h2 := congrArg (fun z : PrT => z.2.items) e
  exact Prod.ext h1 h2
/-- xs.count(y) of pairs -/
def rCntP (K : PySem.W.Frag) : V → List V → Hp → VK → Prop := fun x xs H Q => ∃ (a : Addr) (F : Hp) (vs : List V) (ps : List PrI) (y : V) (q : PrI), x = .ref a ∧ xs = [y] ∧ Same F H ∧ SqL K H a vs ∧ RpA K F vs (ps.map ppD) ∧ Rp K F y (ppD q) ∧ Q (.int (ps.countP fun z => decide (z = q) : Nat)) H
theorem mt_countP (hu : X.A.units + 65 < cLine) : MtR X "list.count" (rCntP X.K) := by
  intro pins s σ H x xs v us Q I rx rxs h
  have ⟨a, F, vs, ps, y, q, e1, e2, sm, hs, ra, ry, hq⟩ := h
  subst e1 e2
  cases rx
  have ⟨u, eu, ru⟩ := rxs.one
  subst eu
  have ⟨its, rv, hl, hz⟩ := I.list hs
  have ha := holdP I sm rv ra
  have hx : PySem.W.Holds s.heap u (prT q) := Dp.reads I _ _ _ ((ry.mono sm).dp (canLayP q)) ru
  refine PySem.W.count_list_datum (x := prT q) (xs := ps.map prT) hl.isList (by simpa using ha) hx (by rw [depthP]; omega) ?_
  have ec : ((ps.map prT).countP fun z => decide (z = prT q)) = ps.countP fun z => decide (z = q) := by
    rw [List.countP_map]
    refine List.countP_congr fun z _ => ?_
    simp only [Function.comp, prT_inj]
  exact ⟨.int (ps.countP fun z => decide (z = q) : Nat), H, I.tok _, ⟨_, by rw [ec]⟩, hq⟩
end
end L2
namespace L3
open PySem PySem.Spec L2
/-! ### .. at the level of data -/
theorem intsD_mp : ∀ ns : List Int, intsD (ns.map .int) = some ns
  | [] => rfl
  | n :: ns => by
    show (match intsD (ns.map .int) with
      | some ms => some (n :: ms)
      | none => none) = _
    rw [intsD_mp ns]
def prOne : D → Option PrI
  | .tuple [.tuple a, .tuple b] => match intsD a, intsD b with
    | some x, some y => some (x, y)
    | _, _ => none
  | _ => none
theorem prOne_ok {d : D} {p : PrI} (h : prOne d = some p) : d = ppD p := by
  unfold prOne at h
  split at h
  · split at h
    · rename_i x y q1 q2
      cases h
      rw [intsD_ok q1, intsD_ok q2]; rfl
    · cases h
  · cases h
theorem prOne_ppD (p : PrI) : prOne (ppD p) = some p := by
  show (match intsD (p.1.map .int), intsD (p.2.map .int) with
    | some x, some y => some (x, y)
    | _, _ => none) = _
  rw [intsD_mp, intsD_mp]
def prsD : List D → Option (List PrI)
  | [] => some []
  | d :: ds => match prOne d, prsD ds with
    | some p, some ps => some (p :: ps)
    | _, _ => none
theorem prsD_ok : ∀ {ds : List D} {ps : List PrI}, prsD ds = some ps → ds = ps.map ppD
  | [], _, h => by cases h; rfl
  | d :: ds, _, h => by
    unfold prsD at h
    split at h
    · rename_i p ps q1 q2
      cases h
      rw [prOne_ok q1, prsD_ok q2]; rfl
    · cases h
theorem prsD_map : ∀ ps : List PrI, prsD (ps.map ppD) = some ps
  | [] => rfl
  | p :: ps => by
    show (match prOne (ppD p), prsD (ps.map ppD) with
      | some p, some ps => some (p :: ps)
      | _, _ => none) = _
    rw [prOne_ppD, prsD_map ps]
def gMinP : List Cl → Option Cl
  | [c] => match c.data with
    | some (.list ds) => match prsD ds with
      | some (p :: ps) => some (.fz (ppD (minP p ps)))
      | _ => none
    | _ => none
  | _ => none
theorem prm_minP {G : Gd} : Prm G (rMinP G.K) gMinP := fun F H L cs vs c Q hr hc e hQ => by
  unfold gMinP at e
  split at e
  · rename_i c0
    have ⟨v1, A1, ev, h1⟩ := crs1 hc
    subst ev
    split at e
    · rename_i ds q1
      split at e
      · rename_i p ps q2
        cases e
        have ⟨a, xs, ev, s1, r1⟩ := h1.seqL hr.sub q1
        subst ev
        rw [prsD_ok q2] at r1
        exact ⟨a, F, xs, p, ps, rfl, hr.sub, s1, r1, fun y ry => hQ F _ _ (Same.refl _) (hr.push ry)⟩
      · cases e
    · cases e
  · cases e
def gCntP : Cl → List D → Option (D × Cl)
  | .lst ds, [d] => match prsD ds, prOne d with
    | some ps, some q => some (.int (ps.countP fun z => decide (z = q) : Nat), .lst ds)
    | _, _ => none
  | _, _ => none
theorem sm_cntP {G : Gd} : SndM G "list" isL (rCntP G.K) gCntP := ⟨isL_ty, fun c as d c' eq F H L v ws Q hr ra hQ => by
  unfold gCntP at eq
  split at eq
  case h_2 => cases eq
  rename_i ds y
  split at eq
  case h_2 => cases eq
  rename_i ps q q1 q2
  cases eq
  have ⟨A, cr⟩ := hr.head
  cases cr with
  | lst h1 h2 r =>
    cases ra with
    | cons ry ra =>
      cases ra
      have hq := hQ F H _ (Same.refl _) ((HR.push hr (Rp.int _)).swap)
      rw [prsD_ok q1] at r
      rw [prOne_ok q2] at ry
      exact ⟨_, F, _, ps, _, q, rfl, rfl, hr.sub, .inl (.inl h1), r, ry, hq⟩⟩
/-- xs.remove(k), ints -/
def gRem : Cl → List D → Option (D × Cl)
  | .lst ds, [.int k] => match intsD ds with
    | some ns => if k ∈ ns then some (.none, .lst ((ns.erase k).map .int)) else none
    | none => none
  | _, _ => none
theorem erase_at {k : Int} : ∀ {ns : List Int}, k ∈ ns → ∃ j, ns[j]? = some k ∧ (∀ m, m < j → ns[m]? ≠ some k) ∧ ns.eraseIdx j = ns.erase k
  | [], h => nomatch h
  | x :: ns, h => by
    by_cases e : x = k
    · subst e
      exact ⟨0, rfl, fun m hm => absurd hm (Nat.not_lt_zero m), by simp⟩
    · have h' : k ∈ ns := (List.mem_cons.mp h).resolve_left fun z => e z.symm
      have ⟨j, h1, h2, h3⟩ := erase_at h'
      refine ⟨j + 1, h1, fun m hm => ?_, ?_⟩
      · cases m with
        | zero => exact fun z => e (Option.some.inj z)
        | succ m => exact h2 m (by omega)
      · rw [List.eraseIdx_cons_succ, h3, List.erase_cons_tail (by simpa using e)]
theorem sm_rem {G : Gd} : SndM G "list" isL rRemI gRem := ⟨isL_ty, fun c as d c' eq F H L v ws Q hr ra hQ => by
  unfold gRem at eq
  split at eq
  case h_2 => cases eq
  rename_i ds k
  split at eq
  case h_2 => cases eq
  rename_i ns q1
  split at eq
  case isFalse => cases eq
  rename_i hk
  cases eq
  have ⟨A, cr⟩ := hr.head
  cases cr with
  | lst h1 h2 r =>
    cases ra with
    | cons ry ra =>
      cases ra
      cases ry
      have ⟨j, j1, j2, j3⟩ := erase_at hk
      have er := r
      rw [intsD_ok q1] at er
      have ev := er.ints
      subst ev
      refine ⟨_, ns, k, j, rfl, rfl, h1, j1, j2, hQ F _ .non (Same.refl _) ?_⟩
      rw [j3]
      exact (HR.push (hr.mut (c' := .lst ((ns.erase k).map .int)) (fun A h => by cases h; rfl) (.lst upd_same h2 (RpA.of_ints _))) .non).swap⟩
section
variable {ι : Type} {G : Gd} {X : ι → Cx} {W : WX} {e : Expr} {p p' p2 pos pos' qp : Pos}
/-- list(range(n)) -/
def fLstR1 (f : Fn Bv) : Fn Cl := fun n ρ => bnd (fFz f n ρ) fun c ρ1 => match c with
  | .fz (.int j) => if Nat.ble j.natAbs 1000000 = true then some (.ok (.lst (rngD 0 j.toNat)) ρ1) else none
  | _ => none
theorem xe_lstR1 {f : Fn Bv} (hc : ∀ i, (X i).calm = true) (hg : ∀ i, Gl (X i) "list") (hm : ∀ i, (X i).mg "list" = none) (hg2 : ∀ i, Gl (X i) "range") (hm2 : ∀ i, (X i).mg "range" = none) (h : XB G X W e f)
    (na : ∀ i, starEach [e] (X i).env = (false, eval e (X i).env) :: starEach [] (X i).env)
    (nc : ∀ i, starEach [.Call (.Name "range" p) [e] [] pos] (X i).env = (false, eval (.Call (.Name "range" p) [e] [] pos) (X i).env) :: starEach [] (X i).env) :
    XE G X W (.Call (.Name "list" p') [.Call (.Name "range" p) [e] [] pos] [] pos') (fLstR1 f) := by
  have ⟨t, h1, h2⟩ := h
  refine ⟨_, fun i => pe_listRg (hc i) (hg i) (hm i) (prg_1 (hg2 i) (hm2 i) (h1 i) (na i)) (nc i), fun n ρ r eq F H σ T' Q hR hP => ?_⟩
  unfold fLstR1 at eq
  cases q : fFz f n ρ with
  | none => rw [q] at eq; cases eq
  | some r1 =>
    rw [q] at eq
    refine snd_fz h2 n ρ r1 q F H σ T' _ hR ?_
    cases r1 with
    | ex x ρ' => cases eq; exact hP
    | ok c ρ1 =>
      rw [bnd_ok] at eq
      intro F1 H1 v s1 R1
      split at eq
      · rename_i j
        split at eq
        case isFalse => cases eq
        rename_i hk
        cases eq
        have k1 := Nat.le_of_ble_eq_true hk
        have ri := R1.rp
        cases ri
        refine ⟨j, rfl, ⟨by omega, by omega, by omega, by omega, by omega⟩, fun p hp => ?_⟩
        have hl := R.newLst R1.tail hp (rgA _ _ (fun k => (0 : Int) + (k : Int)) (List.range (j - 0).toNat))
        rw [show (j - 0).toNat = j.toNat by omega] at hl
        exact hP _ _ _ s1 (by rw [show rgV 0 j = (List.range j.toNat).map fun k : Nat => V.int (0 + (k : Int)) by unfold rgV; rw [show (j - 0).toNat = j.toNat by omega]]; exact hl)
      · cases eq
/-- len(set(t)) -/
def fLenSet (f : Fn Bv) : Fn Cl := fun n ρ => bnd (fFz f n ρ) fun c ρ1 => match c with
  | .fz (.tuple ds) => match intsD ds with
    | some ns => if Nat.ble ns.length 1000 = true then some (.ok (.i (distI ns : Nat)) ρ1) else none
    | none => none
  | _ => none
theorem xe_lenSet {f : Fn Bv} (hK : ∀ i, (X i).K = G.K) (hc : ∀ i, (X i).calm = true) (hg : ∀ i, Gl (X i) "len") (hm : ∀ i, (X i).mg "len" = none) (hg2 : ∀ i, Gl (X i) "set") (hm2 : ∀ i, (X i).mg "set" = none) (h : XB G X W e f)
    (na : ∀ i, starEach [e] (X i).env = (false, eval e (X i).env) :: starEach [] (X i).env) : XE G X W (.Call (.Name "len" p) [.Call (.Name "set" p2) [e] [] qp] [] pos) (fLenSet f) := by
  have ⟨t, h1, h2⟩ := h
  refine ⟨tLenSetT G.K t, fun i => by have := pe_lenSetT (p := p) (p2 := p2) (q := qp) (pos := pos) (hc i) (hg i) (hm i) (hg2 i) (hm2 i) (h1 i) (na i); rw [hK i] at this; exact this, fun n ρ r eq F H σ T' Q hR hP => ?_⟩
  unfold fLenSet at eq
  cases q : fFz f n ρ with
  | none => rw [q] at eq; cases eq
  | some r1 =>
    rw [q] at eq
    refine snd_fz h2 n ρ r1 q F H σ T' _ hR ?_
    cases r1 with
    | ex x ρ' => cases eq; exact hP
    | ok c ρ1 =>
      rw [bnd_ok] at eq
      intro F1 H1 v s1 R1
      split at eq
      · rename_i ds
        split at eq
        · rename_i ns q1
          split at eq
          case isFalse => cases eq
          rename_i hk
          cases eq
          have ri := R1.rp
          cases ri with
          | tup hs ra =>
            rw [intsD_ok q1] at ra
            have ev := ra.ints
            subst ev
            exact ⟨_, ns, rfl, (sameT R1.sub hs), Nat.le_of_ble_eq_true hk, hP F1 H1 _ s1 (R1.tail.push (.int _))⟩
        · cases eq
      · cases eq
end
end L3

set_option maxHeartbeats 1000000
namespace L2
open PySem PySem.Spec PyProof.Rows L3
/-! ### [f, g, h][w](e) -/
section
variable {X : Cx} {CX : CXT} {E : St → XK} {pos : Pos} {ef e : Expr} {es : List Expr} {tf : TE} {t : TA}
/-- one of three defs -/
def tCall3 (a0 a1 a2 : Addr) (s0 s1 s2 : Sp) (E : St → XK) (tf : TE) (t : TA) : TE := fun σ H Q => tf σ H fun v H1 => (v = .ref a0 ∧ tCallS s0 E t σ H1 Q) ∨ (v = .ref a1 ∧ tCallS s1 E t σ H1 Q) ∨ (v = .ref a2 ∧ tCallS s2 E t σ H1 Q)
theorem pe_call3 {k0 k1 k2 : Nat} {a0 a1 a2 : Addr} {f0 f1 f2 : FuncData} {p0 p1 p2 : List Str} {s0 s1 s2 : Sp} (F0 : FnOk X.prog X.w X.K X.mg X.base CX k0 a0 f0 p0 s0) (F1 : FnOk X.prog X.w X.K X.mg X.base CX k1 a1 f1 p1 s1) (F2 : FnOk X.prog X.w X.K X.mg X.base CX k2 a2 f2 p2 s2)
    (r0 : Room k0 X.A) (r1 : Room k1 X.A) (r2 : Room k2 X.A) (y0 : PySem.W.keepIn X.K (.ref a0) = true) (y1 : PySem.W.keepIn X.K (.ref a1) = true) (y2 : PySem.W.keepIn X.K (.ref a2) = true) (b0 : Binds X.K f0 p0 []) (b1 : Binds X.K f1 p1 []) (b2 : Binds X.K f2 p2 [])
    (hx : ∀ σ, PassesAt CX X σ (E σ)) (hf : PE X ef tf) (ha : PA X (e :: es) t)
    (hc : eval (.Call ef (e :: es) [] pos) X.env = (do callWith pos (← eval ef X.env) [] (backTo pos (starEach (e :: es) X.env)) (backToKw pos (keywordEach [] X.env))))
    (he : starEach (e :: es) X.env = (false, eval e X.env) :: starEach es X.env) (hpl : (backTo pos (starEach es X.env)).any (·.1) = false) :
    PE X (.Call ef (e :: es) [] pos) (tCall3 a0 a1 a2 s0 s1 s2 E tf t) := by
  refine ⟨fun pins s σ H Q I h => Call_ (thn (hf.run pins s σ H _ I h) fun v s1 ⟨x, H1, I1, r, q⟩ => ?_) hc⟩
  have go : ∀ {k : Nat} {a : Addr} {fd : FuncData} {ps : List Str} {sp : Sp}, FnOk X.prog X.w X.K X.mg X.base CX k a fd ps sp → Room k X.A → PySem.W.keepIn X.K (.ref a) = true → Binds X.K fd ps [] → x = .ref a → tCallS sp E t σ H1 Q → wpAny (model X.prog X.w) X.A (callWith pos v [] (backTo pos (starEach (e :: es) X.env)) []) (EP X pins σ Q) X.xe s1 := by
    intro k a fd ps sp Fk hr hk hb ex hq
    subst ex
    cases r
    exact PySem.W.callWith_K (h₀ := X.base) I1.ok.mod.kin hk (thn (ha.run pos pins s1 σ H1 _ I1 hq) fun us s2 ⟨vs, H2, I2, r2, q2⟩ => ⟨I2.kIn, run_fnS Fk hr hb (hx σ) I2 r2 q2⟩) he hpl
  rcases q with ⟨ev, q⟩ | ⟨ev, q⟩ | ⟨ev, q⟩
  · exact go F0 r0 y0 b0 ev q
  · exact go F1 r1 y1 b1 ev q
  · exact go F2 r2 y2 b2 ev q
end
end L2
namespace L3
open PySem PySem.Spec L2
section
variable {K : PySem.W.Frag} {cl : Str → Addr → Prop} {F H : Hp}
/-- two lists of one's own are changed at once -/
theorem HR.two_set {L : List (Cl × V)} {d1 d2 : List D} {v1 v2 : V} (h : HR K cl F H ((.lst d2, v2) :: (.lst d1, v1) :: L)) : ∃ (a b : Addr) (w1 w2 : List V), v1 = .ref a ∧ v2 = .ref b ∧ a ≠ b ∧ H a = some (.lst w1) ∧ H b = some (.lst w2) ∧ RpA K F w1 d1 ∧ RpA K F w2 d2 ∧
    ∀ (H' : Hp) (w1' w2' : List V) (d1' d2' : List D), H' a = some (.lst w1') → H' b = some (.lst w2') → (∀ c u, c ≠ a → c ≠ b → H c = some u → H' c = some u) → RpA K F w1' d1' → RpA K F w2' d2' → HR K cl F H' ((.lst d2', .ref b) :: (.lst d1', .ref a) :: L) := by
  have ⟨s, A, n, q⟩ := h
  cases q with | cons q2 q => ?_
  cases q with | cons q1 r => ?_
  cases q1 with | @lst a w1 _ h1 f1 r1 => ?_
  cases q2 with | @lst b w2 _ h2 f2 r2 => ?_
  rename_i B
  have n' : (b :: a :: B).Nodup := n
  have n2 := List.nodup_cons.mp n'
  have n1 := List.nodup_cons.mp n2.2
  have ab : a ≠ b := fun z => n2.1 (z ▸ .head _)
  refine ⟨a, b, w1, w2, rfl, rfl, ab, h1, h2, r1, r2, fun H' w1' w2' d1' d2' e1 e2 k p1 p2 => ⟨fun c u e => ?_, _, n, .cons (.lst e2 f2 p2) (.cons (.lst e1 f1 p1) (r.mono (Same.refl _) fun c hc => ⟨(r.fr c hc).1, ?_⟩))⟩⟩
  · exact k c u (ne_of_none e f1) (ne_of_none e f2) (s _ _ e)
  · have ⟨_, u, e⟩ := r.fr c hc
    rw [e]
    exact k c u (fun z => n1.1 (z ▸ hc)) (fun z => n2.1 (.tail _ (z ▸ hc))) e
end
section
variable {ι : Type} {G : Gd} {X : ι → Cx} {W : WX} {P : List Nat}
def ms3 (m0 m1 m2 : Mr) : Int → Option Mr := fun i => if i = 0 then some m0 else if i = 1 then some m1 else if i = 2 then some m2 else none
def fCall3 (k : Nat) (m0 m1 m2 : Mr) (f : Fn (List Bv)) : Fn Cl := fun n ρ => match (ρ[k]?).join with
  | some (.fz (.int i)) => match ms3 m0 m1 m2 i with
    | some m => fCall m f n ρ
    | none => none
  | _ => none
theorem slot_int {F H : Hp} {ρ : En} {σ : L2.St} {T : List (Cl × V)} {k : Nat} {i : Int} (h : G.R F H ρ σ T) (e : (ρ[k]?).join = some (.fz (.int i))) : σ[k]? = some (some (.int i)) := by
  have e' : ρ[k]? = some (some (.fz (.int i))) := by
    cases q : ρ[k]? with
    | none => rw [q] at e; cases e
    | some o => rw [q] at e; exact congrArg some e
  have ⟨v, h1, A, cr⟩ := h.at e'
  cases cr with
  | fz r => cases r; exact h1
theorem xe_call3 {kw np k0 k1 k2 : Nat} {m0 m1 m2 : Mr} {x0 x1 x2 xw : Str} {q0 q1 q2 ql qw qs pos : Pos} {a0 a1 a2 : Addr} {f0 f1 f2 : FuncData} {p0 p1 p2 : List Str} {e : Expr} {es : List Expr} {f : Fn (List Bv)} (hK : ∀ i, (X i).K = G.K)
    (F0 : ∀ i, FnOk (X i).prog (X i).w (X i).K (X i).mg (X i).base (L2.CX (X i).prog (X i).w) k0 a0 f0 p0 (spM G np m0)) (F1 : ∀ i, FnOk (X i).prog (X i).w (X i).K (X i).mg (X i).base (L2.CX (X i).prog (X i).w) k1 a1 f1 p1 (spM G np m1)) (F2 : ∀ i, FnOk (X i).prog (X i).w (X i).K (X i).mg (X i).base (L2.CX (X i).prog (X i).w) k2 a2 f2 p2 (spM G np m2))
    (r0 : ∀ i, Room k0 (X i).A) (r1 : ∀ i, Room k1 (X i).A) (r2 : ∀ i, Room k2 (X i).A) (g0 : ∀ i, Gl (X i) x0) (g1 : ∀ i, Gl (X i) x1) (g2 : ∀ i, Gl (X i) x2) (n0 : ∀ i, (X i).mg x0 = some (.ref a0)) (n1 : ∀ i, (X i).mg x1 = some (.ref a1)) (n2 : ∀ i, (X i).mg x2 = some (.ref a2))
    (y0 : ∀ i, PySem.W.keepIn (X i).K (.ref a0) = true) (y1 : ∀ i, PySem.W.keepIn (X i).K (.ref a1) = true) (y2 : ∀ i, PySem.W.keepIn (X i).K (.ref a2) = true) (b0 : ∀ i, Binds (X i).K f0 p0 []) (b1 : ∀ i, Binds (X i).K f1 p1 []) (b2 : ∀ i, Binds (X i).K f2 p2 [])
    (d0 : (x0 == ("__debug__" : Str)) = false) (d1 : (x1 == ("__debug__" : Str)) = false) (d2 : (x2 == ("__debug__" : Str)) = false)
    (l0 : ∀ i, starEach [.Name x0 q0, .Name x1 q1, .Name x2 q2] (X i).env = (false, eval (.Name x0 q0) (X i).env) :: starEach [.Name x1 q1, .Name x2 q2] (X i).env) (l1 : ∀ i, starEach [.Name x1 q1, .Name x2 q2] (X i).env = (false, eval (.Name x1 q1) (X i).env) :: starEach [.Name x2 q2] (X i).env) (l2 : ∀ i, starEach [.Name x2 q2] (X i).env = (false, eval (.Name x2 q2) (X i).env) :: starEach [] (X i).env)
    (pw : ∀ i, PE (X i) (.Name xw qw) (tVar kw)) (hpi : PlainIx (.Name xw qw)) (tk : ∀ i, Takes (X i) W) (ha : XBs G X W (e :: es) f) (hl : ∀ n ρ bs ρ', f n ρ = some (.ok bs ρ') → bs.length = np)
    (hc : ∀ i, eval (.Call (.Subscript (.List [.Name x0 q0, .Name x1 q1, .Name x2 q2] ql) (.Name xw qw) qs) (e :: es) [] pos) (X i).env = (do callWith pos (← eval (.Subscript (.List [.Name x0 q0, .Name x1 q1, .Name x2 q2] ql) (.Name xw qw) qs) (X i).env) [] (backTo pos (starEach (e :: es) (X i).env)) (backToKw pos (keywordEach [] (X i).env))))
    (he : ∀ i, starEach (e :: es) (X i).env = (false, eval e (X i).env) :: starEach es (X i).env) (hpl : ∀ i, (backTo pos (starEach es (X i).env)).any (·.1) = false) :
    XE G X W (.Call (.Subscript (.List [.Name x0 q0, .Name x1 q1, .Name x2 q2] ql) (.Name xw qw) qs) (e :: es) [] pos) (fCall3 kw m0 m1 m2 f) := by
  have ⟨t, h1, h2⟩ := ha
  refine ⟨tCall3 a0 a1 a2 (spM G np m0) (spM G np m1) (spM G np m2) (WE W) (tOp (rIxL G.K) (tLst (tCons (tC (.ref a0)) (tCons (tC (.ref a1)) (tCons (tC (.ref a2)) tNil)))) (tVar kw)) t, fun i => ?_, fun n ρ r eq F H σ T Q hR hP => ?_⟩
  · have hf : PE (X i) (.Subscript (.List [.Name x0 q0, .Name x1 q1, .Name x2 q2] ql) (.Name xw qw) qs) (tOp (rIxL (X i).K) (tLst (tCons (tC (.ref a0)) (tCons (tC (.ref a1)) (tCons (tC (.ref a2)) tNil)))) (tVar kw)) :=
      pe_ix ix_list (pe_lst (pa_cons (pe_glob (g0 i) (n0 i) rfl d0) (pa_cons (pe_glob (g1 i) (n1 i) rfl d1) (pa_cons (pe_glob (g2 i) (n2 i) rfl d2) pa_nil (l2 i)) (l1 i)) (l0 i))) (pw i) hpi
    rw [hK i] at hf
    exact pe_call3 (E := WE W) (F0 i) (F1 i) (F2 i) (r0 i) (r1 i) (r2 i) (y0 i) (y1 i) (y2 i) (b0 i) (b1 i) (b2 i) (fun σ => passAt (tk i) σ) hf (h1 i) (hc i) (he i) (hpl i)
  · unfold fCall3 at eq
    split at eq
    case h_2 => cases eq
    rename_i i hw
    split at eq
    case h_2 => cases eq
    rename_i m hm
    have hs := slot_int hR hw
    refine ⟨by show 3 ≤ sizeLine; decide, fun p hp => ⟨_, hs, ?_⟩⟩
    have hl' : SqL G.K (upd H p (.lst [.ref a0, .ref a1, .ref a2])) p [.ref a0, .ref a1, .ref a2] := .inl (.inl upd_same)
    have hR' : G.R F (upd H p (.lst [.ref a0, .ref a1, .ref a2])) ρ σ T := ⟨hR.hr.extra hp, hR.ok⟩
    have fin : ∀ m : Mr, fCall m f n ρ = some r → tCallS (spM G np m) (WE W) t σ (upd H p (.lst [.ref a0, .ref a1, .ref a2])) Q := fun m em => snd_call h2 hl n ρ r em F _ σ T Q hR' hP
    unfold ms3 at hm
    split at hm
    · rename_i h0
      subst h0
      cases hm
      exact ⟨p, _, _, .ref a0, rfl, rfl, hl', rfl, .inl ⟨rfl, fin _ eq⟩⟩
    · split at hm
      · rename_i h0 h1'
        subst h1'
        cases hm
        exact ⟨p, _, _, .ref a1, rfl, rfl, hl', rfl, .inr (.inl ⟨rfl, fin _ eq⟩)⟩
      · split at hm
        · rename_i h0 h1' h2'
          subst h2'
          cases hm
          exact ⟨p, _, _, .ref a2, rfl, rfl, hl', rfl, .inr (.inr ⟨rfl, fin _ eq⟩)⟩
        · cases hm
end
end L3

set_option maxHeartbeats 1000000
namespace L3
open PySem PySem.Spec L2
/-! ### a, b = [x, y][k], [y, x][k]; a.append(a[p]); a[p] = t; b.append(t): x and y are lists of one's own -/
def grow1 (m o : List D) (p t : Int) : Option (List D × List D) := if 0 ≤ p ∧ m.length ≤ 1000000 ∧ o.length ≤ 1000000 then (match m[p.toNat]? with
    | some x => some ((m ++ [x]).set p.toNat (.int t), o ++ [.int t])
    | none => none) else none
def grow2 (k : Int) (d1 d2 : List D) (p t : Int) : Option (List D × List D) := if k = 0 then grow1 d1 d2 p t else if k = 1 then (match grow1 d2 d1 p t with
    | some r => some (r.2, r.1)
    | none => none) else none
def sGrow (kf ks km ko kk kp kt : Nat) : FS := fun _ ρ => match (ρ[kf]?).join, (ρ[ks]?).join, (ρ[kk]?).join, (ρ[kp]?).join, (ρ[kt]?).join with
  | some (.lst d1), some (.lst d2), some (.fz (.int k)), some (.fz (.int p)), some (.fz (.int t)) => match grow2 k d1 d2 p t with
    | some r => if km < ρ.length ∧ ko < ρ.length then some (.nx ((((((ρ.set kf none).set ks none).set ks (some (.lst r.2))).set kf (some (.lst r.1))).set km none).set ko none)) else none
    | none => none
  | _, _, _, _, _ => none
theorem ixN_of {n j : Nat} {p : Int} (h0 : 0 ≤ p) (h : p.toNat < n) : ixN n p = some p.toNat := by
  unfold ixN
  rw [if_pos h0]
  first | rw [if_pos h] | (split <;> first | rfl | omega)
section
variable {ι : Type} {G : Gd} {X : ι → Cx} {W : WX} {P : List Nat}
abbrev tApp (K : PySem.W.Frag) (to : TE) (ta : TE) : TS := tDrop (tBM K "list" rAppend to (tCons ta tNil))
/-- the three statements behind -/
theorem grow_rest {K : PySem.W.Frag} {D : Ends} {σ : L2.St} {H : Hp} {m o : Addr} {wm wo : List V} {p t : Int} {x : V} {km ko kp kt : Nat} (em : σ[km]? = some (some (.ref m))) (eo : σ[ko]? = some (some (.ref o))) (ep : σ[kp]? = some (some (.int p))) (et : σ[kt]? = some (some (.int t)))
    (ne : m ≠ o) (hm : H m = some (.lst wm)) (ho : H o = some (.lst wo)) (p0 : 0 ≤ p) (hx : wm[p.toNat]? = some x) (zm : wm.length ≤ 1000000) (zo : wo.length ≤ 1000000)
    (h : D.nx σ (upd (upd (upd H m (.lst (wm ++ [x]))) m (.lst ((wm ++ [x]).set p.toNat (.int t)))) o (.lst (wo ++ [.int t])))) :
    tSeq (tApp K (tVar km) (tOp (rIxL K) (tVar km) (tVar kp))) (tSeq (tAsg (tVar kt) (L2.gSub (tVar km) (tVar kp) rSetL)) (tApp K (tVar ko) (tVar kt))) D σ H := by
  have pl : p.toNat < wm.length := (List.getElem?_eq_some_iff.mp hx).1
  have ai : atI wm p = some x := by
    unfold atI
    rw [ixN_of (j := 0) p0 pl]
    exact hx
  have zz : ∀ w : List V, w.length ≤ 1000000 → w.length < sizeLine := fun w hw => Nat.lt_of_le_of_lt hw tM
  refine ⟨.ref m, em, .inl ⟨rfl, _, .inl (.inl hm)⟩, .ref m, em, .int p, ep, m, wm, p, x, rfl, rfl, .inl (.inl hm), ai, m, wm, x, rfl, rfl, hm, zz _ zm, ?_⟩
  refine ⟨.int t, et, .ref m, em, .int p, ep, m, wm ++ [x], p, p.toNat, rfl, rfl, upd_same, ixN_of (j := 0) p0 (by rw [List.length_append]; omega), ?_⟩
  have ho' : upd (upd H m (.lst (wm ++ [x]))) m (.lst ((wm ++ [x]).set p.toNat (.int t))) o = some (.lst wo) := by
    rw [upd_ne (Ne.symm ne), upd_ne (Ne.symm ne)]
    exact ho
  exact ⟨.ref o, eo, .inl ⟨rfl, _, .inl (.inl ho')⟩, .int t, et, o, wo, .int t, rfl, rfl, ho', zz _ zo, h⟩
abbrev tPick2 (K : PySem.W.Frag) (i j k : Nat) : TE := tOp (rIxL K) (tLst (tCons (tVar i) (tCons (tVar j) tNil))) (tVar k)
theorem grow_snd {kf ks km ko kk kp kt : Nat} (hd : kf ≠ ks ∧ km ≠ ko ∧ kk ≠ km ∧ kk ≠ ko ∧ kp ≠ km ∧ kp ≠ ko ∧ kt ≠ km ∧ kt ≠ ko) (hm : km ∉ P) (ho : ko ∉ P) :
    SndS G W P (tSeq (tPar km ko (tCons (tPick2 G.K kf ks kk) (tCons (tPick2 G.K ks kf kk) tNil))) (tSeq (tApp G.K (tVar km) (tOp (rIxL G.K) (tVar km) (tVar kp))) (tSeq (tAsg (tVar kt) (L2.gSub (tVar km) (tVar kp) rSetL)) (tApp G.K (tVar ko) (tVar kt))))) (sGrow kf ks km ko kk kp kt) := fun n ρ out e F H σ T D hR hP => by
  have ⟨n1, n2, n3, n4, n5, n6, n7, n8⟩ := hd
  unfold sGrow at e
  split at e
  case h_2 => cases e
  rename_i d1 d2 k p t e1 e2 e3 e4 e5
  split at e
  case h_2 => cases e
  rename_i r hg
  split at e
  case isFalse => cases e
  rename_i hlen
  cases e
  have sk := slot_int hR e3
  have sp := slot_int hR e4
  have st := slot_int hR e5
  have ll := hR.ok.len
  have ⟨v1, s1, R1⟩ := hR.take (join_some e1)
  have lf : kf < ρ.length := (List.getElem?_eq_some_iff.mp (join_some e1)).1
  have ls : ks < ρ.length := (List.getElem?_eq_some_iff.mp (join_some e2)).1
  have e2' : (ρ.set kf none)[ks]? = some (some (.lst d2)) := by rw [List.getElem?_set_ne n1]; exact join_some e2
  have ⟨v2, s2, R2⟩ := R1.take e2'
  have ⟨a, b, w1, w2, ev1, ev2, ab, h1, h2, r1, r2, back⟩ := HR.two_set ((R2.hr.perm (mid _ _ _)).perm (List.Perm.cons _ (mid _ _ _)))
  subst ev1 ev2
  have old : ∀ {q1 q2 : Addr} {u1 u2 : HO}, H q1 = none → upd H q1 u1 q2 = none → ∀ c u, H c = some u → upd (upd H q1 u1) q2 u2 c = some u := fun {q1 q2 u1 u2} f1 f2 c u hc => by
    have hc1 : upd H q1 u1 c = some u := (upd_ne (ne_of_none hc f1)).trans hc
    exact (upd_ne (ne_of_none hc1 f2)).trans hc1
  -- what stands at the end
  have fin : ∀ (H5 : Hp) (w1' w2' : List V) (va vb : V), H5 a = some (.lst w1') → H5 b = some (.lst w2') → (∀ c u, c ≠ a → c ≠ b → H c = some u → H5 c = some u) → RpA G.K F w1' r.1 → RpA G.K F w2' r.2 → D.nx ((σ.set km (some va)).set ko (some vb)) H5 := fun H5 w1' w2' va vb g1 g2 g3 p1 p2 => by
    have hb := back H5 w1' w2' r.1 r.2 g1 g2 g3 p1 p2
    have R3 : G.R F H5 ((ρ.set kf none).set ks none) σ ((.lst r.2, .ref b) :: (.lst r.1, .ref a) :: T) := ⟨(hb.perm (List.Perm.cons _ (mid _ _ _).symm)).perm (mid _ _ _).symm, R2.ok⟩
    have R4 := R3.put (i := ks) (by rw [List.getElem?_set_self (by rw [List.length_set]; exact ls)]) s2
    have R5 := R4.put (i := kf) (by rw [List.getElem?_set_ne (Ne.symm n1), List.getElem?_set_ne (Ne.symm n1), List.getElem?_set_self lf]) s1
    exact hP F H5 _ (Same.refl _) ((R5.gone km (some va)).gone ko (some vb)) ((Kp.set hm).trans (Kp.set ho))
  have at_m : ∀ va vb : V, ((σ.set km (some va)).set ko (some vb))[km]? = some (some va) := fun va vb => by
    rw [List.getElem?_set_ne (Ne.symm n2), List.getElem?_set_self (by omega)]
  have at_o : ∀ va vb : V, ((σ.set km (some va)).set ko (some vb))[ko]? = some (some vb) := fun va vb => by
    rw [List.getElem?_set_self (by rw [List.length_set]; omega)]
  have at_p : ∀ va vb : V, ((σ.set km (some va)).set ko (some vb))[kp]? = some (some (.int p)) := fun va vb => by
    rw [List.getElem?_set_ne (Ne.symm n6), List.getElem?_set_ne (Ne.symm n5)]; exact sp
  have at_t : ∀ va vb : V, ((σ.set km (some va)).set ko (some vb))[kt]? = some (some (.int t)) := fun va vb => by
    rw [List.getElem?_set_ne (Ne.symm n8), List.getElem?_set_ne (Ne.symm n7)]; exact st
  unfold grow2 at hg
  split at hg
  · rename_i hk
    subst hk
    unfold grow1 at hg
    split at hg
    case isFalse => cases hg
    rename_i hc
    have ⟨p0, z1, z2⟩ := hc
    split at hg
    case h_2 => cases hg
    rename_i dx hx
    cases hg
    have ⟨x, hx1, hx2⟩ := r1.get hx
    refine ⟨.ref a, s1, .ref b, s2, by show 2 ≤ sizeLine; decide, fun q1 f1 => ⟨.int 0, sk, q1, [.ref a, .ref b], 0, .ref a, rfl, rfl, .inl (.inl upd_same), rfl, ?_⟩⟩
    refine ⟨.ref b, s2, .ref a, s1, by show 2 ≤ sizeLine; decide, fun q2 f2 => ⟨.int 0, sk, q2, [.ref b, .ref a], 0, .ref b, rfl, rfl, .inl (.inl upd_same), rfl, .ref a, .ref b, rfl, ?_⟩⟩
    refine grow_rest (at_m _ _) (at_o _ _) (at_p _ _) (at_t _ _) ab (old f1 f2 a _ h1) (old f1 f2 b _ h2) p0 hx1 (by rw [r1.length]; exact z1) (by rw [r2.length]; exact z2) (fin _ _ _ _ _ ((upd_ne ab).trans upd_same) upd_same (fun c u ca cb hcu => by
      rw [upd_ne cb, upd_ne ca, upd_ne ca]
      exact old f1 f2 c u hcu) (.set _ (.int t) (r1.append (.cons hx2 .nil))) (r2.append (.cons (.int t) .nil)))
  · split at hg
    case isFalse => cases hg
    rename_i _ hk
    subst hk
    split at hg
    case h_2 => cases hg
    rename_i r' hg'
    cases hg
    unfold grow1 at hg'
    split at hg'
    case isFalse => cases hg'
    rename_i hc
    have ⟨p0, z2, z1⟩ := hc
    split at hg'
    case h_2 => cases hg'
    rename_i dx hx
    cases hg'
    have ⟨x, hx1, hx2⟩ := r2.get hx
    refine ⟨.ref a, s1, .ref b, s2, by show 2 ≤ sizeLine; decide, fun q1 f1 => ⟨.int 1, sk, q1, [.ref a, .ref b], 1, .ref b, rfl, rfl, .inl (.inl upd_same), rfl, ?_⟩⟩
    refine ⟨.ref b, s2, .ref a, s1, by show 2 ≤ sizeLine; decide, fun q2 f2 => ⟨.int 1, sk, q2, [.ref b, .ref a], 1, .ref a, rfl, rfl, .inl (.inl upd_same), rfl, .ref b, .ref a, rfl, ?_⟩⟩
    refine grow_rest (at_m _ _) (at_o _ _) (at_p _ _) (at_t _ _) (Ne.symm ab) (old f1 f2 b _ h2) (old f1 f2 a _ h1) p0 hx1 (by rw [r2.length]; exact z2) (by rw [r1.length]; exact z1) (fin _ _ _ _ _ upd_same ((upd_ne (Ne.symm ab)).trans upd_same) (fun c u ca cb hcu => by
      rw [upd_ne ca, upd_ne cb, upd_ne cb]
      exact old f1 f2 c u hcu) (r1.append (.cons (.int t) .nil)) (.set _ (.int t) (r2.append (.cons hx2 .nil))))
/-- .. the four statements -/
theorem xss_grow {s1 s2 s3 s4 : Stmt} {kf ks km ko kk kp kt : Nat} (hK : ∀ i, (X i).K = G.K) (hd : kf ≠ ks ∧ km ≠ ko ∧ kk ≠ km ∧ kk ≠ ko ∧ kp ≠ km ∧ kp ≠ ko ∧ kt ≠ km ∧ kt ≠ ko) (hm : km ∉ P) (ho : ko ∉ P)
    (a1 : ∀ i, PS (X i) s1 (tPar km ko (tCons (tPick2 (X i).K kf ks kk) (tCons (tPick2 (X i).K ks kf kk) tNil)))) (a2 : ∀ i, PS (X i) s2 (tApp (X i).K (tVar km) (tOp (rIxL (X i).K) (tVar km) (tVar kp))))
    (a3 : ∀ i, PS (X i) s3 (tAsg (tVar kt) (L2.gSub (tVar km) (tVar kp) rSetL))) (a4 : ∀ i, PS (X i) s4 (tApp (X i).K (tVar ko) (tVar kt))) : XSs G X W P [s1, s2, s3, s4] (sGrow kf ks km ko kk kp kt) :=
  ⟨_, fun i => by
    have h := pss_cons (a1 i) (pss_cons (a2 i) (pss_cons (a3 i) (pss_one (a4 i))))
    rw [hK i] at h
    exact h, grow_snd hd hm ho⟩
end
end L3

set_option maxHeartbeats 1000000
namespace L3
open PySem PySem.Spec L2
/-! ### k in d, k not in d: dicts of one's own whose keys are ints or texts -/
def gInK (neg : Bool) : List Cl → Option Cl
  | [.fz kd, c] => match dctE c, keyD kd with
    | some es, some k => some (.fz (.bool (if neg = true then !(getK es k).isSome else (getK es k).isSome)))
    | _, _ => none
  | _ => none
def rInK (neg : Bool) : R2 := fun y x H Q => ∃ a o, x = .ref a ∧ DGet H a y o ∧ Q (.bl (if neg = true then !o.isSome else o.isSome)) H
section
variable {ι : Type} {G : Gd} {X : ι → Cx} {W : WX} {pos : Pos} {a b : Expr} {fa fb : Fn Bv}
theorem prm_inK (neg : Bool) : Prm G (l2 (rInK neg)) (gInK neg) := fun F H L cs vs c Q hr hc e hQ => by
  unfold gInK at e
  split at e
  case h_2 => cases e
  have ⟨v1, v2, A1, A2, ev, h1, h2⟩ := crs2 hc
  subst ev
  split at e
  case h_2 => cases e
  rename_i es k q1 q2
  cases e
  have ⟨p, kvs, ev, hd, r⟩ := dctE_cr h2 hr.sub q1
  subst ev
  have ek := keyD_rp (h1.rpF rfl) q2
  rcases getK_rp k r with ⟨g1, g2⟩ | ⟨v, d, g1, g2, _⟩
  · rw [g1] at hQ
    exact ⟨p, none, rfl, .inl ⟨kvs, k, hd, ek, g2.symm⟩, hQ F H _ (Same.refl _) (hr.push (.bl _))⟩
  · rw [g1] at hQ
    exact ⟨p, some v, rfl, .inl ⟨kvs, k, hd, ek, g2.symm⟩, hQ F H _ (Same.refl _) (hr.push (.bl _))⟩
theorem xt_ninK (hu : ∀ j, (X j).A.units + 1 < cLine) (ha : XB G X W a fa) (hb : XB G X W b fb) (hm : behindInMarks .NotIn b = false) : XT G X W (.Compare a [.NotIn] [b] pos) (fTst (f2 fa fb (gInK true))) := by
  have ⟨ta, h1, h2⟩ := ha
  have ⟨tb, h3, h4⟩ := hb
  exact ⟨_, fun i => pt_cmp (pc_dnotin (hu i) (h1 i) (h3 i)) hm, snd_tB (snd_prm (r := l2 (rInK true)) (snd_cons h2 (snd_cons h4 snd_nil)) (prm_inK true))⟩
theorem xt_inK (hu : ∀ j, (X j).A.units + 1 < cLine) (ha : XB G X W a fa) (hb : XB G X W b fb) (hm : behindInMarks .In b = false) : XT G X W (.Compare a [.In] [b] pos) (fTst (f2 fa fb (gInK false))) := by
  have ⟨ta, h1, h2⟩ := ha
  have ⟨tb, h3, h4⟩ := hb
  exact ⟨_, fun i => pt_cmp (pc_din (hu i) (h1 i) (h3 i)) hm, snd_tB (snd_prm (r := l2 (rInK false)) (snd_cons h2 (snd_cons h4 snd_nil)) (prm_inK false))⟩
end
end L3

namespace L3
open PySem PySem.Spec L2
/-! ### evaluation: what simp turns (printed by ev.py) -/
@[simp] theorem e_lk_pl (ρ : En) (k : Nat) : lk ρ (.pl k) = (ρ[k]?).join := rfl
@[simp] theorem e_lk_vl (ρ : En) (c : Cl) : lk ρ (.vl c) = some c := rfl
@[simp] theorem e_lks_nil (ρ : En) : lks ρ [] = some [] := rfl
@[simp] theorem e_lks_cons (ρ : En) (b : Bv) (bs : List Bv) : lks ρ (b :: bs) = (match lk ρ b, lks ρ bs with | some c, some cs => some (c :: cs) | _, _ => none) := rfl
@[simp] theorem e_fz_pl (ρ : En) (k : Nat) : fzB ρ (.pl k) = (match (ρ[k]?).join with
    | some c => match c.data with
      | some d => some (d, ρ.set k (some (.fz d)))
      | none => none
    | none => none) := rfl
@[simp] theorem e_fz_vl (ρ : En) (c : Cl) : fzB ρ (.vl c) = (match c.data with
    | some d => some (d, ρ)
    | none => none) := rfl
@[simp] theorem e_fzs_nil (ρ : En) : fzBs ρ [] = some ([], ρ) := rfl
@[simp] theorem e_fzs_cons (ρ : En) (b : Bv) (bs : List Bv) : fzBs ρ (b :: bs) = (match fzBs ρ bs with
    | some (ds, ρ1) => match fzB ρ1 b with
      | some (d, ρ2) => some (d :: ds, ρ2)
      | none => none
    | none => none) := rfl
@[simp] theorem e_data_fz (d : D) : Cl.data (.fz d) = some d := rfl
@[simp] theorem e_data_lst (ds : List D) : Cl.data (.lst ds) = some (.list ds) := rfl
@[simp] theorem e_data_dct (es : List (Key × D)) : Cl.data (.dct es) = some (.dict (es.map fun p => (kD p.1, p.2))) := rfl
@[simp] theorem e_dctE_dct (es : List (Key × D)) : dctE (.dct es) = some es := rfl
@[simp] theorem e_dctE_dlk (es : List (Key × D)) : dctE (.dlk es) = some es := rfl
@[simp] theorem e_gIxTT (c : Cl) (kd : D) : gIxT [c, .fz kd] = (match dttE c, keyTD kd with
  | some es, some p => (getTT es (kT p)).map .fz
  | _, _ => none) := rfl
@[simp] theorem e_gNinT (c : Cl) (kd : D) : gNinT [.fz kd, c] = (match dttE c, keyTD kd with
  | some es, some p => some (.fz (.bool (!(getTT es (kT p)).isSome)))
  | _, _ => none) := rfl
@[simp] theorem e_dttE_dtt (es : List (List Key × D)) : dttE (.dtt es) = some es := rfl
@[simp] theorem e_dttE_dlt (es : List (List Key × D)) : dttE (.dlt es) = some es := rfl
@[simp] theorem e_gIxD (c : Cl) (kd : D) : gIxD [c, .fz kd] = (match dctE c, keyD kd with
    | some es, some k => (getK es k).map .fz
    | _, _ => none) := rfl
@[simp] theorem e_gMax3 (i j k : Int) : gMax3 [.fz (.int i), .fz (.int j), .fz (.int k)] = some (.fz (.int (if (if i < j then j else i) < k then k else (if i < j then j else i)))) := rfl
@[simp] theorem e_restR0 (ρ ρ' : En) : restR ρ [] ρ' = ρ' := rfl
@[simp] theorem e_restR1 (ρ ρ' : En) (j : Nat) (vs : List Nat) : restR ρ (j :: vs) ρ' = restR ρ vs (match ρ[j]?, ρ'[j]? with
    | some (some (.fz d)), some none => ρ'.set j (some (.fz d))
    | _, _ => ρ') := rfl
@[simp] theorem e_callM (m : Mr) (ρ : En) (bs : List Bv) : callM m ρ bs = (match takeA ρ bs with
  | some (cs, ρ2) => match m cs with
    | some (.ok c outs) => some (.ok c (giveA ρ2 bs outs))
    | some (.ex x outs) => some (.ex x (giveA ρ2 bs outs))
    | none => none
  | none => none) := rfl
@[simp] theorem e_gAddXL (xs ys : List D) : gAddX [.lst xs, .lst ys] = (if lsz (xs.length + ys.length) = true then some (.lst (xs ++ ys)) else none) := rfl
@[simp] theorem e_gAddXF (xs ys : List D) : gAddX [.fz (.list xs), .lst ys] = (if lsz (xs.length + ys.length) = true then some (.lst (xs ++ ys)) else none) := rfl
@[simp] theorem e_callP (c : Str) (m : Mr) (ρ : En) (b : Bv) : callP c m ρ b = (match lk ρ b with
  | some (.ins c' _) => if c' = c then match takeA ρ [b] with
    | some (cs, ρ2) => match m cs with
      | some (.ok c1 outs) => some (c1, giveA ρ2 [b] outs)
      | _ => none
    | none => none
    else none
  | _ => none) := rfl
@[simp] theorem e_gIntAI (i : Int) : gIntA [.fz (.int i)] = some (.fz (.int i)) := rfl
@[simp] theorem e_keyD_int (i : Int) : keyD (.int i) = some (.inl i) := rfl
@[simp] theorem e_keyD_str (x : Str) : keyD (.str x) = some (.inr x) := rfl
@[simp] theorem e_asB (b : Bool) : asB (.fz (.bool b)) = some b := rfl
@[simp] theorem e_take_nil (ρ : En) : takeA ρ [] = some ([], ρ) := rfl
@[simp] theorem e_take_vl (ρ : En) (c : Cl) (bs : List Bv) : takeA ρ (.vl c :: bs) = (match takeA ρ bs with
    | some (cs, ρ1) => some (c :: cs, ρ1)
    | none => none) := rfl
@[simp] theorem e_take_pl (ρ : En) (i : Nat) (bs : List Bv) : takeA ρ (.pl i :: bs) = (match takeA ρ bs with
    | some (cs, ρ1) => match (ρ1[i]?).join with
        | some (.fz d) => some (.fz d :: cs, ρ1)
        | some c => some (c :: cs, ρ1.set i none)
        | none => none
    | none => none) := rfl
@[simp] theorem e_give_nil (ρ : En) (os : List (Option Cl)) : giveA ρ [] os = ρ := by cases os <;> rfl
@[simp] theorem e_give_none (ρ : En) (bs : List Bv) : giveA ρ bs [] = ρ := by
  cases bs with
  | nil => rfl
  | cons b bs => cases b <;> rfl
@[simp] theorem e_give_pls (ρ : En) (i : Nat) (bs : List Bv) (c : Cl) (os : List (Option Cl)) : giveA ρ (.pl i :: bs) (some c :: os) = giveA (match ρ[i]? with | some none => ρ.set i (some c) | _ => ρ) bs os := rfl
@[simp] theorem e_give_pln (ρ : En) (i : Nat) (bs : List Bv) (os : List (Option Cl)) : giveA ρ (.pl i :: bs) (none :: os) = giveA ρ bs os := rfl
@[simp] theorem e_give_vl (ρ : En) (c : Cl) (bs : List Bv) (o : Option Cl) (os : List (Option Cl)) : giveA ρ (.vl c :: bs) (o :: os) = giveA ρ bs os := by cases o <;> rfl
@[simp] theorem e_fin_nx (fl : List Bool) (ρ : En) : fin fl (.nx ρ) = some (.ok (.fz .none) (outsOf fl ρ)) := rfl
@[simp] theorem e_fin_rt (fl : List Bool) (c : Cl) (ρ : En) : fin fl (.rt c ρ) = some (.ok c (outsOf fl ρ)) := rfl
@[simp] theorem e_fin_ex (fl : List Bool) (x : Ex) (ρ : En) : fin fl (.ex x ρ) = some (.ex x (outsOf fl ρ)) := rfl
@[simp] theorem e_gN (i : Nat) (d : D) (ρ : En) : gN i d ρ = if i < ρ.length then some (ρ.set i (some (.fz d))) else none := rfl
@[simp] theorem e_gsNil (ρ : En) : gsNil [] ρ = some ρ := rfl
@[simp] theorem e_gsCons (f : FG) (g : FGs) (d : D) (ds : List D) (ρ : En) : gsCons f g (d :: ds) ρ = (match f d ρ with
    | some ρ1 => g ds ρ1
    | none => none) := rfl
@[simp] theorem e_gTp (n : Nat) (f : FGs) (ds : List D) (ρ : En) : gTp n f (.tuple ds) ρ = if ds.length = n then f ds ρ else none := rfl
@[simp] theorem e_gLs (n : Nat) (f : FGs) (ds : List D) (ρ : En) : gLs n f (.list ds) ρ = if ds.length = n then f ds ρ else none := rfl
@[simp] theorem e_fSu (k : Nat) (sub : Ex → Bool) (f : Ex → Option Cl) (x : Ex) (n : Nat) (ρ : En) : fSu k sub f x n ρ = if sub x = true then match f x with
  | some c => if k < ρ.length then some (.nx (ρ.set k (some c))) else none
  | none => none
  else none := rfl
@[simp] theorem e_hdl_nil (i : Nat) (x : Ex) (n : Nat) (ρ : En) : hdl i [] x n ρ = some (.ex x ρ) := rfl
@[simp] theorem e_hdl_cons (i : Nat) (sub : Ex → Option Bool) (f : Ex → FS) (l : List ((Ex → Option Bool) × (Ex → FS))) (x : Ex) (n : Nat) (ρ : En) : hdl i ((sub, f) :: l) x n ρ = (match sub x with
    | some true => if i < ρ.length then (f x n (ρ.set i none)).bind (Ot.gone i) else none
    | some false => hdl i l x n ρ
    | none => none) := rfl
@[simp] theorem e_gone_nx (i : Nat) (ρ : En) : Ot.gone i (.nx ρ) = some (.nx (ρ.set i none)) := rfl
@[simp] theorem e_gAddI (i j : Int) : gAdd [.fz (.int i), .fz (.int j)] = some (.fz (.int (i + j))) := rfl
@[simp] theorem e_gSubI (i j : Int) : gSub [.fz (.int i), .fz (.int j)] = some (.fz (.int (i - j))) := rfl
@[simp] theorem e_gNegI (i : Int) : gNeg [.fz (.int i)] = some (.fz (.int (-i))) := rfl
@[simp] theorem e_gII (p : Int → Int → Bool) (i j : Int) : gI p [.fz (.int i), .fz (.int j)] = some (.fz (.bool (p i j))) := rfl
@[simp] theorem e_gLenL (ds : List D) : gLen [.lst ds] = some (.fz (.int ds.length)) := rfl
@[simp] theorem e_gLenF (ds : List D) : gLen [.fz (.list ds)] = some (.fz (.int ds.length)) := rfl
@[simp] theorem e_gLenT (ds : List D) : gLen [.fz (.tuple ds)] = some (.fz (.int ds.length)) := rfl
@[simp] theorem e_gLenAL (ds : List D) : gLenA [.lst ds] = some (.fz (.int ds.length)) := rfl
@[simp] theorem e_gLenAF (ds : List D) : gLenA [.fz (.list ds)] = some (.fz (.int ds.length)) := rfl
@[simp] theorem e_gLenAT (ds : List D) : gLenA [.fz (.tuple ds)] = some (.fz (.int ds.length)) := rfl
@[simp] theorem e_gLenAD (es : List (Key × D)) : gLenA [.dct es] = some (.fz (.int es.length)) := rfl
@[simp] theorem e_isL (ds : List D) : isL (.lst ds) = true := rfl
@[simp] theorem e_gIxL (ds : List D) (i : Int) : gIx [.lst ds, .fz (.int i)] = (atI ds i).map .fz := rfl
@[simp] theorem e_gIxF (ds : List D) (i : Int) : gIx [.fz (.list ds), .fz (.int i)] = (atI ds i).map .fz := rfl
@[simp] theorem e_gIxT (ds : List D) (i : Int) : gIx [.fz (.tuple ds), .fz (.int i)] = (atI ds i).map .fz := rfl
@[simp] theorem e_gTupleL (ds : List D) : gTuple [.lst ds] = some (.fz (.tuple ds)) := rfl
@[simp] theorem e_gTupleF (ds : List D) : gTuple [.fz (.list ds)] = some (.fz (.tuple ds)) := rfl
@[simp] theorem e_gTupleT (ds : List D) : gTuple [.fz (.tuple ds)] = some (.fz (.tuple ds)) := rfl
@[simp] theorem e_gListL (ds : List D) : gList [.lst ds] = some (.lst ds) := rfl
@[simp] theorem e_gListF (ds : List D) : gList [.fz (.list ds)] = some (.lst ds) := rfl
@[simp] theorem e_gListT (ds : List D) : gList [.fz (.tuple ds)] = some (.lst ds) := rfl
@[simp] theorem e_gMax (i j : Int) : gMax2 [.fz (.int i), .fz (.int j)] = some (.fz (.int (max i j))) := by
  show some (Cl.fz (.int (if j > i then j else i))) = _
  rw [show max i j = if j > i then j else i from by
    split <;> omega]
@[simp] theorem e_gMin (i j : Int) : gMin2 [.fz (.int i), .fz (.int j)] = some (.fz (.int (min i j))) := by
  show some (Cl.fz (.int (if j < i then j else i))) = _
  rw [show min i j = if j < i then j else i from by
    split <;> omega]
@[simp] theorem e_gAbs (i : Int) : gAbs [.fz (.int i)] = some (.fz (.int i.natAbs)) := by
  show some (Cl.fz (.int (if i < 0 then -i else i))) = _
  rw [show (i.natAbs : Int) = if i < 0 then -i else i from by
    split <;> omega]
@[simp] theorem e_gIntI (i : Int) : gInt [.fz (.int i)] = some (.fz (.int i)) := rfl
/-! ints -/
def is_int (d : D) : Bool := match d with
  | .bool _ => true
  | .int _ => true
  | _ => false
@[simp] theorem e_isi_int : ∀ d : D, isiD "int" d = some (is_int d)
  | .none => show kitB "NoneType" "int" = some false from by decide +kernel
  | .bool _ => show kitB "bool" "int" = some true from by decide +kernel
  | .int _ => show kitB "int" "int" = some true from by decide +kernel
  | .str _ => show kitB "str" "int" = some false from by decide +kernel
  | .list _ => show kitB "list" "int" = some false from by decide +kernel
  | .tuple _ => show kitB "tuple" "int" = some false from by decide +kernel
  | .dict _ => show kitB "dict" "int" = some false from by decide +kernel
def is_bool (d : D) : Bool := match d with
  | .bool _ => true
  | _ => false
@[simp] theorem e_isi_bool : ∀ d : D, isiD "bool" d = some (is_bool d)
  | .none => show kitB "NoneType" "bool" = some false from by decide +kernel
  | .bool _ => show kitB "bool" "bool" = some true from by decide +kernel
  | .int _ => show kitB "int" "bool" = some false from by decide +kernel
  | .str _ => show kitB "str" "bool" = some false from by decide +kernel
  | .list _ => show kitB "list" "bool" = some false from by decide +kernel
  | .tuple _ => show kitB "tuple" "bool" = some false from by decide +kernel
  | .dict _ => show kitB "dict" "bool" = some false from by decide +kernel
def is_tuple (d : D) : Bool := match d with
  | .tuple _ => true
  | _ => false
@[simp] theorem e_isi_tuple : ∀ d : D, isiD "tuple" d = some (is_tuple d)
  | .none => show kitB "NoneType" "tuple" = some false from by decide +kernel
  | .bool _ => show kitB "bool" "tuple" = some false from by decide +kernel
  | .int _ => show kitB "int" "tuple" = some false from by decide +kernel
  | .str _ => show kitB "str" "tuple" = some false from by decide +kernel
  | .list _ => show kitB "list" "tuple" = some false from by decide +kernel
  | .tuple _ => show kitB "tuple" "tuple" = some true from by decide +kernel
  | .dict _ => show kitB "dict" "tuple" = some false from by decide +kernel
def is_list (d : D) : Bool := match d with
  | .list _ => true
  | _ => false
@[simp] theorem e_isi_list : ∀ d : D, isiD "list" d = some (is_list d)
  | .none => show kitB "NoneType" "list" = some false from by decide +kernel
  | .bool _ => show kitB "bool" "list" = some false from by decide +kernel
  | .int _ => show kitB "int" "list" = some false from by decide +kernel
  | .str _ => show kitB "str" "list" = some false from by decide +kernel
  | .list _ => show kitB "list" "list" = some true from by decide +kernel
  | .tuple _ => show kitB "tuple" "list" = some false from by decide +kernel
  | .dict _ => show kitB "dict" "list" = some false from by decide +kernel
def is_str (d : D) : Bool := match d with
  | .str _ => true
  | _ => false
@[simp] theorem e_isi_str : ∀ d : D, isiD "str" d = some (is_str d)
  | .none => show kitB "NoneType" "str" = some false from by decide +kernel
  | .bool _ => show kitB "bool" "str" = some false from by decide +kernel
  | .int _ => show kitB "int" "str" = some false from by decide +kernel
  | .str _ => show kitB "str" "str" = some true from by decide +kernel
  | .list _ => show kitB "list" "str" = some false from by decide +kernel
  | .tuple _ => show kitB "tuple" "str" = some false from by decide +kernel
  | .dict _ => show kitB "dict" "str" = some false from by decide +kernel
@[simp] theorem e_isi2_lt : ∀ d : D, isiD2 "list" "tuple" d = some (is_list d || is_tuple d)
  | .none => rfl
  | .bool _ => rfl
  | .int _ => rfl
  | .str _ => rfl
  | .list _ => rfl
  | .tuple _ => rfl
  | .dict _ => rfl
def zs (ns : List Int) : List D := ns.map PyData.int
@[simp] theorem zs_len (ns : List Int) : (zs ns).length = ns.length := List.length_map _
@[simp] theorem intsD_zs : ∀ ns : List Int, intsD (zs ns) = some ns
  | [] => rfl
  | n :: ns => by
    show (match intsD (zs ns) with | some ns => some (n :: ns) | none => none) = _
    rw [intsD_zs ns]
theorem zs_of {ds : List D} {ns : List Int} (h : intsD ds = some ns) : ds = zs ns := intsD_ok h
theorem zs_get {ns : List Int} {i : Nat} {x : Int} (h : ns[i]? = some x) : (zs ns)[i]? = some (.int x) := by
  unfold zs
  rw [List.getElem?_map, h]; rfl
theorem ixN_nat {n i : Nat} (h : i < n) : ixN n (i : Int) = some i := by
  unfold ixN
  rw [if_pos (by omega), if_pos (by omega)]; simp
theorem atI_zs {ns : List Int} {i : Nat} {x : Int} (h : ns[i]? = some x) : atI (zs ns) (i : Int) = some (.int x) := atI_nat (zs_get h)
theorem sh_int (i : Int) : SeqAt.shaped (.int i) = true := rfl
theorem lay_zs : ∀ ns : List Int, PyData.canLayAll0 (zs ns) = true
  | [] => rfl
  | _ :: ns => lay_zs ns
theorem eqv_int (i j : Int) : PyData.eqv (.int i) (.int j) = decide (i = j) := by
  unfold PyData.eqv
  first | rfl | simp
@[simp] theorem e_keyTD {p : List Int} (h : p ≠ []) : keyTD (.tuple (zs p)) = some p := by
  cases p with
  | nil => exact absurd rfl h
  | cons x p =>
    show (match intsD (zs (x :: p)) with
      | some (x :: p) => some (x :: p)
      | _ => none) = _
    rw [intsD_zs]
@[simp] theorem e_gEqI (i j : Int) : gEq [.fz (.int i), .fz (.int j)] = some (.fz (.bool (decide (i = j)))) := by
  show (if (SeqAt.shaped (.int i) && SeqAt.shaped (.int j)) = true then some (Cl.fz (.bool (PyData.eqv (.int i) (.int j)))) else none) = _
  rw [sh_int, sh_int, eqv_int]
  rfl
@[simp] theorem e_gNeI (i j : Int) : gNe [.fz (.int i), .fz (.int j)] = some (.fz (.bool (!decide (i = j)))) := by
  show (if (SeqAt.shaped (.int i) && SeqAt.shaped (.int j)) = true then some (Cl.fz (.bool (!PyData.eqv (.int i) (.int j)))) else none) = _
  rw [sh_int, sh_int, eqv_int]
  rfl
theorem dep_zs : ∀ ns : List Int, PyData.depthAll (zs ns) = 0
  | [] => rfl
  | _ :: ns => by
    show max 0 (PyData.depthAll (zs ns)) = 0
    rw [dep_zs ns]; rfl
theorem sh_tup (ns : List Int) : SeqAt.shaped (.tuple (zs ns)) = true := by
  show (PyData.canLayAll0 (zs ns) && decide (PyData.depthAll (zs ns) + 1 ≤ 64)) = true
  rw [lay_zs, dep_zs]; rfl
theorem sh_lst (ns : List Int) : SeqAt.shaped (.list (zs ns)) = true := by
  show (PyData.canLayAll0 (zs ns) && decide (PyData.depthAll (zs ns) + 1 ≤ 64)) = true
  rw [lay_zs, dep_zs]; rfl
theorem eqv_zs : ∀ a b : List Int, PyData.eqvAll (zs a) (zs b) = decide (a = b)
  | [], [] => rfl
  | [], _ :: _ => rfl
  | _ :: _, [] => rfl
  | x :: a, y :: b => by
    show (PyData.eqv (.int x) (.int y) && PyData.eqvAll (zs a) (zs b)) = _
    rw [eqv_int, eqv_zs a b]
    by_cases h1 : x = y <;> by_cases h2 : a = b <;> simp [h1, h2]
@[simp] theorem e_gEqT (a b : List Int) : gEq [.fz (.tuple (zs a)), .fz (.tuple (zs b))] = some (.fz (.bool (decide (a = b)))) := by
  show (if (SeqAt.shaped (.tuple (zs a)) && SeqAt.shaped (.tuple (zs b))) = true then some (Cl.fz (.bool (PyData.eqvAll (zs a) (zs b)))) else none) = _
  rw [sh_tup, sh_tup, eqv_zs]
  rfl
@[simp] theorem e_gNeT (a b : List Int) : gNe [.fz (.tuple (zs a)), .fz (.tuple (zs b))] = some (.fz (.bool (!decide (a = b)))) := by
  show (if (SeqAt.shaped (.tuple (zs a)) && SeqAt.shaped (.tuple (zs b))) = true then some (Cl.fz (.bool (!PyData.eqvAll (zs a) (zs b)))) else none) = _
  rw [sh_tup, sh_tup, eqv_zs]
  rfl
@[simp] theorem e_gEqT0 (a : List Int) : gEq [.fz (.tuple (zs a)), .fz (.tuple [])] = some (.fz (.bool (decide (a = [])))) := e_gEqT a []
@[simp] theorem e_gNeT0 (a : List Int) : gNe [.fz (.tuple (zs a)), .fz (.tuple [])] = some (.fz (.bool (!decide (a = [])))) := e_gNeT a []
theorem zs_nil : zs [] = [] := rfl
theorem zs_cons (x : Int) (ns : List Int) : zs (x :: ns) = .int x :: zs ns := rfl
theorem zs_app (a b : List Int) : zs (a ++ b) = zs a ++ zs b := List.map_append
theorem atI_neg1 (ns : List Int) : atI (zs ns) (-1) = ns.getLast?.map PyData.int := by
  by_cases h : ns = []
  · subst h; rfl
  · have e : ns.dropLast ++ [ns.getLast h] = ns := List.dropLast_concat_getLast h
    rw [List.getLast?_eq_getLast h]
    have := atI_last (zs ns.dropLast) (.int (ns.getLast h))
    rw [show zs ns.dropLast ++ [.int (ns.getLast h)] = zs (ns.dropLast ++ [ns.getLast h]) from (zs_app ns.dropLast [ns.getLast h]).symm, e] at this
    exact this
theorem gEqLL (c1 c2 : Cl) (a b : List Int) (h1 : c1.data = some (.list (zs a))) (h2 : c2.data = some (.list (zs b))) : gEq [c1, c2] = some (.fz (.bool (decide (a = b)))) := by
  show (match c1.data, c2.data with
    | some d, some e => if (SeqAt.shaped d && SeqAt.shaped e) = true then some (Cl.fz (.bool (PyData.eqv d e))) else none
    | _, _ => none) = _
  rw [h1, h2]
  show (if (SeqAt.shaped (.list (zs a)) && SeqAt.shaped (.list (zs b))) = true then some (Cl.fz (.bool (PyData.eqvAll (zs a) (zs b)))) else none) = _
  rw [sh_lst, sh_lst, eqv_zs]
  rfl
@[simp] theorem e_gEqL (a b : List Int) : gEq [.lst (zs a), .lst (zs b)] = some (.fz (.bool (decide (a = b)))) := gEqLL _ _ a b rfl rfl
@[simp] theorem e_gEqL0 (a : List Int) : gEq [.lst (zs a), .lst []] = some (.fz (.bool (decide (a = [])))) := gEqLL _ _ a [] rfl rfl
@[simp] theorem e_gEqL00 : gEq [.lst [], .lst []] = some (.fz (.bool true)) := gEqLL _ _ [] [] rfl rfl
theorem smI_nat {n : Nat} (h : n ≤ 1000000) : smI (n : Int) = true := Nat.ble_eq_true_of_le (by omega)
theorem log2_lt {n k : Nat} (h : n < 2 ^ k) (hk : 0 < k) : n.log2 < k := by
  by_cases h0 : n = 0
  · subst h0
    exact hk
  · exact (Nat.log2_lt h0).mpr h
theorem mulOk {i j : Int} (h : i.natAbs < 2 ^ 64 ∨ j.natAbs < 2 ^ 64) : mulBad i j = false := by
  have key : ∀ x : Int, x.natAbs < 2 ^ 64 → decide (Builtin.Int.intBits x > shortFactorBits) = false := fun x hx => by
    refine decide_eq_false fun z => ?_
    unfold Builtin.Int.intBits shortFactorBits at z
    split at z
    · omega
    · have := log2_lt hx (by decide)
      omega
  unfold mulBad
  rcases h with h | h
  · rw [key i h]; rfl
  · rw [key j h, Bool.and_false]; rfl
theorem e_gMulI {i j : Int} (h : i.natAbs < 2 ^ 64 ∨ j.natAbs < 2 ^ 64) : gMul [.fz (.int i), .fz (.int j)] = some (.fz (.int (i * j))) := by
  show (if mulBad i j = true then none else some (Cl.fz (.int (i * j)))) = _
  rw [mulOk h]; rfl
theorem e_gModI {i j : Int} (h : j ≠ 0) : gMod [.fz (.int i), .fz (.int j)] = some (.fz (.int (i.fmod j))) := by
  show (if j = 0 then none else some (Cl.fz (.int (i.fmod j)))) = _
  rw [if_neg h]
theorem pylong_small {i j : Int} (h : j.natAbs < 2 ^ 9000) : Builtin.divisionGoesByPylong i j = false := by
  unfold Builtin.divisionGoesByPylong
  refine Bool.and_eq_false_imp.mpr fun z => ?_
  have z := of_decide_eq_true z
  dsimp only at z
  split at z
  · omega
  · have := log2_lt h (by decide)
    omega
theorem e_gFdivI {i j : Int} (h : j ≠ 0) (h2 : j.natAbs < 2 ^ 9000) : gFdiv [.fz (.int i), .fz (.int j)] = some (.fz (.int (i.fdiv j))) := by
  show (if (decide (j ≠ 0) && !Builtin.divisionGoesByPylong i j) = true then some (Cl.fz (.int (i.fdiv j))) else none) = _
  rw [pylong_small h2, decide_eq_true h]; rfl
theorem rep1 {α : Type} (x : α) : ∀ k : Nat, (List.replicate k [x]).flatten = List.replicate k x
  | 0 => rfl
  | k + 1 => by
    rw [List.replicate_succ, List.flatten_cons, rep1 x k, List.replicate_succ]; rfl
theorem zs_rep (x : Int) (k : Nat) : zs (List.replicate k x) = List.replicate k (.int x) := List.map_replicate
theorem e_gRep {x k : Int} (h1 : -10000000 ≤ k) (h2 : k ≤ 10000000) : gMul [.lst [.int x], .fz (.int k)] = some (.lst (zs (List.replicate k.toNat x))) := by
  show (if (Nat.ble k.natAbs 10000000 && lsz ([PyData.int x].length * k.toNat)) = true then some (Cl.lst (List.replicate k.toNat [PyData.int x]).flatten) else none) = _
  have e : (Nat.ble k.natAbs 10000000 && lsz ([PyData.int x].length * k.toNat)) = true := by
    unfold lsz
    rw [Bool.and_eq_true]
    refine ⟨Nat.ble_eq_true_of_le (by omega), decide_eq_true ?_⟩
    show 1 * k.toNat ≤ _
    omega
  rw [if_pos e, rep1, zs_rep]
theorem wh_step {t : Fn Bool} {f : FS} {n m : Nat} {ρ ρ1 ρ2 : En} (h1 : t n ρ = some (.ok true ρ1)) (h2 : f n ρ1 = some (.nx ρ2)) : whF t f n (m + 1) ρ = whF t f n m ρ2 := by
  show (bS (t n ρ) fun c ρ1 => if c = true then (match f n ρ1 with
      | some (.nx ρ2) => whF t f n m ρ2
      | some (.ct ρ2) => whF t f n m ρ2
      | some (.bk ρ2) => some (.nx ρ2)
      | some (.rt c ρ2) => some (.rt c ρ2)
      | some (.ex x ρ2) => some (.ex x ρ2)
      | none => none) else some (.nx ρ1)) = _
  rw [h1, bS_ok, if_pos rfl, h2]
theorem wh_stop {t : Fn Bool} {f : FS} {n m : Nat} {ρ ρ1 : En} (h1 : t n ρ = some (.ok false ρ1)) : whF t f n (m + 1) ρ = some (.nx ρ1) := by
  show (bS (t n ρ) fun c ρ1 => if c = true then (match f n ρ1 with
      | some (.nx ρ2) => whF t f n m ρ2
      | some (.ct ρ2) => whF t f n m ρ2
      | some (.bk ρ2) => some (.nx ρ2)
      | some (.rt c ρ2) => some (.rt c ρ2)
      | some (.ex x ρ2) => some (.ex x ρ2)
      | none => none) else some (.nx ρ1)) = _
  rw [h1, bS_ok, if_neg Bool.false_ne_true]
theorem for_step {g : FG} {f : FS} {n : Nat} {d : D} {ds : List D} {ρ ρ1 ρ2 : En} (h1 : g d ρ = some ρ1) (h2 : f n ρ1 = some (.nx ρ2)) : forF g f n (d :: ds) ρ = forF g f n ds ρ2 := by
  rw [forF, h1]
  dsimp only
  rw [h2]
theorem for_ex {g : FG} {f : FS} {n : Nat} {d : D} {ds : List D} {ρ ρ1 ρ2 : En} {x : Ex} (h1 : g d ρ = some ρ1) (h2 : f n ρ1 = some (.ex x ρ2)) : forF g f n (d :: ds) ρ = some (.ex x ρ2) := by
  rw [forF, h1]
  dsimp only
  rw [h2]
theorem for_rt {g : FG} {f : FS} {n : Nat} {d : D} {ds : List D} {ρ ρ1 ρ2 : En} {c : Cl} (h1 : g d ρ = some ρ1) (h2 : f n ρ1 = some (.rt c ρ2)) : forF g f n (d :: ds) ρ = some (.rt c ρ2) := by
  rw [forF, h1]
  dsimp only
  rw [h2]
theorem lc_step {N : Nat} {g : FG} {e : Fn Bv} {vs : List Nat} {n : Nat} {d y : D} {ds acc : List D} {ρ ρ2 ρ4 ρ5 : En} (h1 : g d ρ = some ρ2) (h2 : ρ2.length = N) (h3 : fFz e n ρ2 = some (.ok (.fz y) ρ4)) (h5 : wipR ρ4 vs = ρ5) : lcF N g fYes e vs n (d :: ds) ρ acc = lcF N g fYes e vs n ds ρ5 (acc ++ [y]) := by
  rw [lcF, h1]
  dsimp only
  rw [if_pos h2]
  show (match fFz e n ρ2 with
        | some (.ok (.fz y) ρ4) => lcF N g fYes e vs n ds (wipR ρ4 vs) (acc ++ [y])
        | _ => none) = _
  rw [h3, ← h5]
theorem lc_stepT {N : Nat} {g : FG} {t : Fn Bool} {e : Fn Bv} {vs : List Nat} {n : Nat} {d y : D} {ds acc : List D} {ρ ρ2 ρ3 ρ4 ρ5 : En} (h1 : g d ρ = some ρ2) (h2 : ρ2.length = N) (ht : t n ρ2 = some (.ok true ρ3)) (h3 : fFz e n ρ3 = some (.ok (.fz y) ρ4)) (h5 : wipR ρ4 vs = ρ5) : lcF N g t e vs n (d :: ds) ρ acc = lcF N g t e vs n ds ρ5 (acc ++ [y]) := by
  rw [lcF, h1]
  dsimp only
  rw [if_pos h2, ht]
  dsimp only
  rw [h3, ← h5]
theorem lc_stepF {N : Nat} {g : FG} {t : Fn Bool} {e : Fn Bv} {vs : List Nat} {n : Nat} {d : D} {ds acc : List D} {ρ ρ2 ρ3 ρ5 : En} (h1 : g d ρ = some ρ2) (h2 : ρ2.length = N) (ht : t n ρ2 = some (.ok false ρ3)) (h5 : wipR ρ3 vs = ρ5) : lcF N g t e vs n (d :: ds) ρ acc = lcF N g t e vs n ds ρ5 acc := by
  rw [lcF, h1]
  dsimp only
  rw [if_pos h2, ht, ← h5]
theorem e_gFdivS {i j : Int} (h : j ≠ 0) (h2 : j.natAbs < 2 ^ 64) : gFdiv [.fz (.int i), .fz (.int j)] = some (.fz (.int (i.fdiv j))) :=
  e_gFdivI h (Nat.lt_of_lt_of_le h2 (Nat.pow_le_pow_right (Nat.zero_lt_succ 1) (by omega)))
/-- a loop by an invariant over what it has taken -/
theorem forF_inv {g : FG} {f : FS} {n : Nat} (I : List D → En → Prop) (tot : List D) (step : ∀ pre d post ρ, pre ++ d :: post = tot → I pre ρ → ∃ ρ1 ρ2, g d ρ = some ρ1 ∧ (f n ρ1 = some (.nx ρ2) ∨ f n ρ1 = some (.ct ρ2)) ∧ I (pre ++ [d]) ρ2) :
    ∀ (ds pre : List D) (ρ : En), pre ++ ds = tot → I pre ρ → ∃ ρ', forF g f n ds ρ = some (.nx ρ') ∧ I tot ρ'
  | [], pre, ρ, e, h => ⟨ρ, rfl, by rw [List.append_nil] at e; rw [← e]; exact h⟩
  | d :: ds, pre, ρ, e, h => by
    obtain ⟨ρ1, ρ2, h1, h2, h3⟩ := step pre d ds ρ e h
    obtain ⟨ρ', h4, h5⟩ := forF_inv I tot step ds (pre ++ [d]) ρ2 (by rw [List.append_assoc]; exact e) h3
    refine ⟨ρ', ?_, h5⟩
    unfold forF
    rw [h1]
    dsimp only
    rcases h2 with h2 | h2 <;> rw [h2] <;> exact h4
theorem for_inv {g : FG} {f : FS} {n : Nat} {ds : List D} {ρ : En} (I : List D → En → Prop) (h : I [] ρ) (step : ∀ pre d post ρ, pre ++ d :: post = ds → I pre ρ → ∃ ρ1 ρ2, g d ρ = some ρ1 ∧ (f n ρ1 = some (.nx ρ2) ∨ f n ρ1 = some (.ct ρ2)) ∧ I (pre ++ [d]) ρ2) : ∃ ρ', forF g f n ds ρ = some (.nx ρ') ∧ I ds ρ' :=
  forF_inv I ds step ds [] ρ rfl h
/-- a comprehension by an invariant over what it has taken and made -/
theorem lcF_inv {N : Nat} {g : FG} {t : Fn Bool} {e : Fn Bv} {vs : List Nat} {n : Nat} (I : List D → List D → En → Prop) (tot : List D)
    (step : ∀ pre d post acc ρ, pre ++ d :: post = tot → I pre acc ρ → ∃ ρ2, g d ρ = some ρ2 ∧ ρ2.length = N ∧ ((∃ ρ3 y ρ4, t n ρ2 = some (.ok true ρ3) ∧ fFz e n ρ3 = some (.ok (.fz y) ρ4) ∧ I (pre ++ [d]) (acc ++ [y]) (wipR ρ4 vs)) ∨ (∃ ρ3, t n ρ2 = some (.ok false ρ3) ∧ I (pre ++ [d]) acc (wipR ρ3 vs)))) :
    ∀ (ds pre : List D) (acc : List D) (ρ : En), pre ++ ds = tot → I pre acc ρ → ∃ acc' ρ', lcF N g t e vs n ds ρ acc = some (.ok (.lst acc') ρ') ∧ I tot acc' ρ'
  | [], pre, acc, ρ, e, h => ⟨acc, ρ, rfl, by rw [List.append_nil] at e; rw [← e]; exact h⟩
  | d :: ds, pre, acc, ρ, e, h => by
    obtain ⟨ρ2, h1, h2, h3⟩ := step pre d ds acc ρ e h
    unfold lcF
    rw [h1]
    dsimp only
    rw [if_pos h2]
    rcases h3 with ⟨ρ3, y, ρ4, h4, h5, h6⟩ | ⟨ρ3, h4, h6⟩
    · rw [h4]
      dsimp only
      rw [h5]
      exact lcF_inv I tot step ds (pre ++ [d]) (acc ++ [y]) _ (by rw [List.append_assoc]; exact e) h6
    · rw [h4]
      exact lcF_inv I tot step ds (pre ++ [d]) acc _ (by rw [List.append_assoc]; exact e) h6
theorem lc_inv {N : Nat} {g : FG} {t : Fn Bool} {e : Fn Bv} {vs : List Nat} {n : Nat} {ds : List D} {ρ : En} (I : List D → List D → En → Prop) (h : I [] [] ρ)
    (step : ∀ pre d post acc ρ, pre ++ d :: post = ds → I pre acc ρ → ∃ ρ2, g d ρ = some ρ2 ∧ ρ2.length = N ∧ ((∃ ρ3 y ρ4, t n ρ2 = some (.ok true ρ3) ∧ fFz e n ρ3 = some (.ok (.fz y) ρ4) ∧ I (pre ++ [d]) (acc ++ [y]) (wipR ρ4 vs)) ∨ (∃ ρ3, t n ρ2 = some (.ok false ρ3) ∧ I (pre ++ [d]) acc (wipR ρ3 vs)))) :
    ∃ acc' ρ', lcF N g t e vs n ds ρ [] = some (.ok (.lst acc') ρ') ∧ I ds acc' ρ' := lcF_inv I ds step ds [] [] ρ rfl h
/-- a comprehension that changes nothing beside its own slots -/
theorem lc_map {N : Nat} {g : FG} {e : Fn Bv} {vs : List Nat} {n : Nat} {ρ : En} (φ : D → D) : ∀ (ds acc : List D), (∀ d ∈ ds, ∃ ρ2 ρ4, g d ρ = some ρ2 ∧ ρ2.length = N ∧ fFz e n ρ2 = some (.ok (.fz (φ d)) ρ4) ∧ wipR ρ4 vs = ρ) → lcF N g fYes e vs n ds ρ acc = some (.ok (.lst (acc ++ ds.map φ)) ρ)
  | [], acc, _ => by
    unfold lcF
    rw [List.map_nil, List.append_nil]
  | d :: ds, acc, h => by
    obtain ⟨ρ2, ρ4, h1, h2, h3, h4⟩ := h d List.mem_cons_self
    unfold lcF
    rw [h1]
    dsimp only
    rw [if_pos h2]
    show (match fFz e n ρ2 with
        | some (.ok (.fz y) ρ4) => lcF N g fYes e vs n ds (wipR ρ4 vs) (acc ++ [y])
        | _ => none) = _
    rw [h3]
    dsimp only
    rw [h4, lc_map φ ds (acc ++ [φ d]) fun d hd => h d (List.mem_cons_of_mem _ hd), List.append_assoc]
    rfl
@[simp] theorem e_fOf (f : Fn Cl) (n : Nat) (ρ : En) : fOf f n ρ = (bnd (f n ρ) fun c ρ' => some (.ok (.vl c) ρ')) := rfl
@[simp] theorem e_fPl (i : Nat) (n0 : Nat) (ρ : En) : fPl i n0 ρ = (if ((ρ[i]?).join).isSome then some (.ok (.pl i) ρ) else none) := rfl
@[simp] theorem e_fNil (n0 : Nat) (ρ : En) : fNil  n0 ρ = (some (.ok [] ρ)) := rfl
@[simp] theorem e_fCons (f : Fn Bv) (g : Fn (List Bv)) (n : Nat) (ρ : En) : fCons f g n ρ = (bnd (f n ρ) fun b ρ1 => bnd (g n ρ1) fun bs ρ2 => some (.ok (b :: bs) ρ2)) := rfl
@[simp] theorem e_fPr (f : Fn (List Bv)) (g : List Cl → Option Cl) (n : Nat) (ρ : En) : fPr f g n ρ = (bnd (f n ρ) fun bs ρ1 => match lks ρ1 bs with
    | some cs => match g cs with
      | some c => some (.ok c ρ1)
      | none => none
    | none => none) := rfl
@[simp] theorem e_fFz (f : Fn Bv) (n : Nat) (ρ : En) : fFz f n ρ = (bnd (f n ρ) fun b ρ1 => match fzB ρ1 b with
    | some (d, ρ2) => some (.ok (.fz d) ρ2)
    | none => none) := rfl
@[simp] theorem e_fMv (i : Nat) (n0 : Nat) (ρ : En) : fMv i n0 ρ = (match (ρ[i]?).join with
    | some c => some (.ok c (ρ.set i none))
    | none => none) := rfl
@[simp] theorem e_fC (d : D) (n0 : Nat) (ρ : En) : fC d n0 ρ = (some (.ok (.fz d) ρ)) := rfl
@[simp] theorem e_fTup (f : Fn (List Bv)) (n : Nat) (ρ : En) : fTup f n ρ = (bnd (f n ρ) fun bs ρ1 => match fzBs ρ1 bs with
    | some (ds, ρ2) => if ds.length ≤ 1000 then some (.ok (.fz (.tuple ds)) ρ2) else none
    | none => none) := rfl
@[simp] theorem e_fLst (f : Fn (List Bv)) (n : Nat) (ρ : En) : fLst f n ρ = (bnd (f n ρ) fun bs ρ1 => match fzBs ρ1 bs with
    | some (ds, ρ2) => if ds.length ≤ 1000 then some (.ok (.lst ds) ρ2) else none
    | none => none) := rfl
@[simp] theorem e_fTst (f : Fn Cl) (n : Nat) (ρ : En) : fTst f n ρ = (bnd (f n ρ) fun c ρ1 => match asB c with
    | some b => some (.ok b ρ1)
    | none => none) := rfl
@[simp] theorem e_fAnd (t u : Fn Bool) (n : Nat) (ρ : En) : fAnd t u n ρ = (bnd (t n ρ) fun c ρ1 => if c = true then u n ρ1 else some (.ok false ρ1)) := rfl
@[simp] theorem e_fOr (t u : Fn Bool) (n : Nat) (ρ : En) : fOr t u n ρ = (bnd (t n ρ) fun c ρ1 => if c = true then some (.ok true ρ1) else u n ρ1) := rfl
@[simp] theorem e_fNot (t : Fn Bool) (n : Nat) (ρ : En) : fNot t n ρ = (bnd (t n ρ) fun c ρ1 => some (.ok (!c) ρ1)) := rfl
@[simp] theorem e_fBv (t : Fn Bool) (n : Nat) (ρ : En) : fBv t n ρ = (bnd (t n ρ) fun c ρ1 => some (.ok (.fz (.bool c)) ρ1)) := rfl
@[simp] theorem e_fAndV (f : Fn Cl) (g : Fn Cl) (n : Nat) (ρ : En) : fAndV f g n ρ = (bnd (fTst f n ρ) fun c ρ1 => if c = true then g n ρ1 else some (.ok (.fz (.bool false)) ρ1)) := rfl
@[simp] theorem e_fOrV (f : Fn Cl) (g : Fn Cl) (n : Nat) (ρ : En) : fOrV f g n ρ = (bnd (fTst f n ρ) fun c ρ1 => if c = true then some (.ok (.fz (.bool true)) ρ1) else g n ρ1) := rfl
@[simp] theorem e_fIf (t : Fn Bool) (f g : Fn Cl) (n : Nat) (ρ : En) : fIf t f g n ρ = (bnd (t n ρ) fun c ρ1 => if c = true then f n ρ1 else g n ρ1) := rfl
@[simp] theorem e_fCh (fa fb fc : Fn Bv) (g g' : List Cl → Option Cl) (n : Nat) (ρ : En) : fCh fa fb fc g g' n ρ = (bnd (fa n ρ) fun ba ρ0 => bnd (fb n ρ0) fun bb ρ1 => match lks ρ1 [ba, bb] with
    | some cs => match g cs with
      | some (.fz (.bool true)) => bnd (fc n ρ1) fun bc ρ2 => match lks ρ2 [bb, bc] with
        | some cs' => match g' cs' with
          | some c' => some (.ok c' ρ2)
          | none => none
        | none => none
      | some (.fz (.bool false)) => some (.ok (.fz (.bool false)) ρ1)
      | _ => none
    | none => none) := rfl
@[simp] theorem e_fFzs (f : Fn (List Bv)) (n : Nat) (ρ : En) : fFzs f n ρ = (bnd (f n ρ) fun bs ρ1 => match fzBs ρ1 bs with
    | some (ds, ρ2) => some (.ok ds ρ2)
    | none => none) := rfl
@[simp] theorem e_fISeq (f : Fn Bv) (n : Nat) (ρ : En) : fISeq f n ρ = (bnd (fFzs (fCons f fNil) n ρ) fun ds ρ1 => match ds with
    | [d] => match asSeq d with
      | some xs => some (.ok xs ρ1)
      | none => none
    | _ => none) := rfl
@[simp] theorem e_fIEnum (f : Fn Bv) (n : Nat) (ρ : En) : fIEnum f n ρ = (bnd (fISeq f n ρ) fun ds ρ1 => some (.ok (enumD 0 ds) ρ1)) := rfl
@[simp] theorem e_fIZip (f g : Fn Bv) (n : Nat) (ρ : En) : fIZip f g n ρ = (bnd (fFzs (fCons f (fCons g fNil)) n ρ) fun ds ρ1 => match ds with
    | [.list xs, .list ys] => some (.ok (zipD xs ys) ρ1)
    | [.tuple xs, .tuple ys] => some (.ok (zipD xs ys) ρ1)
    | _ => none) := rfl
@[simp] theorem e_fIR1 (f : Fn Bv) (n : Nat) (ρ : En) : fIR1 f n ρ = (bnd (fFzs (fCons f fNil) n ρ) fun ds ρ1 => match ds with
    | [.int j] => if smI j = true then some (.ok (rngD 0 j.toNat) ρ1) else none
    | _ => none) := rfl
@[simp] theorem e_fIR2 (f g : Fn Bv) (n : Nat) (ρ : En) : fIR2 f g n ρ = (bnd (fFzs (fCons f (fCons g fNil)) n ρ) fun ds ρ1 => match ds with
    | [.int i, .int j] => if (smI i && smI j) = true then some (.ok (rngD i (j - i).toNat) ρ1) else none
    | _ => none) := rfl
@[simp] theorem e_fIR3 (f g h : Fn Bv) (n : Nat) (ρ : En) : fIR3 f g h n ρ = (bnd (fFzs (fCons f (fCons g (fCons h fNil))) n ρ) fun ds ρ1 => match ds with
    | [.int i, .int j, .int c] => if (smI i && smI j && decide (c = -1)) = true then some (.ok (rngCD i (-1) (i - j).toNat) ρ1) else none
    | _ => none) := rfl
@[simp] theorem e_sNil (n0 : Nat) (ρ : En) : sNil  n0 ρ = (some (.nx ρ)) := rfl
@[simp] theorem e_sSeq (f g : FS) (n : Nat) (ρ : En) : sSeq f g n ρ = (match f n ρ with
    | some (.nx ρ1) => g n ρ1
    | o => o) := rfl
@[simp] theorem e_sExpr (f : Fn Bv) (n : Nat) (ρ : En) : sExpr f n ρ = (bS (f n ρ) fun _ ρ1 => some (.nx ρ1)) := rfl
@[simp] theorem e_sRet (f : Fn Cl) (n : Nat) (ρ : En) : sRet f n ρ = (bS (f n ρ) fun c ρ1 => some (.rt c ρ1)) := rfl
@[simp] theorem e_sIf (t : Fn Bool) (f g : FS) (n : Nat) (ρ : En) : sIf t f g n ρ = (bS (t n ρ) fun c ρ1 => if c = true then f n ρ1 else g n ρ1) := rfl
@[simp] theorem e_sSet (i : Nat) (f : Fn Cl) (n : Nat) (ρ : En) : sSet i f n ρ = (bS (f n ρ) fun c ρ1 => if i < ρ1.length then some (.nx (ρ1.set i (some c))) else none) := rfl
@[simp] theorem e_sPar (i j : Nat) (f g : Fn Cl) (n : Nat) (ρ : En) : sPar i j f g n ρ = (bS (f n ρ) fun c ρ1 => bS (g n ρ1) fun d ρ2 => if i < ρ2.length ∧ j < ρ2.length then some (.nx ((ρ2.set i (some c)).set j (some d))) else none) := rfl
@[simp] theorem e_sAsg (g : FG) (f : Fn Bv) (n : Nat) (ρ : En) : sAsg g f n ρ = (bS (fFz f n ρ) fun c ρ1 => match c with
    | .fz d => match g d ρ1 with
      | some ρ2 => some (.nx ρ2)
      | none => none
    | _ => none) := rfl
@[simp] theorem e_sFor (i : Fn (List D)) (g : FG) (f : FS) (n : Nat) (ρ : En) : sFor i g f n ρ = (bS (i n ρ) fun ds ρ1 => forF g f n ds ρ1) := rfl
@[simp] theorem e_sWh (t : Fn Bool) (f : FS) (n : Nat) (ρ : En) : sWh t f n ρ = (whF t f n n ρ) := rfl
@[simp] theorem e_fLc (N : Nat) (vs : List Nat) (i : Fn (List D)) (g : FG) (t : Fn Bool) (e : Fn Bv) (n : Nat) (ρ : En) : fLc N vs i g t e n ρ = (bnd (i n ρ) fun ds ρ1 =>
    if (vs.all (fun j => decide (j < N)) && decide (ρ1.length = N) && decide (ds.length ≤ 1000000)) = true then lcF N g t e vs n ds (wipR ρ1 vs) [] else none) := rfl
@[simp] theorem e_fYes (n0 : Nat) (ρ : En) : fYes  n0 ρ = (some (.ok true ρ)) := rfl
@[simp] theorem e_fCall (m : Mr) (f : Fn (List Bv)) (n : Nat) (ρ : En) : fCall m f n ρ = (bnd (f n ρ) fun bs ρ1 => match takeA ρ1 bs with
    | some (cs, ρ2) => match m cs with
      | some (.ok c outs) => some (.ok c (giveA ρ2 bs outs))
      | some (.ex x outs) => some (.ex x (giveA ρ2 bs outs))
      | none => none
    | none => none) := rfl
@[simp] theorem e_fCall0 (m : Mr) (n0 : Nat) (ρ : En) : fCall0 m n0 ρ = (match m [] with
    | some (.ok c _) => some (.ok c ρ)
    | _ => none) := rfl
@[simp] theorem e_sRaise (c : Str) (n0 : Nat) (ρ : En) : sRaise c n0 ρ = (some (.ex ⟨c, []⟩ ρ)) := rfl
@[simp] theorem e_sRaiseI (c : Str) (fs : List Str) (f : Fn (List Bv)) (n : Nat) (ρ : En) : sRaiseI c fs f n ρ = (bS (fFzs f n ρ) fun ds ρ1 => if ds.length = fs.length ∧ ds.length ≤ 100 then some (.ex ⟨c, mkFsD fs ds⟩ ρ1) else none) := rfl
@[simp] theorem e_fIsi (T : String) (f : Fn Bv) (n : Nat) (ρ : En) : fIsi T f n ρ = (bnd (fFz f n ρ) fun c ρ1 => match c with
    | .fz d => match isiD T d with
      | some b => some (.ok (.fz (.bool b)) ρ1)
      | none => none
    | _ => none) := rfl
@[simp] theorem e_fSlL (f g : Fn Bv) (n : Nat) (ρ : En) : fSlL f g n ρ = (bnd (f n ρ) fun b ρ1 => bnd (fFz g n ρ1) fun c ρ2 => match c, lk ρ2 b with
    | .fz (.int i), some cb => match gSl (some i) none cb with
      | some c' => some (.ok c' ρ2)
      | none => none
    | _, _ => none) := rfl
@[simp] theorem e_fSlU (f g : Fn Bv) (n : Nat) (ρ : En) : fSlU f g n ρ = (bnd (f n ρ) fun b ρ1 => bnd (fFz g n ρ1) fun c ρ2 => match c, lk ρ2 b with
    | .fz (.int i), some cb => match gSl none (some i) cb with
      | some c' => some (.ok c' ρ2)
      | none => none
    | _, _ => none) := rfl
@[simp] theorem e_dNil (n0 : Nat) (ρ : En) : dNil  n0 ρ = (some (.ok [] ρ)) := rfl
@[simp] theorem e_dCons (f : Fn Bv) (g : Fn (List D)) (n : Nat) (ρ : En) : dCons f g n ρ = (bnd (fFz f n ρ) fun c ρ1 => match c with
    | .fz d => bnd (g n ρ1) fun ds ρ2 => some (.ok (d :: ds) ρ2)
    | _ => none) := rfl
@[simp] theorem e_dStar (f : Fn Bv) (g : Fn (List D)) (n : Nat) (ρ : En) : dStar f g n ρ = (bnd (fFz f n ρ) fun c ρ1 => match c with
    | .fz d => match asSeq d with
      | some xs => bnd (g n ρ1) fun ds ρ2 => some (.ok (xs ++ ds) ρ2)
      | none => none
    | _ => none) := rfl
@[simp] theorem e_fLstD (f : Fn (List D)) (n : Nat) (ρ : En) : fLstD f n ρ = (bnd (f n ρ) fun ds ρ1 => if lsz ds.length = true then some (.ok (.lst ds) ρ1) else none) := rfl
@[simp] theorem e_fTupD (f : Fn (List D)) (n : Nat) (ρ : En) : fTupD f n ρ = (bnd (f n ρ) fun ds ρ1 => if lsz ds.length = true then some (.ok (.fz (.tuple ds)) ρ1) else none) := rfl
@[simp] theorem e_sTry (i : Nat) (fb : FS) (l : List ((Ex → Option Bool) × (Ex → FS))) (n : Nat) (ρ : En) : sTry i fb l n ρ = (match fb n ρ with
    | some (.ex x ρ1) => hdl i l x n ρ1
    | o => o) := rfl
@[simp] theorem e_sSetIx (k : Nat) (fe fi : Fn Bv) (n : Nat) (ρ : En) : sSetIx k fe fi n ρ = (bS (fFz fe n ρ) fun c ρ1 => match c with
    | .fz d => if ((ρ1[k]?).join).isSome = true then bS (fFz fi n ρ1) fun c2 ρ2 => match c2 with
      | .fz j => match setIx ρ2 k j d with
        | some ρ3 => some (.nx ρ3)
        | none => none
      | _ => none
    else none
    | _ => none) := rfl
@[simp] theorem e_sAugIx (k : Nat) (fi fe : Fn Bv) (g : D → D → Option D) (n : Nat) (ρ : En) : sAugIx k fi fe g n ρ = (if ((ρ[k]?).join).isSome = true then bS (fFz fi n ρ) fun c ρ1 => match c with
    | .fz j => match getIx ρ1 k j with
      | some a => bS (fFz fe n ρ1) fun c2 ρ2 => match c2 with
        | .fz b => match g a b with
          | some d => match setIx ρ2 k j d with
            | some ρ3 => some (.nx ρ3)
            | none => none
          | none => none
        | _ => none
      | none => none
    | _ => none
    else none) := rfl
@[simp] theorem e_sAug (k : Nat) (fe : Fn Bv) (g : D → D → Option D) (n : Nat) (ρ : En) : sAug k fe g n ρ = (match (ρ[k]?).join with
    | some (.fz a) => bS (fFz fe n ρ) fun c ρ1 => match c with
      | .fz b => match g a b with
        | some d => if k < ρ1.length then some (.nx (ρ1.set k (some (.fz d)))) else none
        | none => none
      | _ => none
    | _ => none) := rfl
@[simp] theorem e_fDct0 (n0 : Nat) (ρ : En) : fDct0  n0 ρ = (some (.ok (.dct []) ρ)) := rfl
@[simp] theorem e_fRevT (f : Fn Bv) (n : Nat) (ρ : En) : fRevT f n ρ = (bnd (fFz f n ρ) fun c ρ1 => match c with
    | .fz (.tuple ds) => some (.ok (.fz (.tuple ds.reverse)) ρ1)
    | _ => none) := rfl
@[simp] theorem e_fIsi2 (T U : String) (f : Fn Bv) (n : Nat) (ρ : En) : fIsi2 T U f n ρ = (bnd (fFz f n ρ) fun c ρ1 => match c with
    | .fz d => match isiD2 T U d with
      | some b => some (.ok (.fz (.bool b)) ρ1)
      | none => none
    | _ => none) := rfl
@[simp] theorem e_fMth (ok : Cl → Bool) (k : Nat) (f : Fn (List Bv)) (g : Cl → List D → Option (D × Cl)) (n : Nat) (ρ : En) : fMth ok k f g n ρ = (match (ρ[k]?).join with
    | some c0 => if ok c0 = true then bnd (fFzs f n ρ) fun as ρ1 => match (ρ1[k]?).join with
      | some c => match g c as with
        | some (d, c') => some (.ok (.fz d) (ρ1.set k (some c')))
        | none => none
      | none => none
    else none
    | none => none) := rfl
@[simp] theorem e_fDc (N : Nat) (vs : List Nat) (i : Fn (List D)) (g : FG) (t : Fn Bool) (ek ev : Fn Bv) (n : Nat) (ρ : En) : fDc N vs i g t ek ev n ρ = (bnd (i n ρ) fun ds ρ1 =>
    if (vs.all (fun j => decide (j < N)) && decide (ρ1.length = N) && decide (ds.length ≤ 1000000)) = true then dcF N g t ek ev vs n ds (wipR ρ1 vs) [] else none) := rfl
@[simp] theorem e_fIDct (k : Nat) (n : Nat) (ρ : En) : fIDct k n ρ = (match (ρ[k]?).join with
    | some (.dct es) => some (.ok (keysD es) (ρ.set k (some (.dlk es))))
    | some (.dlk es) => some (.ok (keysD es) ρ)
    | _ => none) := rfl
@[simp] theorem e_fDG (k : Nat) (f : Fn (List Bv)) (n : Nat) (ρ : En) : fDG k f n ρ = (match (ρ[k]?).join with
    | some c0 => if (dctE c0).isSome = true then bnd (fFzs f n ρ) fun as ρ1 => match (ρ1[k]?).join, as with
      | some c, [kd, dd] => match dctE c, keyD kd with
        | some es, some key => some (.ok (.fz ((getK es key).getD dd)) ρ1)
        | _, _ => none
      | _, _ => none
    else none
    | none => none) := rfl
@[simp] theorem e_sSetIxD (k : Nat) (fe fi : Fn Bv) (n : Nat) (ρ : En) : sSetIxD k fe fi n ρ = (bS (fFz fe n ρ) fun c ρ1 => match c with
    | .fz d => if ((ρ1[k]?).join).isSome = true then bS (fFz fi n ρ1) fun c2 ρ2 => match c2 with
      | .fz j => match setIxD ρ2 k j d with
        | some ρ3 => some (.nx ρ3)
        | none => none
      | _ => none
    else none
    | _ => none) := rfl
@[simp] theorem e_fRest (vs : List Nat) (f : Fn Cl) (n : Nat) (ρ : En) : fRest vs f n ρ = (match f n ρ with
    | some (.ok c ρ') => some (.ok c (restR ρ vs ρ'))
    | r => r) := rfl
@[simp] theorem e_sUnp (k n : Nat) (g : FGs) (n0 : Nat) (ρ : En) : sUnp k n g n0 ρ = (match (ρ[k]?).join with
    | some (.lst ds) => if ds.length = n then (match g ds ρ with
      | some ρ2 => some (.nx ρ2)
      | none => none) else none
    | _ => none) := rfl
@[simp] theorem e_fIStr (f : Fn Bv) (n : Nat) (ρ : En) : fIStr f n ρ = (bnd (fFz f n ρ) fun c ρ1 => match c with
    | .fz (.str x) => some (.ok (signsD x) ρ1)
    | _ => none) := rfl
@[simp] theorem e_fMvS (f0 : Fn Bv) (fs : Fn (List Bv)) (g : Str → List D → Option Cl) (n : Nat) (ρ : En) : fMvS f0 fs g n ρ = (bnd (fFz f0 n ρ) fun c ρ1 => match c with
    | .fz (.str x) => bnd (fFzs fs n ρ1) fun as ρ2 => match g x as with
      | some r => some (.ok r ρ2)
      | none => none
    | _ => none) := rfl
@[simp] theorem e_fDct1 (f g : Fn Bv) (n : Nat) (ρ : En) : fDct1 f g n ρ = (bnd (fFz f n ρ) fun c1 ρ1 => bnd (fFz g n ρ1) fun c2 ρ2 => match c1, c2 with
    | .fz kd, .fz d => match keyD kd with
      | some k => some (.ok (.dct [(k, d)]) ρ2)
      | none => none
    | _, _ => none) := rfl
@[simp] theorem e_fBx (f : Fn Bv) (k : Nat) (n : Nat) (ρ : En) : fBx f k n ρ = (bnd (fFz f n ρ) fun c ρ1 => match c, (ρ1[k]?).join with
    | .fz d, some (.dct es) => some (.ok (.bx d es) (ρ1.set k none))
    | _, _ => none) := rfl
@[simp] theorem e_sUnb (i j : Nat) (f : Fn Cl) (n : Nat) (ρ : En) : sUnb i j f n ρ = (bS (f n ρ) fun c ρ1 => match c with
    | .bx d es => if i < ρ1.length ∧ j < ρ1.length ∧ i ≠ j then some (.nx ((ρ1.set i (some (.fz d))).set j (some (.dct es)))) else none
    | _ => none) := rfl
@[simp] theorem e_fStep (f g : Fn Bv) (n : Nat) (ρ : En) : fStep f g n ρ = (bnd (fFz f n ρ) fun c ρ1 => bnd (fFz g n ρ1) fun c2 ρ2 => match c, c2 with
    | .fz (.tuple ds), .fz (.int k) => if 2 ≤ k then some (.ok (.fz (.tuple (evL k.toNat ds))) ρ2) else none
    | _, _ => none) := rfl
@[simp] theorem e_fLstRg (f g : Fn Bv) (n : Nat) (ρ : En) : fLstRg f g n ρ = (bnd (fFz f n ρ) fun c ρ1 => bnd (fFz g n ρ1) fun c2 ρ2 => match c, c2 with
    | .fz (.int i), .fz (.int j) => if (Nat.ble i.natAbs 1000000 && Nat.ble j.natAbs 1000000) = true then some (.ok (.lst (rngD i (j - i).toNat)) ρ2) else none
    | _, _ => none) := rfl
@[simp] theorem e_fIEnumZ (f g : Fn Bv) (n : Nat) (ρ : En) : fIEnumZ f g n ρ = (bnd (fFzs (fCons f (fCons g fNil)) n ρ) fun ds ρ1 => match ds with
    | [.list xs, .list ys] => some (.ok (enumD 0 (zipD xs ys)) ρ1)
    | _ => none) := rfl
@[simp] theorem e_fLc2 (N : Nat) (vs vs1 : List Nat) (i : Fn (List D)) (g : FG) (i1 : Fn (List D)) (g1 : FG) (t1 : Fn Bool) (e : Fn Bv) (n : Nat) (ρ : En) : fLc2 N vs vs1 i g i1 g1 t1 e n ρ = (bnd (i n ρ) fun ds ρ1 =>
    if ((vs.all (fun j => decide (j < N)) && vs1.all (fun j => vs.contains j)) && decide (ρ1.length = N)) = true then lcF2 N g i1 g1 t1 e vs vs1 n ds (wipR ρ1 vs) [] else none) := rfl
@[simp] theorem e_fDctT0 (n0 : Nat) (ρ : En) : fDctT0  n0 ρ = (some (.ok (.dtt []) ρ)) := rfl
@[simp] theorem e_sSetIxT (k : Nat) (fe fi : Fn Bv) (n : Nat) (ρ : En) : sSetIxT k fe fi n ρ = (bS (fFz fe n ρ) fun c ρ1 => match c with
    | .fz d => if ((ρ1[k]?).join).isSome = true then bS (fFz fi n ρ1) fun c2 ρ2 => match c2 with
      | .fz j => match setIxT ρ2 k j d with
        | some ρ3 => some (.nx ρ3)
        | none => none
      | _ => none
    else none
    | _ => none) := rfl
@[simp] theorem e_fIDctT (k : Nat) (n : Nat) (ρ : En) : fIDctT k n ρ = (match (ρ[k]?).join with
    | some (.dtt es) => some (.ok (keysT es) (ρ.set k (some (.dlt es))))
    | some (.dlt es) => some (.ok (keysT es) ρ)
    | _ => none) := rfl
@[simp] theorem e_fFld (c f : Str) (fo : Fn Bv) (n : Nat) (ρ : En) : fFld c f fo n ρ = (bnd (fo n ρ) fun b ρ1 => match lk ρ1 b with
    | some (.ins c' es) => if c' = c then match es.lookup f with
      | some d => some (.ok (.fz d) ρ1)
      | none => none
      else none
    | _ => none) := rfl
@[simp] theorem e_fMeth (c mn : Str) (m : Mr) (fo : Fn Bv) (fa : Fn (List Bv)) (n : Nat) (ρ : En) : fMeth c mn m fo fa n ρ = (bnd (fo n ρ) fun b ρ1 => match lk ρ1 b with
    | some (.ins c' es) => if c' = c ∧ es.lookup mn = none then bnd (fa n ρ1) fun bs ρ2 => callM m ρ2 (b :: bs) else none
    | _ => none) := rfl
@[simp] theorem e_fMake (c : Str) (m : Mr) (fa : Fn (List Bv)) (n : Nat) (ρ : En) : fMake c m fa n ρ = (bnd (fa n ρ) fun bs ρ1 => match takeA ρ1 bs with
    | some (cs, ρ2) => match m (.ins c [] :: cs) with
      | some (.ok (.fz .none) (some c' :: outs)) => some (.ok c' (giveA ρ2 bs outs))
      | some (.ex x (_ :: outs)) => some (.ex x (giveA ρ2 bs outs))
      | _ => none
    | none => none) := rfl
@[simp] theorem e_sFldSt (c f : Str) (k : Nat) (fe : Fn Bv) (n : Nat) (ρ : En) : sFldSt c f k fe n ρ = (bS (fFz fe n ρ) fun cc ρ1 => match cc with
    | .fz d => match (ρ1[k]?).join with
      | some (.ins c' es) => if c' = c ∧ es.length < 1000 then some (.nx (ρ1.set k (some (.ins c (putFD f d es))))) else none
      | _ => none
    | _ => none) := rfl
@[simp] theorem e_sTryK (i k : Nat) (fb : FS) (sub : Ex → Option Bool) (n : Nat) (ρ : En) : sTryK i k fb sub n ρ = (match fb n ρ with
    | some (.ex x ρ1) => match sub x with
      | some true => if i < ρ1.length ∧ k < ρ1.length then some (.nx (((ρ1.set i none).set k (some (.exn x.cls x.fs))).set i none)) else none
      | some false => some (.ex x ρ1)
      | none => none
    | o => o) := rfl
@[simp] theorem e_fIsX (sub : Ex → Option Bool) (f : Fn Bv) (n : Nat) (ρ : En) : fIsX sub f n ρ = (bnd (f n ρ) fun b ρ1 => match lk ρ1 b with
    | some (.exn c fs) => match sub ⟨c, fs⟩ with
      | some r => some (.ok (.fz (.bool r)) ρ1)
      | none => none
    | _ => none) := rfl
@[simp] theorem e_fXFld (cs : List Str) (f : Str) (fo : Fn Bv) (n : Nat) (ρ : En) : fXFld cs f fo n ρ = (bnd (fo n ρ) fun b ρ1 => match lk ρ1 b with
    | some (.exn c fs) => match seF cs f ⟨c, fs⟩ with
      | some d => some (.ok (.fz d) ρ1)
      | none => none
    | _ => none) := rfl
@[simp] theorem e_fDct2c (k1 : Int) (d1 : D) (k2 : Int) (d2 : D) (n0 : Nat) (ρ : En) : fDct2c k1 d1 k2 d2 n0 ρ = (some (.ok (.dct [(.inl k1, d1), (.inl k2, d2)]) ρ)) := rfl
@[simp] theorem e_fProp (c : Str) (m : Mr) (fo : Fn Bv) (n : Nat) (ρ : En) : fProp c m fo n ρ = (bnd (fo n ρ) fun b ρ1 => match callP c m ρ1 b with
    | some (c1, ρ2) => some (.ok c1 ρ2)
    | none => none) := rfl
@[simp] theorem e_fLenO (c : Str) (m : Mr) (fo : Fn Bv) (n : Nat) (ρ : En) : fLenO c m fo n ρ = (bnd (fo n ρ) fun b ρ1 => match callP c m ρ1 b with
    | some (.fz (.int i), ρ2) => if (decide (0 ≤ i) && Nat.ble i.natAbs 1000000) = true then some (.ok (.i i) ρ2) else none
    | _ => none) := rfl
@[simp] theorem e_fNst (f g : Fn Cl) (h : Fn Bv) (n : Nat) (ρ : En) : fNst f g h n ρ = (bnd (f n ρ) fun c1 ρ1 => match c1 with
    | .lst d1 => bnd (g n ρ1) fun c2 ρ2 => match c2 with
      | .lst d2 => bnd (fFz h n ρ2) fun c3 ρ3 => match c3 with
        | .fz d => some (.ok (.nst [d1, d2] (some d)) ρ3)
        | _ => none
      | _ => none
    | _ => none) := rfl
@[simp] theorem e_sFrzN (k : Nat) (f : FS) (n : Nat) (ρ : En) : sFrzN k f n ρ = (f n (frzN k ρ)) := rfl
@[simp] theorem e_sLate (kx ky : Nat) (n0 : Nat) (ρ : En) : sLate kx ky n0 ρ = (match (ρ[kx]?).join with
    | some (.nst dss (some _)) => if ky < ρ.length ∧ dss.all (fun ds => Nat.ble ds.length 10000000) = true then some (.nx ((ρ.set kx none).set ky none)) else none
    | _ => none) := rfl
@[simp] theorem e_fRevL (f : Fn Bv) (n : Nat) (ρ : En) : fRevL f n ρ = (bnd (f n ρ) fun b ρ1 => match lk ρ1 b with
    | some c => match c.data with
      | some (.list ds) => some (.ok (.lst ds.reverse) ρ1)
      | _ => none
    | none => none) := rfl
@[simp] theorem e_fLstR1 (f : Fn Bv) (n : Nat) (ρ : En) : fLstR1 f n ρ = (bnd (fFz f n ρ) fun c ρ1 => match c with
    | .fz (.int j) => if Nat.ble j.natAbs 1000000 = true then some (.ok (.lst (rngD 0 j.toNat)) ρ1) else none
    | _ => none) := rfl
@[simp] theorem e_fLenSet (f : Fn Bv) (n : Nat) (ρ : En) : fLenSet f n ρ = (bnd (fFz f n ρ) fun c ρ1 => match c with
    | .fz (.tuple ds) => match intsD ds with
      | some ns => if Nat.ble ns.length 1000 = true then some (.ok (.i (distI ns : Nat)) ρ1) else none
      | none => none
    | _ => none) := rfl
@[simp] theorem e_fCall3 (k : Nat) (m0 m1 m2 : Mr) (f : Fn (List Bv)) (n : Nat) (ρ : En) : fCall3 k m0 m1 m2 f n ρ = (match (ρ[k]?).join with
    | some (.fz (.int i)) => match ms3 m0 m1 m2 i with
      | some m => fCall m f n ρ
      | none => none
    | _ => none) := rfl
@[simp] theorem e_sGrow (kf ks km ko kk kp kt : Nat) (n0 : Nat) (ρ : En) : sGrow kf ks km ko kk kp kt n0 ρ = (match (ρ[kf]?).join, (ρ[ks]?).join, (ρ[kk]?).join, (ρ[kp]?).join, (ρ[kt]?).join with
    | some (.lst d1), some (.lst d2), some (.fz (.int k)), some (.fz (.int p)), some (.fz (.int t)) => match grow2 k d1 d2 p t with
      | some r => if km < ρ.length ∧ ko < ρ.length then some (.nx ((((((ρ.set kf none).set ks none).set ks (some (.lst r.2))).set kf (some (.lst r.1))).set km none).set ko none)) else none
      | none => none
    | _, _, _, _, _ => none) := rfl
end L3

namespace L3
open PySem PySem.Spec L2
/-! ### answers compared by a check that the kernel runs -/
mutual
def deq : D → D → Bool
  | .none, .none => true
  | .bool a, .bool b => a == b
  | .int a, .int b => decide (a = b)
  | .str a, .str b => decide (a = b)
  | .list a, .list b => deqs a b
  | .tuple a, .tuple b => deqs a b
  | .dict a, .dict b => deqp a b
  | _, _ => false
def deqs : List D → List D → Bool
  | [], [] => true
  | a :: as, b :: bs => deq a b && deqs as bs
  | _, _ => false
def deqp : List (D × D) → List (D × D) → Bool
  | [], [] => true
  | (a, x) :: as, (b, y) :: bs => deq a b && (deq x y && deqp as bs)
  | _, _ => false
end
mutual
theorem deq_of : ∀ a b : D, deq a b = true → a = b
  | .none, b, h => by
    cases b <;> first | rfl | (exact absurd h (by simp [deq]))
  | .bool x, b, h => by
    cases b with
    | bool y => simp [deq] at h; rw [h]
    | _ => exact absurd h (by simp [deq])
  | .int x, b, h => by
    cases b with
    | int y => simp [deq] at h; rw [h]
    | _ => exact absurd h (by simp [deq])
  | .str x, b, h => by
    cases b with
    | str y => simp [deq] at h; rw [h]
    | _ => exact absurd h (by simp [deq])
  | .list x, b, h => by
    cases b with
    | list y => rw [deq] at h; rw [deqs_of x y h]
    | _ => exact absurd h (by simp [deq])
  | .tuple x, b, h => by
    cases b with
    | tuple y => rw [deq] at h; rw [deqs_of x y h]
    | _ => exact absurd h (by simp [deq])
  | .dict x, b, h => by
    cases b with
    | dict y => rw [deq] at h; rw [deqp_of x y h]
    | _ => exact absurd h (by simp [deq])
theorem deqs_of : ∀ a b : List D, deqs a b = true → a = b
  | [], b, h => by
    cases b <;> first | rfl | (exact absurd h (by simp [deqs]))
  | x :: xs, b, h => by
    cases b with
    | nil => exact absurd h (by simp [deqs])
    | cons y ys =>
      rw [deqs, Bool.and_eq_true] at h
      rw [deq_of x y h.1, deqs_of xs ys h.2]
theorem deqp_of : ∀ a b : List (D × D), deqp a b = true → a = b
  | [], b, h => by
    cases b <;> first | rfl | (exact absurd h (by simp [deqp]))
  | (x, u) :: xs, b, h => by
    cases b with
    | nil => exact absurd h (by simp [deqp])
    | cons y ys =>
      obtain ⟨y, v⟩ := y
      rw [deqp, Bool.and_eq_true, Bool.and_eq_true] at h
      rw [deq_of x y h.1, deq_of u v h.2.1, deqp_of xs ys h.2.2]
end
def ceq : Cl → Cl → Bool
  | .fz a, .fz b => deq a b
  | .lst a, .lst b => deqs a b
  | _, _ => false
theorem ceq_of : ∀ a b : Cl, ceq a b = true → a = b := fun a b h => by
  unfold ceq at h
  split at h
  · rw [deq_of _ _ h]
  · rw [deqs_of _ _ h]
  · cases h
def oeq : List (Option Cl) → List (Option Cl) → Bool
  | [], [] => true
  | none :: as, none :: bs => oeq as bs
  | some a :: as, some b :: bs => ceq a b && oeq as bs
  | _, _ => false
theorem oeq_of : ∀ a b : List (Option Cl), oeq a b = true → a = b
  | [], b, h => by
    cases b <;> first | rfl | (exact absurd h (by simp [oeq]))
  | none :: as, b, h => by
    cases b with
    | nil => exact absurd h (by simp [oeq])
    | cons y ys =>
      cases y with
      | none => rw [oeq] at h; rw [oeq_of as ys h]
      | some _ => exact absurd h (by simp [oeq])
  | some a :: as, b, h => by
    cases b with
    | nil => exact absurd h (by simp [oeq])
    | cons y ys =>
      cases y with
      | none => exact absurd h (by simp [oeq])
      | some y =>
        rw [oeq, Bool.and_eq_true] at h
        rw [ceq_of a y h.1, oeq_of as ys h.2]
def fseq : List (Str × D) → List (Str × D) → Bool
  | [], [] => true
  | (s, a) :: as, (t, b) :: bs => decide (s = t) && (deq a b && fseq as bs)
  | _, _ => false
theorem fseq_of : ∀ a b : List (Str × D), fseq a b = true → a = b
  | [], b, h => by
    cases b <;> first | rfl | (exact absurd h (by simp [fseq]))
  | (s, a) :: as, b, h => by
    cases b with
    | nil => exact absurd h (by simp [fseq])
    | cons y ys =>
      obtain ⟨t, y⟩ := y
      rw [fseq, Bool.and_eq_true, Bool.and_eq_true] at h
      rw [of_decide_eq_true h.1, deq_of a y h.2.1, fseq_of as ys h.2.2]
def moB : Option Mo → Mo → Bool
  | some (.ok c o), .ok c2 o2 => ceq c c2 && oeq o o2
  | some (.ex x o), .ex x2 o2 => decide (x.cls = x2.cls) && (fseq x.fs x2.fs && oeq o o2)
  | _, _ => false
theorem mo_of {a : Option Mo} {b : Mo} (h : moB a b = true) : a = some b := by
  unfold moB at h
  split at h
  · rw [Bool.and_eq_true] at h
    rw [ceq_of _ _ h.1, oeq_of _ _ h.2]
  · rename_i x o x2 o2
    rw [Bool.and_eq_true, Bool.and_eq_true] at h
    obtain ⟨c, f⟩ := x
    obtain ⟨c2, f2⟩ := x2
    have h1 : c = c2 := of_decide_eq_true h.1
    have h2 : f = f2 := fseq_of _ _ h.2.1
    rw [oeq_of _ _ h.2.2, h1, h2]
  · cases h
end L3

namespace L3
open PySem PySem.Spec L2
/-! ### what the defs are worth -/
def trim : List Int → List Int
  | [] => []
  | x :: xs => match trim xs with
    | [] => if x = 0 then [] else [x]
    | y :: ys => x :: y :: ys
def isF (v : D) (lo hi : Int) : Bool := match v with
  | .int x => decide (lo ≤ x) && decide (x ≤ hi)
  | _ => false
def FAR : Int := 1000000000
def badAt : Nat → List D → Option Nat
  | _, [] => none
  | k, d :: ds => if isF d (-FAR) FAR = true then badAt (k + 1) ds else some k
/-- the index of BadPoly -/
def chk (v : D) : Option D := match v with
  | .tuple ds => if 13 < ds.length then some .none else match badAt 0 ds with
    | some k => some (.int k)
    | none => match ds.getLast? with
      | some (.int 0) => some (.int (ds.length - 1 : Nat))
      | _ => none
  | _ => some .none
def bad (i : D) : Ex := ⟨"BadPoly", [("index", i)]⟩
/-- the frozen ints of a tuple -/
def tupI : Cl → Option (List Int)
  | .fz (.tuple ds) => intsD ds
  | _ => none
def lstI : Cl → Option (List Int)
  | .lst ds => intsD ds
  | _ => none
abbrev T (ns : List Int) : Cl := .fz (.tuple (zs ns))
def cf (ns : List Int) (k : Nat) : Int := (ns[k]?).getD 0
def addL (a b : List Int) : List Int := (List.range (max a.length b.length)).map fun k => cf a k + cf b k
/-- found with x added at k -/
def bump (found : List Int) (k : Nat) (x : Int) : List Int := found.set k (cf found k + x)
def mulRow (found : List Int) (i : Nat) (x : Int) : Nat → List Int → List Int
  | _, [] => found
  | j, y :: ys => mulRow (bump found (i + j) (x * y)) i x (j + 1) ys
def mulAll (found : List Int) (b : List Int) : Nat → List Int → List Int
  | _, [] => found
  | i, x :: xs => mulAll (mulRow found i x 0 b) b (i + 1) xs
def mulL (a b : List Int) : List Int := if a = [] ∨ b = [] then [] else trim (mulAll (List.replicate (a.length + b.length - 1) 0) b 0 a)
def derL : Nat → List Int → List Int
  | _, [] => []
  | k, x :: xs => (k : Int) * x :: derL (k + 1) xs
def derivL (a : List Int) : List Int := trim ((derL 0 a).drop 1)
def m_is_from : Mr
  | [.fz v, .fz (.int lo), .fz (.int hi)] => some (.ok (.b (isF v lo hi)) [some (.fz v), some (.i lo), some (.i hi)])
  | _ => none
/-- the law's row of numbers: the script, the place, the great number, the seed -/
structure Rw where
  s : List Int
  p : Nat
  b : Int
  r : Int
def Rw.ds (x : Rw) : List D := [.list (zs x.s), .int x.p, .int x.b, .int x.r]
def m__law_draws : Mr
  | [.fz (.list ds)] => match intsD ds with
    | some ns => some (.ok (.lst (Rw.ds ⟨ns, 0, 0, 7⟩)) [some (.fz (.list ds))])
    | none => none
  | _ => none
def Rw.of : List D → Option Rw
  | [.list s, .int p, .int b, .int r] => match intsD s with
    | some ns => if 0 ≤ p then some ⟨ns, p.toNat, b, r⟩ else none
    | none => none
  | _ => none
/-- the row after it was asked, ahead of the answer -/
def Rw.next (x : Rw) : Rw := if x.b = 0 then match x.s[x.p]? with
    | some c => if (10 : Int) ^ 18 ≤ c then ⟨x.s, x.p + 1, c, x.r⟩ else ⟨x.s, x.p + 1, x.b, (x.r * 48271 + c * 69621 + 11).fmod 2147483647⟩
    | none => ⟨x.s, x.p, x.b, (x.r * 48271 + 7).fmod 2147483647⟩
  else x
def Rw.pick (x : Rw) (many : Int) : Int × Rw := if 0 < x.next.b then (x.next.b.fmod many, { x.next with b := x.next.b.fdiv many }) else (((x.next.r * 16807).fmod 2147483629).fmod many, x.next)
def m__law_pick : Mr
  | [.lst ds, .fz (.int many)] => match Rw.of ds with
    | some x => if 0 < many ∧ many < 2 ^ 64 then some (.ok (.i (x.pick many).1) [some (.lst (x.pick many).2.ds), some (.i many)]) else none
    | none => none
  | _ => none
def m_law : Mr
  | [.fz (.list ds)] => match intsD ds with
    | some ns => some (.ok (.b true) [some (.fz (.list ds))])
    | none => none
  | _ => none
end L3

namespace L3
open PySem PySem.Spec L2
def g__law_draws : FS := (sRet (fLst (fCons (fOf (fPr (fCons (fPl 0) fNil) gList)) (fCons (fOf (fC (.int 0))) (fCons (fOf (fC (.int 0))) (fCons (fOf (fC (.int 7))) fNil))))))
def g__law_pick : FS := (sSeq (sIf (fTst (f2 (fOf (f2 (fPl 0) (fOf (fC (.int 2))) gIx)) (fOf (fC (.int 0))) gEq)) (sIf (fTst (f2 (fOf (f2 (fPl 0) (fOf (fC (.int 1))) gIx)) (fOf (fPr (fCons (fOf (f2 (fPl 0) (fOf (fC (.int 0))) gIx)) fNil) gLenA)) (gI fun i j => decide (i < j)))) (sSeq (sSet 2 (f2 (fOf (f2 (fPl 0) (fOf (fC (.int 0))) gIx)) (fOf (f2 (fPl 0) (fOf (fC (.int 1))) gIx)) gIx)) (sSeq (sSetIx 0 (fOf (f2 (fOf (f2 (fPl 0) (fOf (fC (.int 1))) gIx)) (fOf (fC (.int 1))) gAdd)) (fOf (fC (.int 1)))) (sIf (fTst (f2 (fPl 2) (fOf (f2 (fOf (fC (.int 10))) (fOf (fC (.int 18))) gPow)) (gI fun i j => decide (j ≤ i)))) (sSetIx 0 (fPl 2) (fOf (fC (.int 2)))) (sSetIx 0 (fOf (f2 (fOf (fPr (fCons (fOf (f2 (fOf (f2 (fOf (f2 (fOf (f2 (fPl 0) (fOf (fC (.int 3))) gIx)) (fOf (fC (.int 48271))) gMul)) (fOf (f2 (fPl 2) (fOf (fC (.int 69621))) gMul)) gAdd)) (fOf (fC (.int 11))) gAdd)) fNil) gInt)) (fOf (fC (.int 2147483647))) gMod)) (fOf (fC (.int 3))))))) (sSetIx 0 (fOf (f2 (fOf (fPr (fCons (fOf (f2 (fOf (f2 (fOf (f2 (fPl 0) (fOf (fC (.int 3))) gIx)) (fOf (fC (.int 48271))) gMul)) (fOf (fC (.int 7))) gAdd)) fNil) gInt)) (fOf (fC (.int 2147483647))) gMod)) (fOf (fC (.int 3))))) sNil) (sSeq (sIf (fTst (f2 (fOf (f2 (fPl 0) (fOf (fC (.int 2))) gIx)) (fOf (fC (.int 0))) (gI fun i j => decide (j < i)))) (sSeq (sSet 3 (f2 (fOf (fPr (fCons (fOf (f2 (fPl 0) (fOf (fC (.int 2))) gIx)) fNil) gInt)) (fPl 1) gMod)) (sSeq (sSetIx 0 (fOf (f2 (fOf (f2 (fPl 0) (fOf (fC (.int 2))) gIx)) (fPl 1) gFdiv)) (fOf (fC (.int 2)))) (sRet (fMv 3)))) sNil) (sRet (f2 (fOf (f2 (fOf (fPr (fCons (fOf (f2 (fOf (f2 (fPl 0) (fOf (fC (.int 3))) gIx)) (fOf (fC (.int 16807))) gMul)) fNil) gInt)) (fOf (fC (.int 2147483629))) gMod)) (fPl 1) gMod))))
def st__law_grown_1 : FS := (sPar 2 3 (fLst (fCons (fOf (fC (.int 0))) fNil)) (fLst (fCons (fOf (fC (.int 0))) fNil)))
def sb__law_grown_1 : FS := (sPar 5 6 (fCall m__law_pick (fCons (fPl 0) (fCons (fPl 4) fNil))) (fCall m__law_pick (fCons (fPl 0) (fCons (fOf (fC (.int 2))) fNil))))
def gl__law_grown_1 : FG := (gN 4)
def bl__law_grown_1 : FS := (sSeq sb__law_grown_1 (sGrow 2 3 7 8 6 5 4))
def st__law_grown_2 : FS := (sFor (fIR2 (fOf (fC (.int 1))) (fOf (f2 (fOf (fC (.int 1))) (fOf (fCall m__law_pick (fCons (fPl 0) (fCons (fPl 1) fNil)))) gAdd))) gl__law_grown_1 bl__law_grown_1)
def st__law_grown_3 : FS := (sRet (fTup (fCons (fOf (fPr (fCons (fPl 2) fNil) gTuple)) (fCons (fOf (fPr (fCons (fPl 3) fNil) gTuple)) fNil))))
def g__law_grown : FS := (sSeq st__law_grown_1 (sSeq st__law_grown_2 st__law_grown_3))
def m__law_grown : Mr := fun cs => (g__law_grown 1000 (startR 9 cs)).bind (fin [true, true])
theorem h__law_grown : ∀ cs o, m__law_grown cs = some o → ∃ n out, g__law_grown n (startR 9 cs) = some out ∧ fin [true, true] out = some o := fun cs o h => ⟨1000, Option.bind_eq_some_iff.mp h⟩
def ct__law_orders_1 : Fn Bool := (fTst (f2 (fPl 5) (fPl 4) (gIn true)))
def cg__law_orders_1 : FG := (gN 5)
def ce__law_orders_1 : Fn Bv := (fOf (f2 (fPl 4) (fOf (fTup (fCons (fPl 5) fNil))) gAdd))
def gl__law_orders_1 : FG := (gN 4)
def bl__law_orders_1 : FS := (sSet 3 (f2 (fPl 3) (fOf (fLc 6 [5] (fIR1 (fPl 0)) cg__law_orders_1 ct__law_orders_1 ce__law_orders_1)) gAdd))
def gl__law_orders_2 : FG := (gN 2)
def bl__law_orders_2 : FS := (sSeq (sSet 3 (fLst fNil)) (sSeq (sFor (fISeq (fPl 1)) gl__law_orders_1 bl__law_orders_1) (sSet 1 (fFz (fPl 3)))))
def g__law_orders : FS := (sSeq (sSet 1 (fLst (fCons (fOf (fTup fNil)) fNil))) (sSeq (sFor (fIR1 (fPl 0)) gl__law_orders_2 bl__law_orders_2) (sRet (fMv 1))))
def m__law_orders : Mr := fun cs => (g__law_orders 1000 (startR 6 cs)).bind (fin [true])
theorem h__law_orders : ∀ cs o, m__law_orders cs = some o → ∃ n out, g__law_orders n (startR 6 cs) = some out ∧ fin [true] out = some o := fun cs o h => ⟨1000, Option.bind_eq_some_iff.mp h⟩
def wt_rounds_of_1 : Fn Bool := (fTst (f2 (fPl 4) (fPl 1) (gInK true)))
def wb_rounds_of_1 : FS := (sSeq (sSetIxD 1 (fOf (fC (.bool true))) (fPl 4)) (sPar 4 5 (f2 (fPl 0) (fPl 4) gIx) (f2 (fPl 5) (fOf (fC (.int 1))) gAdd)))
def gl_rounds_of_1 : FG := (gN 3)
def bl_rounds_of_1 : FS := (sIf (fTst (f2 (fPl 3) (fPl 1) (gInK true))) (sSeq (sPar 4 5 (fFz (fPl 3)) (fC (.int 0))) (sSeq (sWh wt_rounds_of_1 wb_rounds_of_1) (sExpr (fOf (fMth isL 2 (fCons (fPl 5) fNil) gApp))))) sNil)
def g_rounds_of : FS := (sSeq (sPar 1 2 fDct0 (fLst fNil)) (sSeq (sFor (fIR1 (fOf (fPr (fCons (fPl 0) fNil) gLenA))) gl_rounds_of_1 bl_rounds_of_1) (sRet (fPr (fCons (fOf (fPr (fCons (fPl 2) fNil) gSortL)) fNil) gTuple))))
def m_rounds_of : Mr := fun cs => (g_rounds_of 1000 (startR 6 cs)).bind (fin [true])
theorem h_rounds_of : ∀ cs o, m_rounds_of cs = some o → ∃ n out, g_rounds_of n (startR 6 cs) = some out ∧ fin [true] out = some o := fun cs o h => ⟨1000, Option.bind_eq_some_iff.mp h⟩
def g_is_from : FS := (sRet (fAndV (fIsi "int" (fPl 0)) (fAndV (fBv (fNot (fTst (fIsi "bool" (fPl 0))))) (fCh (fPl 1) (fPl 0) (fPl 2) (gI fun i j => decide (i ≤ j)) (gI fun i j => decide (i ≤ j))))))
def cg_is_turn_1 : FG := (gN 2)
def ce_is_turn_1 : Fn Bv := (fOf (fCall m_is_from (fCons (fPl 2) (fCons (fOf (fC (.int 0))) (fCons (fOf (f2 (fPl 1) (fOf (fC (.int 1))) gSub)) fNil)))))
def cg_is_turn_2 : FG := (gN 2)
def ck_is_turn_1 : Fn Bv := (fPl 2)
def cv_is_turn_1 : Fn Bv := (fOf (fC (.bool true)))
def g_is_turn : FS := (sSeq (sIf (fOr (fNot (fTst (fIsi "tuple" (fPl 0)))) (fOr (fTst (f2 (fOf (fPr (fCons (fPl 0) fNil) gLenA)) (fPl 1) gNe)) (fNot (fTst (fPr (fCons (fOf (fLc 3 [2] (fISeq (fPl 0)) cg_is_turn_1 fYes ce_is_turn_1)) fNil) gAll))))) (sRet (fC (.bool false))) sNil) (sRet (f2 (fOf (fPr (fCons (fOf (fDc 3 [2] (fISeq (fPl 0)) cg_is_turn_2 fYes ck_is_turn_1 cv_is_turn_1)) fNil) gLenA)) (fPl 1) gEq)))
def m_is_turn : Mr := fun cs => (g_is_turn 1000 (startR 3 cs)).bind (fin [true, true])
theorem h_is_turn : ∀ cs o, m_is_turn cs = some o → ∃ n out, g_is_turn n (startR 3 cs) = some out ∧ fin [true, true] out = some o := fun cs o h => ⟨1000, Option.bind_eq_some_iff.mp h⟩
def cg_behind_1 : FG := (gN 2)
def ce_behind_1 : Fn Bv := (fOf (f2 (fPl 1) (fPl 2) gIx))
def g_behind : FS := (sRet (fPr (fCons (fOf (fLc 3 [2] (fISeq (fPl 0)) cg_behind_1 fYes ce_behind_1)) fNil) gTuple))
def m_behind : Mr := fun cs => (g_behind 1000 (startR 3 cs)).bind (fin [true, true])
theorem h_behind : ∀ cs o, m_behind cs = some o → ∃ n out, g_behind n (startR 3 cs) = some out ∧ fin [true, true] out = some o := fun cs o h => ⟨1000, Option.bind_eq_some_iff.mp h⟩
def g_is_plane : FS := (sSeq (sIf (fOr (fNot (fTst (fIsi "tuple" (fPl 0)))) (fOr (fTst (f2 (fOf (fPr (fCons (fPl 0) fNil) gLenA)) (fOf (fC (.int 2))) gNe)) (fNot (fTst (fIsi "tuple" (fOf (f2 (fPl 0) (fOf (fC (.int 0))) gIx))))))) (sRet (fC (.bool false))) sNil) (sSeq (sSet 1 (fPr (fCons (fOf (f2 (fPl 0) (fOf (fC (.int 0))) gIx)) fNil) gLenA)) (sSeq (sIf (fOr (fNot (fTst (fCh (fOf (fC (.int 1))) (fPl 1) (fOf (fC (.int 6))) (gI fun i j => decide (i ≤ j)) (gI fun i j => decide (i ≤ j))))) (fOr (fNot (fTst (fCall m_is_turn (fCons (fOf (f2 (fPl 0) (fOf (fC (.int 0))) gIx)) (fCons (fPl 1) fNil))))) (fNot (fTst (fCall m_is_turn (fCons (fOf (f2 (fPl 0) (fOf (fC (.int 1))) gIx)) (fCons (fPl 1) fNil))))))) (sRet (fC (.bool false))) sNil) (sSeq (sIf (fTst (f2 (fOf (fCall m_rounds_of (fCons (fOf (fCall m_behind (fCons (fOf (f2 (fPl 0) (fOf (fC (.int 0))) gIx)) (fCons (fOf (f2 (fPl 0) (fOf (fC (.int 1))) gIx)) fNil)))) fNil))) (fOf (fTup (fCons (fPl 1) fNil))) gNe)) (sRet (fC (.bool false))) sNil) (sRet (f2 (fOf (f2 (fOf (fPr (fCons (fOf (fCall m_rounds_of (fCons (fOf (f2 (fPl 0) (fOf (fC (.int 0))) gIx)) fNil))) fNil) gLenA)) (fOf (fPr (fCons (fOf (fCall m_rounds_of (fCons (fOf (f2 (fPl 0) (fOf (fC (.int 1))) gIx)) fNil))) fNil) gLenA)) gAdd)) (fOf (f2 (fPl 1) (fOf (fC (.int 1))) gAdd)) gEq))))))
def m_is_plane : Mr := fun cs => (g_is_plane 1000 (startR 2 cs)).bind (fin [true])
theorem h_is_plane : ∀ cs o, m_is_plane cs = some o → ∃ n out, g_is_plane n (startR 2 cs) = some out ∧ fin [true] out = some o := fun cs o h => ⟨1000, Option.bind_eq_some_iff.mp h⟩
def g_check_plane : FS := (sIf (fNot (fTst (fCall m_is_plane (fCons (fPl 0) fNil)))) (sRaise "BadPlane") sNil)
def m_check_plane : Mr := fun cs => (g_check_plane 1000 (startR 1 cs)).bind (fin [true])
theorem h_check_plane : ∀ cs o, m_check_plane cs = some o → ∃ n out, g_check_plane n (startR 1 cs) = some out ∧ fin [true] out = some o := fun cs o h => ⟨1000, Option.bind_eq_some_iff.mp h⟩
def g_degrees_of : FS := (sSeq (sExpr (fOf (fCall m_check_plane (fCons (fPl 0) fNil)))) (sRet (fTup (fCons (fOf (fCall m_rounds_of (fCons (fOf (f2 (fPl 0) (fOf (fC (.int 0))) gIx)) fNil))) (fCons (fOf (fCall m_rounds_of (fCons (fOf (f2 (fPl 0) (fOf (fC (.int 1))) gIx)) fNil))) fNil)))))
def m_degrees_of : Mr := fun cs => (g_degrees_of 1000 (startR 1 cs)).bind (fin [true])
theorem h_degrees_of : ∀ cs o, m_degrees_of cs = some o → ∃ n out, g_degrees_of n (startR 1 cs) = some out ∧ fin [true] out = some o := fun cs o h => ⟨1000, Option.bind_eq_some_iff.mp h⟩
def cg_renamed_1 : FG := (gTp 2 (gsCons (gN 3) (gsCons (gN 4) gsNil)))
def ck_renamed_1 : Fn Bv := (fOf (f2 (fPl 1) (fPl 3) gIx))
def cv_renamed_1 : Fn Bv := (fOf (f2 (fPl 1) (fPl 4) gIx))
def cg_renamed_2 : FG := (gN 3)
def ce_renamed_1 : Fn Bv := (fOf (f2 (fPl 2) (fPl 3) gIxD))
def g_renamed : FS := (sSeq (sSet 2 (fDc 5 [3, 4] (fIEnum (fPl 0)) cg_renamed_1 fYes ck_renamed_1 cv_renamed_1)) (sRet (fPr (fCons (fOf (fLc 5 [3] (fIR1 (fOf (fPr (fCons (fPl 0) fNil) gLenA))) cg_renamed_2 fYes ce_renamed_1)) fNil) gTuple)))
def m_renamed : Mr := fun cs => (g_renamed 1000 (startR 5 cs)).bind (fin [true, true])
theorem h_renamed : ∀ cs o, m_renamed cs = some o → ∃ n out, g_renamed n (startR 5 cs) = some out ∧ fin [true, true] out = some o := fun cs o h => ⟨1000, Option.bind_eq_some_iff.mp h⟩
def cg_all_turns_1 : FG := (gN 3)
def ci_all_turns_1 : Fn (List D) := (fIR1 (fPl 0))
def cg_all_turns_2 : FG := (gN 4)
def ce_all_turns_1 : Fn Bv := (fOf (fTupD (dStar (fPl 3) (dCons (fPl 4) dNil))))
def ct_all_turns_1 : Fn Bool := (fTst (f2 (fPl 4) (fPl 3) (gIn true)))
def gl_all_turns_1 : FG := (gN 2)
def bl_all_turns_1 : FS := (sSet 1 (fLc2 5 [3, 4] [4] (fISeq (fPl 1)) cg_all_turns_1 ci_all_turns_1 cg_all_turns_2 ct_all_turns_1 ce_all_turns_1))
def g_all_turns : FS := (sSeq (sSet 1 (fLst (fCons (fOf (fTup fNil)) fNil))) (sSeq (sFor (fIR1 (fPl 0)) gl_all_turns_1 bl_all_turns_1) (sRet (fMv 1))))
def m_all_turns : Mr := fun cs => (g_all_turns 1000 (startR 5 cs)).bind (fin [true])
theorem h_all_turns : ∀ cs o, m_all_turns cs = some o → ∃ n out, g_all_turns n (startR 5 cs) = some out ∧ fin [true] out = some o := fun cs o h => ⟨1000, Option.bind_eq_some_iff.mp h⟩
def cg_named_of_1 : FG := (gN 3)
def ce_named_of_1 : Fn Bv := (fOf (fTup (fCons (fOf (fCall m_renamed (fCons (fPl 1) (fCons (fPl 3) fNil)))) (fCons (fOf (fCall m_renamed (fCons (fPl 2) (fCons (fPl 3) fNil)))) fNil))))
def g_named_of : FS := (sSeq (sAsg (gTp 2 (gsCons (gN 1) (gsCons (gN 2) gsNil))) (fPl 0)) (sRet (fPr (fCons (fOf (fLc 4 [3] (fISeq (fOf (fCall m_all_turns (fCons (fOf (fPr (fCons (fPl 1) fNil) gLenA)) fNil)))) cg_named_of_1 fYes ce_named_of_1)) fNil) gMinP)))
def m_named_of : Mr := fun cs => (g_named_of 1000 (startR 4 cs)).bind (fin [true])
theorem h_named_of : ∀ cs o, m_named_of cs = some o → ∃ n out, g_named_of n (startR 4 cs) = some out ∧ fin [true] out = some o := fun cs o h => ⟨1000, Option.bind_eq_some_iff.mp h⟩
def g_named : FS := (sSeq (sExpr (fOf (fCall m_check_plane (fCons (fPl 0) fNil)))) (sRet (fCall m_named_of (fCons (fPl 0) fNil))))
def m_named : Mr := fun cs => (g_named 1000 (startR 1 cs)).bind (fin [true])
theorem h_named : ∀ cs o, m_named cs = some o → ∃ n out, g_named n (startR 1 cs) = some out ∧ fin [true] out = some o := fun cs o h => ⟨1000, Option.bind_eq_some_iff.mp h⟩
def cg_turns_of_1 : FG := (gN 4)
def ce_turns_of_1 : Fn Bv := (fOf (fTup (fCons (fOf (fCall m_renamed (fCons (fPl 1) (fCons (fPl 4) fNil)))) (fCons (fOf (fCall m_renamed (fCons (fPl 2) (fCons (fPl 4) fNil)))) fNil))))
def g_turns_of : FS := (sSeq (sExpr (fOf (fCall m_check_plane (fCons (fPl 0) fNil)))) (sSeq (sAsg (gTp 2 (gsCons (gN 1) (gsCons (gN 2) gsNil))) (fPl 0)) (sSeq (sSet 3 (fLc 5 [4] (fISeq (fOf (fCall m_all_turns (fCons (fOf (fPr (fCons (fPl 1) fNil) gLenA)) fNil)))) cg_turns_of_1 fYes ce_turns_of_1)) (sRet (fMth isL 3 (fCons (fPl 0) fNil) gCntP)))))
def m_turns_of : Mr := fun cs => (g_turns_of 1000 (startR 5 cs)).bind (fin [true])
theorem h_turns_of : ∀ cs o, m_turns_of cs = some o → ∃ n out, g_turns_of n (startR 5 cs) = some out ∧ fin [true] out = some o := fun cs o h => ⟨1000, Option.bind_eq_some_iff.mp h⟩
def wt__law_rounds_1 : Fn Bool := (fTst (f2 (fPl 3) (fPl 1) (gIn false)))
def wb__law_rounds_1 : FS := (sSeq (sExpr (fOf (fMth isL 1 (fCons (fPl 3) fNil) gRem))) (sSeq (sExpr (fOf (fMth isL 4 (fCons (fPl 3) fNil) gApp))) (sSet 3 (f2 (fPl 0) (fPl 3) gIx))))
def wt__law_rounds_2 : Fn Bool := (fTst (f2 (fPl 1) (fOf (fLst fNil)) gNe))
def wb__law_rounds_2 : FS := (sSeq (sPar 3 4 (f2 (fPl 1) (fOf (fC (.int 0))) gIx) (fLst fNil)) (sSeq (sWh wt__law_rounds_1 wb__law_rounds_1) (sExpr (fOf (fMth isL 2 (fCons (fOf (fPr (fCons (fPl 4) fNil) gLenA)) fNil) gApp)))))
def g__law_rounds : FS := (sSeq (sPar 1 2 (fLstR1 (fOf (fPr (fCons (fPl 0) fNil) gLenA))) (fLst fNil)) (sSeq (sWh wt__law_rounds_2 wb__law_rounds_2) (sRet (fPr (fCons (fOf (fPr (fCons (fPl 2) fNil) gSortL)) fNil) gTuple))))
def m__law_rounds : Mr := fun cs => (g__law_rounds 1000 (startR 5 cs)).bind (fin [true])
theorem h__law_rounds : ∀ cs o, m__law_rounds cs = some o → ∃ n out, g__law_rounds n (startR 5 cs) = some out ∧ fin [true] out = some o := fun cs o h => ⟨1000, Option.bind_eq_some_iff.mp h⟩
def g__law_is_whole : FS := (sRet (fAndV (fIsi "int" (fPl 0)) (fAndV (fBv (fNot (fTst (fIsi "bool" (fPl 0))))) (fCh (fPl 1) (fPl 0) (fPl 2) (gI fun i j => decide (i ≤ j)) (gI fun i j => decide (i ≤ j))))))
def m__law_is_whole : Mr := fun cs => (g__law_is_whole 1000 (startR 3 cs)).bind (fin [true, true, true])
theorem h__law_is_whole : ∀ cs o, m__law_is_whole cs = some o → ∃ n out, g__law_is_whole n (startR 3 cs) = some out ∧ fin [true, true, true] out = some o := fun cs o h => ⟨1000, Option.bind_eq_some_iff.mp h⟩
def cg__law_is_plane_1 : FG := (gN 2)
def ce__law_is_plane_1 : Fn Bv := (fOf (fCall m__law_is_whole (fCons (fPl 2) (fCons (fOf (fC (.int 0))) (fCons (fOf (f2 (fOf (fPr (fCons (fPl 1) fNil) gLenA)) (fOf (fC (.int 1))) gSub)) fNil)))))
def gl__law_is_plane_1 : FG := (gN 1)
def bl__law_is_plane_1 : FS := (sSeq (sIf (fOr (fNot (fTst (fIsi "tuple" (fPl 1)))) (fOr (fNot (fTst (fCh (fOf (fC (.int 1))) (fOf (fPr (fCons (fPl 1) fNil) gLenA)) (fOf (fC (.int 6))) (gI fun i j => decide (i ≤ j)) (gI fun i j => decide (i ≤ j))))) (fTst (f2 (fOf (fPr (fCons (fPl 1) fNil) gLenA)) (fOf (fPr (fCons (fOf (f2 (fPl 0) (fOf (fC (.int 0))) gIx)) fNil) gLenA)) gNe)))) (sRet (fC (.bool false))) sNil) (sIf (fOr (fNot (fTst (fPr (fCons (fOf (fLc 5 [2] (fISeq (fPl 1)) cg__law_is_plane_1 fYes ce__law_is_plane_1)) fNil) gAll))) (fTst (f2 (fOf (fLenSet (fPl 1))) (fOf (fPr (fCons (fPl 1) fNil) gLenA)) gNe))) (sRet (fC (.bool false))) sNil))
def cg__law_is_plane_2 : FG := (gN 4)
def ce__law_is_plane_2 : Fn Bv := (fOf (f2 (fOf (f2 (fPl 0) (fOf (fC (.int 1))) gIx)) (fOf (f2 (fOf (f2 (fPl 0) (fOf (fC (.int 0))) gIx)) (fPl 4) gIx)) gIx))
def g__law_is_plane : FS := (sSeq (sIf (fOr (fNot (fTst (fIsi "tuple" (fPl 0)))) (fTst (f2 (fOf (fPr (fCons (fPl 0) fNil) gLenA)) (fOf (fC (.int 2))) gNe))) (sRet (fC (.bool false))) sNil) (sSeq (sFor (fISeq (fPl 0)) gl__law_is_plane_1 bl__law_is_plane_1) (sSeq (sSet 3 (fPr (fCons (fOf (fLc 5 [4] (fIR1 (fOf (fPr (fCons (fOf (f2 (fPl 0) (fOf (fC (.int 0))) gIx)) fNil) gLenA))) cg__law_is_plane_2 fYes ce__law_is_plane_2)) fNil) gTuple)) (sSeq (sIf (fTst (f2 (fOf (fPr (fCons (fOf (fCall m__law_rounds (fCons (fPl 3) fNil))) fNil) gLenA)) (fOf (fC (.int 1))) gNe)) (sRet (fC (.bool false))) sNil) (sRet (f2 (fOf (f2 (fOf (fPr (fCons (fOf (fCall m__law_rounds (fCons (fOf (f2 (fPl 0) (fOf (fC (.int 0))) gIx)) fNil))) fNil) gLenA)) (fOf (fPr (fCons (fOf (fCall m__law_rounds (fCons (fOf (f2 (fPl 0) (fOf (fC (.int 1))) gIx)) fNil))) fNil) gLenA)) gAdd)) (fOf (f2 (fOf (fPr (fCons (fPl 3) fNil) gLenA)) (fOf (fC (.int 1))) gAdd)) gEq))))))
def m__law_is_plane : Mr := fun cs => (g__law_is_plane 1000 (startR 5 cs)).bind (fin [true])
theorem h__law_is_plane : ∀ cs o, m__law_is_plane cs = some o → ∃ n out, g__law_is_plane n (startR 5 cs) = some out ∧ fin [true] out = some o := fun cs o h => ⟨1000, Option.bind_eq_some_iff.mp h⟩
def gl__law_named_1 : FG := (gN 3)
def bl__law_named_1 : FS := (sSetIx 2 (fOf (f2 (fPl 1) (fOf (f2 (fPl 0) (fPl 3) gIx)) gIx)) (fOf (f2 (fPl 1) (fPl 3) gIx)))
def g__law_named : FS := (sSeq (sSet 2 (f2 (fOf (fLst (fCons (fOf (fC (.int 0))) fNil))) (fOf (fPr (fCons (fPl 0) fNil) gLenA)) gMul)) (sSeq (sFor (fIR1 (fOf (fPr (fCons (fPl 0) fNil) gLenA))) gl__law_named_1 bl__law_named_1) (sRet (fPr (fCons (fPl 2) fNil) gTuple))))
def m__law_named : Mr := fun cs => (g__law_named 1000 (startR 4 cs)).bind (fin [true, true])
theorem h__law_named : ∀ cs o, m__law_named cs = some o → ∃ n out, g__law_named n (startR 4 cs) = some out ∧ fin [true, true] out = some o := fun cs o h => ⟨1000, Option.bind_eq_some_iff.mp h⟩
def tb__law_wrong_1 : FS := (sSet 2 (fCall3 1 m_degrees_of m_named m_turns_of (fCons (fPl 0) fNil)))
def g__law_wrong : FS := (sSeq (sSet 2 (fC .none)) (sSeq (sTry 3 tb__law_wrong_1 [(tblO [("BadPlane", true)], (fSu 2 (tblB ["BadPlane"]) (fun _ => some (.fz (.str "plane")))))]) (sRet (fMv 2))))
def m__law_wrong : Mr := fun cs => (g__law_wrong 1000 (startR 4 cs)).bind (fin [true, true])
theorem h__law_wrong : ∀ cs o, m__law_wrong cs = some o → ∃ n out, g__law_wrong n (startR 4 cs) = some out ∧ fin [true, true] out = some o := fun cs o h => ⟨1000, Option.bind_eq_some_iff.mp h⟩
def st_law_1 : FS := (sSet 1 (fCall m__law_draws (fCons (fPl 0) fNil)))
def st_law_2 : FS := (sSet 2 (fCall m__law_grown (fCons (fPl 1) (fCons (fOf (fC (.int 5))) fNil))))
def st_law_3 : FS := (sSet 3 (fLst fNil))
def gl_law_1 : FG := (gN 4)
def bl_law_1 : FS := (sExpr (fOf (fMth isL 3 (fCons (fOf (fTup (fCons (fOf (fCall m__law_named (fCons (fOf (f2 (fPl 2) (fOf (fC (.int 0))) gIx)) (fCons (fPl 4) fNil)))) (fCons (fOf (fCall m__law_named (fCons (fOf (f2 (fPl 2) (fOf (fC (.int 1))) gIx)) (fCons (fPl 4) fNil)))) fNil)))) fNil) gApp)))
def st_law_4 : FS := (sFor (fISeq (fOf (fCall m__law_orders (fCons (fOf (fPr (fCons (fOf (f2 (fPl 2) (fOf (fC (.int 0))) gIx)) fNil) gLenA)) fNil)))) gl_law_1 bl_law_1)
def st_law_5 : FS := (sIf (fOr (fNot (fTst (fCall m_is_plane (fCons (fPl 2) fNil)))) (fTst (f2 (fOf (fCall m_degrees_of (fCons (fPl 2) fNil))) (fOf (fTup (fCons (fOf (fCall m__law_rounds (fCons (fOf (f2 (fPl 2) (fOf (fC (.int 0))) gIx)) fNil))) (fCons (fOf (fCall m__law_rounds (fCons (fOf (f2 (fPl 2) (fOf (fC (.int 1))) gIx)) fNil))) fNil)))) gNe))) (sRet (fC (.bool false))) sNil)
def st_law_6 : FS := (sIf (fOr (fTst (f2 (fOf (fCall m_named (fCons (fPl 2) fNil))) (fOf (fPr (fCons (fPl 3) fNil) gMinP)) gNe)) (fTst (f2 (fOf (fCall m_turns_of (fCons (fPl 2) fNil))) (fOf (fMth isL 3 (fCons (fPl 2) fNil) gCntP)) gNe))) (sRet (fC (.bool false))) sNil)
def st_law_7 : FS := (sSet 5 (f2 (fOf (fC (.int 1))) (fOf (fCall m__law_pick (fCons (fPl 1) (fCons (fOf (fC (.int 4))) fNil)))) gAdd))
def st_law_8 : FS := (sSet 6 (fCall m__law_orders (fCons (fPl 5) fNil)))
def st_law_9 : FS := (sSet 7 (fTup (fCons (fOf (f2 (fPl 6) (fOf (fCall m__law_pick (fCons (fPl 1) (fCons (fOf (fPr (fCons (fPl 6) fNil) gLenA)) fNil)))) gIx)) (fCons (fOf (f2 (fPl 6) (fOf (fCall m__law_pick (fCons (fPl 1) (fCons (fOf (fPr (fCons (fPl 6) fNil) gLenA)) fNil)))) gIx)) fNil))))
def st_law_10 : FS := (sSet 8 (fLst (fCons (fOf (fC .none)) (fCons (fOf (fTup fNil)) (fCons (fOf (f2 (fPl 2) (fOf (fC (.int 0))) gIx)) (fCons (fOf (fPr (fCons (fPl 2) fNil) gList)) (fCons (fOf (fTup (fCons (fOf (f2 (fPl 2) (fOf (fC (.int 0))) gIx)) fNil))) (fCons (fOf (fTup (fCons (fOf (f2 (fPl 2) (fOf (fC (.int 0))) gIx)) (fCons (fOf (fPr (fCons (fOf (f2 (fPl 2) (fOf (fC (.int 1))) gIx)) fNil) gList)) fNil)))) (fCons (fOf (f2 (fPl 2) (fOf (fC (.int 2))) gMul)) fNil)))))))))
def st_law_11 : FS := (sSet 8 (f2 (fPl 8) (fOf (fLst (fCons (fOf (fTup (fCons (fOf (f2 (fOf (f2 (fPl 2) (fOf (fC (.int 0))) gIx)) (fOf (fTup (fCons (fOf (fC (.int 9))) fNil))) gAdd)) (fCons (fOf (f2 (fPl 2) (fOf (fC (.int 1))) gIx)) fNil)))) (fCons (fOf (fTup (fCons (fOf (fTup fNil)) (fCons (fOf (fTup fNil)) fNil)))) (fCons (fOf (fTup (fCons (fOf (fTup (fCons (fOf (fC (.bool true))) (fCons (fOf (fC (.int 0))) fNil)))) (fCons (fOf (fTup (fCons (fOf (fC (.int 0))) (fCons (fOf (fC (.int 1))) fNil)))) fNil)))) (fCons (fOf (fTup (fCons (fOf (fTup (fCons (fOf (fC (.int 0))) (fCons (fOf (fC (.int 0))) fNil)))) (fCons (fOf (fTup (fCons (fOf (fC (.int 0))) (fCons (fOf (fC (.int 1))) fNil)))) fNil)))) fNil)))))) gAdd))
def st_law_12 : FS := (sSet 8 (f2 (fPl 8) (fOf (fLst (fCons (fOf (fTup (fCons (fOf (fTup (fCons (fOf (fC (.int 1))) (fCons (fOf (fC (.int 0))) fNil)))) (fCons (fOf (fTup (fCons (fOf (fC (.int 0))) fNil))) fNil)))) (fCons (fOf (fTup (fCons (fOf (f2 (fOf (fTup (fCons (fOf (fC (.int 0))) fNil))) (fOf (fC (.int 7))) gMul)) (fCons (fOf (f2 (fOf (fTup (fCons (fOf (fC (.int 0))) fNil))) (fOf (fC (.int 7))) gMul)) fNil)))) (fCons (fOf (fTup (fCons (fOf (fC (.str "01"))) (fCons (fOf (fC (.str "10"))) fNil)))) (fCons (fPl 7) fNil)))))) gAdd))
def st_law_13 : FS := (sExpr (fOf (fMth isL 8 (fCons (fOf (fTup (fCons (fOf (fTup (fCons (fOf (fC (.int 1))) (fCons (fOf (fC (.int 2))) (fCons (fOf (fC (.int 3))) (fCons (fOf (fC (.int 4))) (fCons (fOf (fC (.int 5))) (fCons (fOf (fC (.int 6))) (fCons (fOf (fC (.int 0))) fNil))))))))) (fCons (fOf (fTup (fCons (fOf (fC (.int 0))) (fCons (fOf (fC (.int 1))) (fCons (fOf (fC (.int 2))) (fCons (fOf (fC (.int 3))) (fCons (fOf (fC (.int 4))) (fCons (fOf (fC (.int 5))) (fCons (fOf (fC (.int 6))) fNil))))))))) fNil)))) fNil) gApp)))
def gl_law_2 : FG := (gN 9)
def bl_law_2 : FS := (sSeq (sIf (fTst (f2 (fOf (fCall m_is_plane (fCons (fPl 9) fNil))) (fOf (fCall m__law_is_plane (fCons (fPl 9) fNil))) gNe)) (sRet (fC (.bool false))) sNil) (sIf (fAnd (fNot (fTst (fCall m__law_is_plane (fCons (fPl 9) fNil)))) (fTst (f2 (fOf (fCall m__law_wrong (fCons (fPl 9) (fCons (fOf (fCall m__law_pick (fCons (fPl 1) (fCons (fOf (fC (.int 3))) fNil)))) fNil)))) (fOf (fC (.str "plane"))) gNe))) (sRet (fC (.bool false))) sNil))
def st_law_14 : FS := (sFor (fISeq (fOf (fLst (fCons (fOf (f2 (fPl 8) (fOf (fCall m__law_pick (fCons (fPl 1) (fCons (fOf (fC (.int 16))) fNil)))) gIx)) (fCons (fPl 7) (fCons (fOf (fTup (fCons (fOf (f2 (fPl 2) (fOf (fC (.int 1))) gIx)) (fCons (fOf (f2 (fPl 2) (fOf (fC (.int 0))) gIx)) fNil)))) fNil)))))) gl_law_2 bl_law_2)
def st_law_15 : FS := (sRet (fC (.bool true)))
def g_law : FS := (sSeq st_law_1 (sSeq st_law_2 (sSeq st_law_3 (sSeq st_law_4 (sSeq st_law_5 (sSeq st_law_6 (sSeq st_law_7 (sSeq st_law_8 (sSeq st_law_9 (sSeq st_law_10 (sSeq st_law_11 (sSeq st_law_12 (sSeq st_law_13 (sSeq st_law_14 st_law_15))))))))))))))
end L3

namespace L3
open PySem PySem.Spec L2
theorem h_is_from : ∀ cs o, m_is_from cs = some o → ∃ n out, g_is_from n (startR 3 cs) = some out ∧ fin [true, true, true] out = some o := fun cs o h => by
  unfold m_is_from at h
  split at h
  · rename_i v lo hi
    cases h
    refine ⟨0, .rt (.b (isF v lo hi)) [some (.fz v), some (.i lo), some (.i hi)], ?_, rfl⟩
    cases v with
    | int x =>
      by_cases h1 : lo ≤ x <;> simp [g_is_from, startR, is_int, is_bool, isF, h1]
    | _ => simp [g_is_from, startR, is_int, is_bool, isF]
  · cases h
theorem tupI_of {c : Cl} {ns : List Int} (h : tupI c = some ns) : c = T ns := by
  unfold tupI at h
  split at h
  · rename_i ds
    cases zs_of h
    rfl
  · cases h
theorem rngD_succ (lo : Int) (n : Nat) : rngD lo (n + 1) = .int lo :: rngD (lo + 1) n := by
  unfold rngD
  rw [List.range_succ_eq_map, List.map_cons, List.map_map]
  congr 1
  · rw [Int.natCast_zero, Int.add_zero]
  · refine List.map_congr_left fun i _ => ?_
    show PyData.int (lo + ((i + 1 : Nat) : Int)) = PyData.int (lo + 1 + (i : Int))
    congr 1
    omega
theorem rngD_zero (lo : Int) : rngD lo 0 = [] := rfl
theorem rngD_len (lo : Int) (n : Nat) : (rngD lo n).length = n := by
  unfold rngD
  rw [List.length_map, List.length_range]
theorem h__law_draws : ∀ cs o, m__law_draws cs = some o → ∃ n out, g__law_draws n (startR 1 cs) = some out ∧ fin [true] out = some o := fun cs o h => by
  unfold m__law_draws at h
  split at h
  case h_2 => cases h
  rename_i ds
  cases q : intsD ds with
  | none => rw [q] at h; cases h
  | some ns =>
    rw [q] at h
    cases h
    cases zs_of q
    exact ⟨0, .rt (.lst (Rw.ds ⟨ns, 0, 0, 7⟩)) [some (.fz (.list (zs ns)))], by simp [g__law_draws, startR, Rw.ds], rfl⟩
theorem rw_of {ds : List D} {x : Rw} (h : Rw.of ds = some x) : ds = x.ds := by
  unfold Rw.of at h
  split at h
  · rename_i s p b r
    split at h
    · rename_i ns q
      split at h
      · rename_i hp
        cases h
        cases zs_of q
        unfold Rw.ds
        rw [Int.toNat_of_nonneg hp]
      · cases h
    · cases h
  · cases h
theorem of_rw (x : Rw) : Rw.of x.ds = some x := by
  unfold Rw.of Rw.ds
  simp [intsD_zs]
theorem pow18 : gPow [.fz (.int 10), .fz (.int 18)] = some (.fz (.int 1000000000000000000)) := by rfl
theorem fm_pos (a : Int) {b : Int} (h : 0 < b) : 0 ≤ a.fmod b ∧ a.fmod b < b := ⟨Int.fmod_nonneg_of_pos a h, Int.fmod_lt_of_pos a h⟩
def pickHd : FS := (sIf (fTst (f2 (fOf (f2 (fPl 0) (fOf (fC (.int 2))) gIx)) (fOf (fC (.int 0))) gEq)) (sIf (fTst (f2 (fOf (f2 (fPl 0) (fOf (fC (.int 1))) gIx)) (fOf (fPr (fCons (fOf (f2 (fPl 0) (fOf (fC (.int 0))) gIx)) fNil) gLenA)) (gI fun i j => decide (i < j)))) (sSeq (sSet 2 (f2 (fOf (f2 (fPl 0) (fOf (fC (.int 0))) gIx)) (fOf (f2 (fPl 0) (fOf (fC (.int 1))) gIx)) gIx)) (sSeq (sSetIx 0 (fOf (f2 (fOf (f2 (fPl 0) (fOf (fC (.int 1))) gIx)) (fOf (fC (.int 1))) gAdd)) (fOf (fC (.int 1)))) (sIf (fTst (f2 (fPl 2) (fOf (f2 (fOf (fC (.int 10))) (fOf (fC (.int 18))) gPow)) (gI fun i j => decide (j ≤ i)))) (sSetIx 0 (fPl 2) (fOf (fC (.int 2)))) (sSetIx 0 (fOf (f2 (fOf (fPr (fCons (fOf (f2 (fOf (f2 (fOf (f2 (fOf (f2 (fPl 0) (fOf (fC (.int 3))) gIx)) (fOf (fC (.int 48271))) gMul)) (fOf (f2 (fPl 2) (fOf (fC (.int 69621))) gMul)) gAdd)) (fOf (fC (.int 11))) gAdd)) fNil) gInt)) (fOf (fC (.int 2147483647))) gMod)) (fOf (fC (.int 3))))))) (sSetIx 0 (fOf (f2 (fOf (fPr (fCons (fOf (f2 (fOf (f2 (fOf (f2 (fPl 0) (fOf (fC (.int 3))) gIx)) (fOf (fC (.int 48271))) gMul)) (fOf (fC (.int 7))) gAdd)) fNil) gInt)) (fOf (fC (.int 2147483647))) gMod)) (fOf (fC (.int 3))))) sNil)
def pickTl : FS := (sSeq (sIf (fTst (f2 (fOf (f2 (fPl 0) (fOf (fC (.int 2))) gIx)) (fOf (fC (.int 0))) (gI fun i j => decide (j < i)))) (sSeq (sSet 3 (f2 (fOf (fPr (fCons (fOf (f2 (fPl 0) (fOf (fC (.int 2))) gIx)) fNil) gInt)) (fPl 1) gMod)) (sSeq (sSetIx 0 (fOf (f2 (fOf (f2 (fPl 0) (fOf (fC (.int 2))) gIx)) (fPl 1) gFdiv)) (fOf (fC (.int 2)))) (sRet (fMv 3)))) sNil) (sRet (f2 (fOf (f2 (fOf (fPr (fCons (fOf (f2 (fOf (f2 (fPl 0) (fOf (fC (.int 3))) gIx)) (fOf (fC (.int 16807))) gMul)) fNil) gInt)) (fOf (fC (.int 2147483629))) gMod)) (fPl 1) gMod)))
theorem pick_eq : g__law_pick = sSeq pickHd pickTl := rfl
theorem pick_tail (x : Rw) (many : Int) (h1 : 0 < many) (h2 : many < 2 ^ 64) (c2 c3 : Option Cl) (n : Nat) :
    ∃ c2' c3', pickTl n [some (.lst x.ds), some (.i many), c2, c3] = some (if 0 < x.b then .rt (.i (x.b.fmod many)) [some (.lst { x with b := x.b.fdiv many }.ds), some (.i many), c2', c3'] else .rt (.i (((x.r * 16807).fmod 2147483629).fmod many)) [some (.lst x.ds), some (.i many), c2', c3']) := by
  have e0 : many ≠ 0 := by omega
  have e1 := e_gModI (i := x.b) (j := many) e0
  have e2 := e_gFdivS (i := x.b) (j := many) e0 (by omega)
  have e3 := e_gMulI (i := x.r) (j := 16807) (.inr (by decide))
  have e4 := e_gModI (i := x.r * 16807) (j := 2147483629) (by decide)
  have e5 := e_gModI (i := (x.r * 16807).fmod 2147483629) (j := many) e0
  have a2 : atI x.ds 2 = some (.int x.b) := rfl
  have a3 : atI x.ds 3 = some (.int x.r) := rfl
  have i2 : ixN x.ds.length 2 = some 2 := rfl
  have s2 : ∀ v : Int, x.ds.set 2 (.int v) = ({ x with b := v } : Rw).ds := fun _ => rfl
  by_cases hb : 0 < x.b
  · refine ⟨c2, none, ?_⟩
    rw [if_pos hb]
    simp [pickTl, a2, hb, e1, e2, setIx, i2, s2]
  · refine ⟨c2, c3, ?_⟩
    rw [if_neg hb]
    simp [pickTl, a2, a3, hb, e3, e4, e5]
theorem rw_a0 (x : Rw) : atI x.ds 0 = some (.list (zs x.s)) := rfl
theorem rw_a1 (x : Rw) : atI x.ds 1 = some (.int x.p) := rfl
theorem rw_a2 (x : Rw) : atI x.ds 2 = some (.int x.b) := rfl
theorem rw_a3 (x : Rw) : atI x.ds 3 = some (.int x.r) := rfl
theorem rw_i1 (x : Rw) : ixN x.ds.length 1 = some 1 := rfl
theorem rw_i2 (x : Rw) : ixN x.ds.length 2 = some 2 := rfl
theorem rw_i3 (x : Rw) : ixN x.ds.length 3 = some 3 := rfl
theorem rw_s1 (x : Rw) : x.ds.set 1 (.int ((x.p : Int) + 1)) = (⟨x.s, x.p + 1, x.b, x.r⟩ : Rw).ds := rfl
theorem rw_s2 (x : Rw) (v : Int) : x.ds.set 2 (.int v) = (⟨x.s, x.p, v, x.r⟩ : Rw).ds := rfl
theorem rw_s3 (x : Rw) (v : Int) : x.ds.set 3 (.int v) = (⟨x.s, x.p, x.b, v⟩ : Rw).ds := rfl
theorem pick_head (x : Rw) (m : Option Cl) (n : Nat) : ∃ c2, pickHd n [some (.lst x.ds), m, none, none] = some (.nx [some (.lst x.next.ds), m, c2, none]) := by
  have e3 := e_gMulI (i := x.r) (j := 48271) (.inr (by decide))
  unfold Rw.next
  by_cases hb : x.b = 0
  · rw [if_pos hb]
    cases hs : x.s[x.p]? with
    | some c =>
      have hp : x.p < x.s.length := (List.getElem?_eq_some_iff.mp hs).1
      have hp' : (x.p : Int) < (x.s.length : Int) := by omega
      have ac : atI (zs x.s) (x.p : Int) = some (.int c) := atI_zs hs
      have e4 := e_gMulI (i := c) (j := 69621) (.inr (by decide))
      have e5 := e_gModI (i := x.r * 48271 + c * 69621 + 11) (j := 2147483647) (by decide)
      refine ⟨some (.i c), ?_⟩
      by_cases hc : (10 : Int) ^ 18 ≤ c
      · have hc' : (1000000000000000000 : Int) ≤ c := hc
        dsimp only
        rw [if_pos hc]
        simp [pickHd, rw_a0, rw_a1, rw_a2, hb, hp', ac, pow18, hc', setIx, rw_i1, rw_s1, rw_i2, rw_s2]
      · have hc' : ¬ (1000000000000000000 : Int) ≤ c := hc
        dsimp only
        rw [if_neg hc]
        simp [pickHd, rw_a0, rw_a1, rw_a2, rw_a3, hb, hp', ac, pow18, hc', setIx, rw_i1, rw_s1, e3, e4, e5, rw_i3, rw_s3]
    | none =>
      have hp : x.s.length ≤ x.p := List.getElem?_eq_none_iff.mp hs
      have hp' : ¬ (x.p : Int) < (x.s.length : Int) := by omega
      have e5 := e_gModI (i := x.r * 48271 + 7) (j := 2147483647) (by decide)
      refine ⟨none, ?_⟩
      simp [pickHd, rw_a0, rw_a1, rw_a2, rw_a3, hb, hp', e3, e5, setIx, rw_i3, rw_s3]
  · rw [if_neg hb]
    refine ⟨none, ?_⟩
    simp [pickHd, rw_a2, hb]
theorem h__law_pick : ∀ cs o, m__law_pick cs = some o → ∃ n out, g__law_pick n (startR 4 cs) = some out ∧ fin [true, true] out = some o := fun cs o h => by
  unfold m__law_pick at h
  split at h
  case h_2 => cases h
  rename_i ds many
  cases q : Rw.of ds with
  | none => rw [q] at h; cases h
  | some x =>
    rw [q] at h
    cases rw_of q
    dsimp only at h
    split at h
    case isFalse => cases h
    rename_i hm
    cases h
    obtain ⟨c2, e1⟩ := pick_head x (some (.i many)) 0
    obtain ⟨c2', c3', e2⟩ := pick_tail x.next many hm.1 hm.2 c2 none 0
    refine ⟨0, if 0 < x.next.b then .rt (.i (x.next.b.fmod many)) [some (.lst { x.next with b := x.next.b.fdiv many }.ds), some (.i many), c2', c3'] else .rt (.i (((x.next.r * 16807).fmod 2147483629).fmod many)) [some (.lst x.next.ds), some (.i many), c2', c3'], ?_, ?_⟩
    · show g__law_pick 0 [some (.lst x.ds), some (.i many), none, none] = _
      rw [pick_eq, e_sSeq, e1]
      exact e2
    · unfold Rw.pick
      split <;> rfl
theorem pick_rg (x : Rw) {many : Int} (h : 0 < many) : 0 ≤ (x.pick many).1 ∧ (x.pick many).1 < many := by
  unfold Rw.pick
  split
  · exact fm_pos _ h
  · exact fm_pos _ h
theorem pick_ok (x : Rw) {many : Int} (h1 : 0 < many) (h2 : many < 2 ^ 64) : m__law_pick [.lst x.ds, .fz (.int many)] = some (.ok (.i (x.pick many).1) [some (.lst (x.pick many).2.ds), some (.i many)]) := by
  unfold m__law_pick
  dsimp only
  rw [of_rw]
  exact if_pos ⟨h1, h2⟩
theorem pick_ex (x : Rw) {k : Int} (h1 : 0 < k) (h2 : k < 2 ^ 64) : ∃ (v : Int) (x1 : Rw), 0 ≤ v ∧ v < k ∧ m__law_pick [.lst x.ds, .fz (.int k)] = some (.ok (.i v) [some (.lst x1.ds), some (.i k)]) := ⟨_, _, (pick_rg x h1).1, (pick_rg x h1).2, pick_ok x h1 h2⟩
end L3

namespace L3
open PySem PySem.Spec L2
/-! ### rounds of a turn -/
def zN (l : List Nat) : List Int := l.map fun n : Nat => (n : Int)
theorem zN_len (l : List Nat) : (zN l).length = l.length := List.length_map _
theorem zN_get (l : List Nat) (i : Nat) : (zN l)[i]? = (l[i]?).map fun n : Nat => (n : Int) := List.getElem?_map
theorem zN_app (l m : List Nat) : zN (l ++ m) = zN l ++ zN m := List.map_append
theorem mem_zN {l : List Nat} {n : Nat} : ((n : Int) ∈ zN l) = (n ∈ l) := by
  refine propext ⟨fun h => ?_, fun h => List.mem_map.mpr ⟨n, h, rfl⟩⟩
  obtain ⟨m, h1, h2⟩ := List.mem_map.mp h
  have : m = n := by omega
  rw [← this]; exact h1
theorem zN_inj {l m : List Nat} (h : zN l = zN m) : l = m := by
  have := congrArg (List.map Int.toNat) h
  unfold zN at this
  rw [List.map_map, List.map_map] at this
  have e : (Int.toNat ∘ fun n : Nat => (n : Int)) = id := funext fun n => rfl
  rw [e, List.map_id, List.map_id] at this
  exact this
theorem at_zN {l : List Nat} {i : Nat} (h : i < l.length) : atI (zs (zN l)) (i : Int) = some (.int ((l.getD i 0 : Nat) : Int)) := by
  refine atI_zs ?_
  rw [zN_get, List.getElem?_eq_getElem h, List.getD_eq_getElem?_getD, List.getElem?_eq_getElem h]; rfl
/-- from here on, until one is done -/
def go1 (t : List Nat) : Nat → List Nat → Nat → Nat → List Nat × Nat
  | 0, d, _, s => (d, s)
  | f + 1, d, h, s => if h ∈ d then (d, s) else go1 t f (d ++ [h]) (t.getD h 0) (s + 1)
def rds (t : List Nat) : Nat → Nat → List Nat → List Nat → List Nat × List Nat
  | 0, _, d, f => (d, f)
  | m + 1, k, d, f => if k ∈ d then rds t m (k + 1) d f else rds t m (k + 1) (go1 t (t.length + 1) d k 0).1 (f ++ [(go1 t (t.length + 1) d k 0).2])
def rounds (t : List Nat) : List Nat := (rds t t.length 0 [] []).2
/-- done ones: each once, all in reach -/
structure Dn (n : Nat) (d : List Nat) : Prop where
  nd : d.Nodup
  lt : ∀ x ∈ d, x < n
theorem nodup_len : ∀ (n : Nat) (d : List Nat), d.Nodup → (∀ x ∈ d, x < n) → d.length ≤ n
  | 0, d, _, h => by
    cases d with
    | nil => exact Nat.le_refl 0
    | cons x d => exact absurd (h x List.mem_cons_self) (Nat.not_lt_zero x)
  | n + 1, d, nd, h => by
    have h1 := nodup_len n (d.erase n) (nd.erase n) fun x hx => by
      have h2 := (nd.mem_erase_iff).mp hx
      have := h x h2.2
      have := h2.1
      omega
    by_cases hn : n ∈ d
    · rw [List.length_erase_of_mem hn] at h1
      omega
    · rw [List.erase_of_not_mem hn] at h1
      omega
theorem Dn.le {n : Nat} {d : List Nat} (h : Dn n d) : d.length ≤ n := nodup_len n d h.nd h.lt
theorem Dn.add {n k : Nat} {d : List Nat} (h : Dn n d) (hk : k < n) (hd : k ∉ d) : Dn n (d ++ [k]) :=
  ⟨List.nodup_append.mpr ⟨h.nd, List.pairwise_singleton _ _, fun x hx y hy e => hd (by rw [← List.mem_singleton.mp hy, ← e]; exact hx)⟩, fun x hx => by
    rcases List.mem_append.mp hx with q | q
    · exact h.lt x q
    · rw [List.mem_singleton.mp q]; exact hk⟩
/-- a turn: each of its numbers in reach -/
def TnO (t : List Nat) : Prop := ∀ x ∈ t, x < t.length
theorem TnO.at {t : List Nat} (h : TnO t) {i : Nat} (hi : i < t.length) : t.getD i 0 < t.length := by
  rw [List.getD_eq_getElem?_getD, List.getElem?_eq_getElem hi]
  exact h _ (List.getElem_mem hi)
theorem go1_dn {t : List Nat} (ht : TnO t) : ∀ (f : Nat) (d : List Nat) (h s : Nat), Dn t.length d → h < t.length → t.length < f + d.length →
    Dn t.length (go1 t f d h s).1 ∧ (go1 t f d h s).1.length = d.length + ((go1 t f d h s).2 - s) ∧ s ≤ (go1 t f d h s).2 ∧ (∀ x ∈ d, x ∈ (go1 t f d h s).1) ∧ h ∈ (go1 t f d h s).1
  | 0, d, h, s, hd, hh, hf => by have := hd.le; omega
  | f + 1, d, h, s, hd, hh, hf => by
    unfold go1
    by_cases hm : h ∈ d
    · rw [if_pos hm]
      exact ⟨hd, by show d.length = d.length + (s - s); omega, Nat.le_refl _, fun x hx => hx, hm⟩
    · rw [if_neg hm]
      obtain ⟨a, b, c, e, _⟩ := go1_dn ht f (d ++ [h]) (t.getD h 0) (s + 1) (hd.add hh hm) (ht.at hh) (by rw [List.length_append, List.length_singleton]; omega)
      rw [List.length_append, List.length_singleton] at b
      exact ⟨a, by omega, by omega, fun x hx => e x (List.mem_append_left _ hx), e h (List.mem_append_right _ List.mem_cons_self)⟩
/-- all sizes together are all that is done -/
theorem rds_dn {t : List Nat} (ht : TnO t) : ∀ (m k : Nat) (d f : List Nat), k + m = t.length → Dn t.length d → (∀ x, x < k → x ∈ d) → f.sum = d.length → Dn t.length (rds t m k d f).1 ∧ (∀ x, x < t.length → x ∈ (rds t m k d f).1) ∧ (rds t m k d f).2.sum = (rds t m k d f).1.length
  | 0, k, d, f, hk, hd, hx, hs => ⟨hd, fun x h => hx x (by omega), hs⟩
  | m + 1, k, d, f, hk, hd, hx, hs => by
    unfold rds
    by_cases hm : k ∈ d
    · rw [if_pos hm]
      refine rds_dn ht m (k + 1) d f (by omega) hd (fun x h => ?_) hs
      by_cases e : x = k
      · rw [e]; exact hm
      · exact hx x (by omega)
    · rw [if_neg hm]
      have hl := hd.le
      obtain ⟨a, b, c, e, g⟩ := go1_dn ht (t.length + 1) d k 0 hd (by omega) (by omega)
      refine rds_dn ht m (k + 1) _ _ (by omega) a (fun x h => ?_) ?_
      · by_cases ek : x = k
        · rw [ek]; exact g
        · exact e x (hx x (by omega))
      · rw [List.sum_append, hs, b]
        show d.length + (_ + 0) = _
        omega
theorem nodup_sub : ∀ (n : Nat) (d : List Nat), d.Nodup → (∀ x, x < n → x ∈ d) → n ≤ d.length
  | 0, _, _, _ => Nat.zero_le _
  | n + 1, d, nd, h => by
    have hn := h n (Nat.lt_succ_self n)
    have h1 := nodup_sub n (d.erase n) (nd.erase n) fun x hx => nd.mem_erase_iff.mpr ⟨by omega, h x (by omega)⟩
    rw [List.length_erase_of_mem hn] at h1
    have := List.length_pos_of_mem hn
    omega
theorem rounds_sum {t : List Nat} (ht : TnO t) : (rounds t).sum = t.length := by
  obtain ⟨a, b, c⟩ := rds_dn ht t.length 0 [] [] (by omega) ⟨.nil, fun x h => nomatch h⟩ (fun x h => absurd h (Nat.not_lt_zero x)) rfl
  have h1 := a.le
  have h2 : t.length ≤ (rds t t.length 0 [] []).1.length := by
    have := nodup_sub t.length _ a.nd b
    exact this
  unfold rounds
  omega
end L3

namespace L3
open PySem PySem.Spec L2
/-! ### rounds_of, _law_rounds -/
def dE (d : List Nat) : List (Key × D) := d.map fun k : Nat => (.inl (k : Int), .bool true)
theorem dE_get {d : List Nat} {k : Nat} : (getK (dE d) (.inl (k : Int))).isSome = decide (k ∈ d) := by
  induction d with
  | nil => simp [dE, getK]
  | cons x d ih =>
    have e : dE (x :: d) = (.inl (x : Int), .bool true) :: dE d := rfl
    rw [e]
    unfold getK at ih ⊢
    by_cases hx : x = k
    · subst hx
      simp [List.find?_cons]
    · have h2 : ¬ ((x : Int) = (k : Int)) := by omega
      have h3 : ¬ (k = x) := fun z => hx z.symm
      rw [List.find?_cons]
      have h4 : decide ((Sum.inl (x : Int) : Key) = Sum.inl (k : Int)) = false := decide_eq_false fun z => h2 (Sum.inl.inj z)
      simp only [h4]
      rw [ih, Bool.eq_iff_iff, decide_eq_true_eq, decide_eq_true_eq, List.mem_cons]
      constructor
      · exact .inr
      · rintro (z | z)
        · exact absurd z h3
        · exact z
theorem dE_put {d : List Nat} {k : Nat} (h : k ∉ d) : putD (dE d) (.inl (k : Int)) (.bool true) = dE (d ++ [k]) := by
  have h0 : ((dE d).any fun kv => decide (kv.1 = Sum.inl (k : Int))) = false := by
    rw [List.any_eq_false]
    intro kv hkv
    obtain ⟨x, hx, rfl⟩ := List.mem_map.mp hkv
    intro e
    have e := Sum.inl.inj (of_decide_eq_true e)
    have : x = k := by omega
    exact h (this ▸ hx)
  unfold putD
  rw [if_neg (by rw [h0]; decide)]
  unfold dE
  rw [List.map_append]
  rfl
theorem ninK (d : List Nat) (k : Nat) : gInK true [.fz (.int (k : Int)), .dct (dE d)] = some (.b (!decide (k ∈ d))) := by
  show some (Cl.fz (.bool (if true = true then !(getK (dE d) (.inl (k : Int))).isSome else (getK (dE d) (.inl (k : Int))).isSome))) = _
  rw [if_pos rfl, dE_get]
section
variable {t : List Nat} (ht : TnO t) (F B : Option Cl) (n : Nat)
abbrev R6 (t d : List Nat) (F B : Option Cl) (h s : Nat) : En := [some (T (zN t)), some (.dct (dE d)), F, B, some (.i h), some (.i s)]
include ht in
theorem ro_wh : ∀ (f m : Nat) (d : List Nat) (h s : Nat), Dn t.length d → h < t.length → t.length < f + d.length → f ≤ m → t.length ≤ 1000 →
    ∃ h', whF wt_rounds_of_1 wb_rounds_of_1 n m (R6 t d F B h s) = some (.nx (R6 t (go1 t f d h s).1 F B h' (go1 t f d h s).2))
  | 0, m, d, h, s, hd, hh, hf, hm, hz => by have := hd.le; omega
  | f + 1, 0, d, h, s, hd, hh, hf, hm, hz => by omega
  | f + 1, m + 1, d, h, s, hd, hh, hf, hm, hz => by
    have nk := ninK d h
    unfold go1
    by_cases hmem : h ∈ d
    · rw [if_pos hmem]
      rw [decide_eq_true hmem] at nk
      exact ⟨h, by rw [wh_stop (ρ1 := R6 t d F B h s) (by simp [wt_rounds_of_1, nk])]⟩
    · rw [if_neg hmem]
      rw [decide_eq_false hmem] at nk
      obtain ⟨h', e⟩ := ro_wh f m (d ++ [h]) (t.getD h 0) (s + 1) (hd.add hh hmem) (ht.at hh) (by rw [List.length_append, List.length_singleton]; omega) (by omega) hz
      refine ⟨h', ?_⟩
      have ai := at_zN hh
      have pd := dE_put hmem
      have hl : (dE d).length ≤ 1000000 := by unfold dE; rw [List.length_map]; have := hd.le; omega
      rw [wh_step (ρ1 := R6 t d F B h s) (ρ2 := R6 t (d ++ [h]) F B (t.getD h 0) (s + 1)) (by simp [wt_rounds_of_1, nk]) (by
        generalize t.getD h 0 = g at *
        simp [wb_rounds_of_1, ai, setIxD, keyD, hl, pd])]
      exact e
include ht in
theorem ro_for : ∀ (m k : Nat) (d f : List Nat) (hh s : Option Cl) (B : Option Cl), k + m = t.length → Dn t.length d → t.length ≤ 900 → f.length + m ≤ 900 → (hh = none ∧ s = none ∨ ∃ a b : Nat, hh = some (.i a) ∧ s = some (.i b)) →
    ∃ B' hh' s', forF gl_rounds_of_1 bl_rounds_of_1 1000 (rngD (k : Int) m) [some (T (zN t)), some (.dct (dE d)), some (.lst (zs (zN f))), B, hh, s] = some (.nx [some (T (zN t)), some (.dct (dE (rds t m k d f).1)), some (.lst (zs (zN (rds t m k d f).2))), B', hh', s'])
  | 0, k, d, f, hh, s, B, hk, hd, hz, hf, ho => ⟨B, hh, s, rfl⟩
  | m + 1, k, d, f, hh, s, B, hk, hd, hz, hf, ho => by
    have nk := ninK d k
    have ek : ((k : Int) + 1) = ((k + 1 : Nat) : Int) := rfl
    unfold rds
    by_cases hmem : k ∈ d
    · rw [if_pos hmem]
      rw [decide_eq_true hmem] at nk
      obtain ⟨B', hh', s', e⟩ := ro_for m (k + 1) d f hh s (some (.i k)) (by omega) hd hz (by omega) ho
      refine ⟨B', hh', s', ?_⟩
      rw [rngD_succ, for_step (ρ1 := [some (T (zN t)), some (.dct (dE d)), some (.lst (zs (zN f))), some (.i k), hh, s]) (ρ2 := [some (T (zN t)), some (.dct (dE d)), some (.lst (zs (zN f))), some (.i k), hh, s]) (by simp [gl_rounds_of_1]) (by simp [bl_rounds_of_1, nk]), ek]
      exact e
    · rw [if_neg hmem]
      rw [decide_eq_false hmem] at nk
      have hl := hd.le
      obtain ⟨h', e1⟩ := ro_wh ht (some (.lst (zs (zN f)))) (some (.i k)) 1000 (t.length + 1) 1000 d k 0 hd (by omega) (by omega) (by omega) (by omega)
      obtain ⟨a1, _, _, _, _⟩ := go1_dn ht (t.length + 1) d k 0 hd (by omega) (by omega)
      generalize go1 t (t.length + 1) d k 0 = r at *
      obtain ⟨B', hh', s', e⟩ := ro_for m (k + 1) r.1 (f ++ [r.2]) (some (.i h')) (some (.i r.2)) (some (.i k)) (by omega) a1 hz (by rw [List.length_append, List.length_singleton]; omega) (.inr ⟨_, _, rfl, rfl⟩)
      refine ⟨B', hh', s', ?_⟩
      have fl : (zs (zN f)).length ≤ 10000000 := by unfold zs; rw [List.length_map, zN_len]; omega
      have ea : zs (zN f) ++ [PyData.int (r.2 : Int)] = zs (zN (f ++ [r.2])) := by rw [zN_app]; unfold zs; rw [List.map_append]; rfl
      have ap : gApp (.lst (zs (zN f))) [.int (r.2 : Int)] = some (.none, .lst (zs (zN (f ++ [r.2])))) := by rw [← ea]; exact if_pos (Nat.ble_eq_true_of_le fl)
      have e0 : whF wt_rounds_of_1 wb_rounds_of_1 1000 1000 [some (T (zN t)), some (.dct (dE d)), some (.lst (zs (zN f))), some (.i k), some (.i k), some (.fz (.int 0))] = some (.nx [some (T (zN t)), some (.dct (dE r.1)), some (.lst (zs (zN f))), some (.i k), some (.i h'), some (.i r.2)]) := e1
      rw [rngD_succ, for_step (ρ1 := [some (T (zN t)), some (.dct (dE d)), some (.lst (zs (zN f))), some (.i k), hh, s]) (ρ2 := [some (T (zN t)), some (.dct (dE r.1)), some (.lst (zs (zN (f ++ [r.2])))), some (.i k), some (.i h'), some (.i r.2)]) (by simp [gl_rounds_of_1]) (by
        simp [bl_rounds_of_1, nk, e0, ap]), ek]
      exact e
/-- the sizes of the rounds, ascending -/
def rR (t : List Nat) : List Int := sortI (zN (rounds t))
theorem gSortL_zs (l : List Int) : gSortL [.lst (zs l)] = some (.lst (zs (sortI l))) := by
  show ((intsD (zs l)).map fun is => Cl.lst ((sortI is).map PyData.int)) = _
  rw [intsD_zs]; rfl
include ht in
theorem v_rounds (hz : t.length ≤ 400) : m_rounds_of [T (zN t)] = some (.ok (T (rR t)) [some (T (zN t))]) := by
  obtain ⟨B, h, s, e⟩ := ro_for ht t.length 0 [] [] none none none (by omega) ⟨.nil, fun x h => nomatch h⟩ (by omega) (by show 0 + t.length ≤ 900; omega) (.inl ⟨rfl, rfl⟩)
  have so := gSortL_zs (zN (rds t t.length 0 [] []).2)
  have e : forF gl_rounds_of_1 bl_rounds_of_1 1000 (rngD 0 t.length) [some (T (zN t)), some (.dct []), some (.lst []), none, none, none] = some (.nx [some (T (zN t)), some (.dct (dE (rds t t.length 0 [] []).1)), some (.lst (zs (zN (rds t t.length 0 [] []).2))), B, h, s]) := e
  unfold rR rounds
  generalize (rds t t.length 0 [] []).2 = f at *
  generalize dE (rds t t.length 0 [] []).1 = dd at *
  have ll := zN_len t
  have sm : smI (t.length : Int) = true := smI_nat (by omega)
  simp [m_rounds_of, g_rounds_of, startR, ll, sm, e, so, fin, outsOf]
end
end L3

namespace L3
open PySem PySem.Spec L2
/-! ### the law's rounds -/
/-- what is left -/
def und (n : Nat) (d : List Nat) : List Nat := (List.range n).filter fun x => !decide (x ∈ d)
theorem mem_und {n x : Nat} {d : List Nat} : x ∈ und n d ↔ x < n ∧ x ∉ d := by
  unfold und
  rw [List.mem_filter, List.mem_range]
  simp
theorem und_nodup (n : Nat) (d : List Nat) : (und n d).Nodup := List.nodup_range.filter _
theorem und_add {n k : Nat} {d : List Nat} (hk : k < n) (hd : k ∉ d) : (und n d).erase k = und n (d ++ [k]) := by
  rw [(und_nodup n d).erase_eq_filter]
  unfold und
  rw [List.filter_filter]
  refine List.filter_congr fun x _ => ?_
  by_cases e : x = k
  · subst e; simp
  · simp [e]
theorem zN_erase (l : List Nat) (k : Nat) : (zN l).erase (k : Int) = zN (l.erase k) := by
  induction l with
  | nil => rfl
  | cons x l ih =>
    by_cases e : x = k
    · subst e
      show ((x : Int) :: zN l).erase (x : Int) = zN ((x :: l).erase x)
      rw [List.erase_cons_head, List.erase_cons_head]
    · have e2 : ¬ ((x : Int) == (k : Int)) = true := by rw [beq_iff_eq]; omega
      show ((x : Int) :: zN l).erase (k : Int) = _
      rw [List.erase_cons_tail e2, List.erase_cons_tail (by rw [beq_iff_eq]; exact e), ih]
      rfl
theorem any_zs (l : List Int) (k : Int) : ((zs l).any fun z => PyData.eqv z (.int k)) = decide (k ∈ l) := by
  rw [Bool.eq_iff_iff, List.any_eq_true, decide_eq_true_eq]
  constructor
  · rintro ⟨z, hz, e⟩
    obtain ⟨i, hi, rfl⟩ := List.mem_map.mp hz
    rw [eqv_int, decide_eq_true_eq] at e
    exact e ▸ hi
  · intro h
    exact ⟨.int k, List.mem_map.mpr ⟨k, h, rfl⟩, by rw [eqv_int, decide_eq_true_eq]⟩
theorem flat_zs (l : List Int) : (zs l).all flatD = true := List.all_eq_true.mpr fun d hd => by
  obtain ⟨i, _, rfl⟩ := List.mem_map.mp hd
  rfl
theorem gIn_lst (l : List Int) (k : Int) : gIn false [.fz (.int k), .lst (zs l)] = some (.b (decide (k ∈ l))) := by
  show (if (flatD (.int k) && (zs l).all flatD) = true then some (Cl.fz (.bool ((zs l).any fun z => PyData.eqv z (.int k)))) else _) = _
  rw [flat_zs, any_zs]; rfl
theorem gIn_N (l : List Nat) (k : Nat) : gIn false [.fz (.int (k : Int)), .lst (zs (zN l))] = some (.b (decide (k ∈ l))) := by
  rw [gIn_lst]
  exact congrArg (fun b => some (Cl.b b)) (decide_eq_decide.mpr (Iff.of_eq mem_zN))
theorem gRem_zs {l : List Int} {k : Int} (h : k ∈ l) : gRem (.lst (zs l)) [.int k] = some (.none, .lst (zs (l.erase k))) := by
  show (match intsD (zs l) with
    | some ns => if k ∈ ns then some (PyData.none, Cl.lst ((ns.erase k).map PyData.int)) else none
    | none => none) = _
  rw [intsD_zs]
  exact if_pos h
section
variable {t : List Nat} (ht : TnO t) (F : Option Cl) (n : Nat)
include ht in
theorem lr_wh : ∀ (f m : Nat) (d : List Nat) (h : Nat) (lot : List Nat), Dn t.length d → h < t.length → t.length < f + d.length → f ≤ m → t.length ≤ 400 → lot.length + f ≤ 1000 →
    ∃ h' lot', lot'.length = (go1 t f d h lot.length).2 ∧ whF wt__law_rounds_1 wb__law_rounds_1 n m [some (T (zN t)), some (.lst (zs (zN (und t.length d)))), F, some (.i h), some (.lst (zs (zN lot)))] = some (.nx [some (T (zN t)), some (.lst (zs (zN (und t.length (go1 t f d h lot.length).1)))), F, some (.i (h' : Nat)), some (.lst (zs (zN lot')))])
  | 0, m, d, h, lot, hd, hh, hf, hm, hz, hl => by have := hd.le; omega
  | f + 1, 0, d, h, lot, hd, hh, hf, hm, hz, hl => by omega
  | f + 1, m + 1, d, h, lot, hd, hh, hf, hm, hz, hl => by
    have nk := gIn_N (und t.length d) h
    unfold go1
    by_cases hmem : h ∈ d
    · rw [if_pos hmem]
      rw [decide_eq_false (fun z => (mem_und.mp z).2 hmem)] at nk
      refine ⟨h, lot, rfl, ?_⟩
      rw [wh_stop (ρ1 := [some (T (zN t)), some (.lst (zs (zN (und t.length d)))), F, some (.i h), some (.lst (zs (zN lot)))]) (by simp [wt__law_rounds_1, nk])]
    · rw [if_neg hmem]
      have hu : h ∈ und t.length d := mem_und.mpr ⟨hh, hmem⟩
      rw [decide_eq_true hu] at nk
      obtain ⟨h', lot', e0, e⟩ := lr_wh f m (d ++ [h]) (t.getD h 0) (lot ++ [h]) (hd.add hh hmem) (ht.at hh) (by rw [List.length_append, List.length_singleton]; omega) (by omega) hz (by rw [List.length_append, List.length_singleton]; omega)
      rw [List.length_append, List.length_singleton] at e0 e
      refine ⟨h', lot', e0, ?_⟩
      have ai := at_zN hh
      have re := gRem_zs (l := zN (und t.length d)) (k := (h : Int)) (by rw [mem_zN]; exact hu)
      rw [zN_erase, und_add hh hmem] at re
      have fl : (zs (zN lot)).length ≤ 10000000 := by unfold zs; rw [List.length_map, zN_len]; omega
      have ea : zs (zN lot) ++ [PyData.int (h : Int)] = zs (zN (lot ++ [h])) := by rw [zN_app]; unfold zs; rw [List.map_append]; rfl
      have ap : gApp (.lst (zs (zN lot))) [.int (h : Int)] = some (.none, .lst (zs (zN (lot ++ [h])))) := by rw [← ea]; exact if_pos (Nat.ble_eq_true_of_le fl)
      rw [wh_step (ρ1 := [some (T (zN t)), some (.lst (zs (zN (und t.length d)))), F, some (.i h), some (.lst (zs (zN lot)))]) (ρ2 := [some (T (zN t)), some (.lst (zs (zN (und t.length (d ++ [h]))))), F, some (.i (t.getD h 0 : Nat)), some (.lst (zs (zN (lot ++ [h]))))]) (by simp [wt__law_rounds_1, nk]) (by
        generalize t.getD h 0 = g at *
        simp [wb__law_rounds_1, ai, re, ap])]
      exact e
end
theorem gNeL0 (a : List Int) : gNe [.lst (zs a), .lst []] = some (.b (!decide (a = []))) := by
  have := eqv_zs a []
  show (if (SeqAt.shaped (.list (zs a)) && SeqAt.shaped (.list [])) = true then some (Cl.fz (.bool (!PyData.eqvAll (zs a) (zs [])))) else none) = _
  rw [sh_lst, eqv_zs]
  rfl
section
variable {t : List Nat} (ht : TnO t)
theorem und_all {n : Nat} {d : List Nat} (h : ∀ x, x < n → x ∈ d) : und n d = [] := by
  rw [List.eq_nil_iff_forall_not_mem]
  intro x hx
  have := mem_und.mp hx
  exact this.2 (h x this.1)
theorem range_split {n k : Nat} (hk : k < n) : List.range n = List.range k ++ k :: (List.range' (k + 1) (n - k - 1)) := by
  rw [List.range_eq_range', List.range_eq_range', show n = k + (1 + (n - k - 1)) by omega, ← List.range'_append_1, Nat.add_comm 1, List.range'_succ]
  simp
theorem und_head {n k : Nat} {d : List Nat} (hk : k < n) (hd : k ∉ d) (h : ∀ x, x < k → x ∈ d) : ∃ r, und n d = k :: r := by
  unfold und
  rw [range_split hk, List.filter_append, List.filter_cons, if_pos (by simp [hd])]
  have : (List.range k).filter (fun x => !decide (x ∈ d)) = [] := by
    rw [List.filter_eq_nil_iff]
    intro x hx
    simp [h x (List.mem_range.mp hx)]
  rw [this]
  exact ⟨_, rfl⟩
include ht in
theorem lr_out : ∀ (m k M : Nat) (d f : List Nat) (hh l : Option Cl), k + m = t.length → Dn t.length d → (∀ x, x < k → x ∈ d) → t.length ≤ 400 → f.length + m ≤ 900 → m + 1 ≤ M → (hh = none ∧ l = none ∨ ∃ (a : Nat) (b : List Nat), hh = some (.i a) ∧ l = some (.lst (zs (zN b)))) →
    ∃ hh' l', whF wt__law_rounds_2 wb__law_rounds_2 1000 M [some (T (zN t)), some (.lst (zs (zN (und t.length d)))), some (.lst (zs (zN f))), hh, l] = some (.nx [some (T (zN t)), some (.lst (zs (zN (und t.length (rds t m k d f).1)))), some (.lst (zs (zN (rds t m k d f).2))), hh', l'])
  | 0, k, M + 1, d, f, hh, l, hk, hd, hx, hz, hf, hM, ho => by
    have e := und_all (n := t.length) (d := d) fun x h => hx x (by omega)
    have n0 := gNeL0 (zN (und t.length d))
    rw [e] at n0
    refine ⟨hh, l, ?_⟩
    unfold rds
    rw [e]
    have n0 : gNe [.lst (zs (zN [])), .lst []] = some (.b false) := n0
    rw [wh_stop (ρ1 := [some (T (zN t)), some (.lst (zs (zN []))), some (.lst (zs (zN f))), hh, l]) (by simp [wt__law_rounds_2, n0])]
  | m + 1, k, 0, d, f, hh, l, hk, hd, hx, hz, hf, hM, ho => by omega
  | 0, k, 0, d, f, hh, l, hk, hd, hx, hz, hf, hM, ho => by omega
  | m + 1, k, M + 1, d, f, hh, l, hk, hd, hx, hz, hf, hM, ho => by
    unfold rds
    by_cases hmem : k ∈ d
    · rw [if_pos hmem]
      exact lr_out m (k + 1) (M + 1) d f hh l (by omega) hd (fun x h => by
        by_cases e : x = k
        · rw [e]; exact hmem
        · exact hx x (by omega)) hz (by omega) (by omega) ho
    · rw [if_neg hmem]
      have hl := hd.le
      obtain ⟨r, er⟩ := und_head (n := t.length) (k := k) (by omega) hmem hx
      obtain ⟨h', lot', e0, e1⟩ := lr_wh ht (some (.lst (zs (zN f)))) 1000 (t.length + 1) 1000 d k [] hd (by omega) (by omega) (by omega) hz (by show 0 + (t.length + 1) ≤ 1000; omega)
      have e0 : lot'.length = (go1 t (t.length + 1) d k 0).2 := e0
      have e1 : whF wt__law_rounds_1 wb__law_rounds_1 1000 1000 [some (T (zN t)), some (.lst (zs (zN (und t.length d)))), some (.lst (zs (zN f))), some (.i k), some (.lst [])] = some (.nx [some (T (zN t)), some (.lst (zs (zN (und t.length (go1 t (t.length + 1) d k 0).1)))), some (.lst (zs (zN f))), some (.i (h' : Nat)), some (.lst (zs (zN lot')))]) := e1
      obtain ⟨a1, _, _, a4, a5⟩ := go1_dn ht (t.length + 1) d k 0 hd (by omega) (by omega)
      generalize go1 t (t.length + 1) d k 0 = g at *
      obtain ⟨hh', l', e⟩ := lr_out m (k + 1) M g.1 (f ++ [g.2]) (some (.i h')) (some (.lst (zs (zN lot')))) (by omega) a1 (fun x h => by
        by_cases e : x = k
        · rw [e]; exact a5
        · exact a4 x (hx x (by omega))) hz (by rw [List.length_append, List.length_singleton]; omega) (by omega) (.inr ⟨_, _, rfl, rfl⟩)
      refine ⟨hh', l', ?_⟩
      have fl : (zs (zN f)).length ≤ 10000000 := by unfold zs; rw [List.length_map, zN_len]; omega
      have ea : zs (zN f) ++ [PyData.int (g.2 : Int)] = zs (zN (f ++ [g.2])) := by rw [zN_app]; unfold zs; rw [List.map_append]; rfl
      have ap : gApp (.lst (zs (zN f))) [.int (g.2 : Int)] = some (.none, .lst (zs (zN (f ++ [g.2])))) := by rw [← ea]; exact if_pos (Nat.ble_eq_true_of_le fl)
      have n0 : gNe [.lst (zs (zN (und t.length d))), .lst []] = some (.b true) := by
        rw [gNeL0, er]; rfl
      have a0 : atI (zs (zN (und t.length d))) 0 = some (.int (k : Int)) := by rw [er]; exact atI_zs (ns := zN (k :: r)) (i := 0) rfl
      have el : (zs (zN lot')).length = g.2 := by unfold zs; rw [List.length_map, zN_len]; exact e0
      generalize zs (zN (und t.length d)) = U at *
      rw [wh_step (ρ1 := [some (T (zN t)), some (.lst U), some (.lst (zs (zN f))), hh, l]) (ρ2 := [some (T (zN t)), some (.lst (zs (zN (und t.length g.1)))), some (.lst (zs (zN (f ++ [g.2])))), some (.i (h' : Nat)), some (.lst (zs (zN lot')))]) (by simp [wt__law_rounds_2, n0]) (by
        simp [wb__law_rounds_2, a0, e1, el, ap])]
      exact e
include ht in
theorem v_lrounds (hz : t.length ≤ 400) : m__law_rounds [T (zN t)] = some (.ok (T (rR t)) [some (T (zN t))]) := by
  obtain ⟨h, l, e⟩ := lr_out ht t.length 0 1000 [] [] none none (by omega) ⟨.nil, fun x h => nomatch h⟩ (fun x h => absurd h (Nat.not_lt_zero x)) hz (by show 0 + t.length ≤ 900; omega) (by omega) (.inl ⟨rfl, rfl⟩)
  have so := gSortL_zs (zN (rds t t.length 0 [] []).2)
  have u0 : und t.length [] = List.range t.length := by
    unfold und
    rw [List.filter_eq_self]
    intro x _
    simp
  rw [u0] at e
  have er : zs (zN (List.range t.length)) = rngD 0 t.length := by
    unfold zs zN rngD
    rw [List.map_map]
    exact List.map_congr_left fun x _ => by simp
  rw [er] at e
  have e : whF wt__law_rounds_2 wb__law_rounds_2 1000 1000 [some (T (zN t)), some (.lst (rngD 0 t.length)), some (.lst []), none, none] = some (.nx [some (T (zN t)), some (.lst (zs (zN (und t.length (rds t t.length 0 [] []).1)))), some (.lst (zs (zN (rds t t.length 0 [] []).2))), h, l]) := e
  unfold rR rounds
  generalize (rds t t.length 0 [] []).2 = f at *
  generalize zs (zN (und t.length (rds t t.length 0 [] []).1)) = dd at *
  have ll := zN_len t
  have sm : t.length ≤ 1000000 := by omega
  simp [m__law_rounds, g__law_rounds, startR, ll, sm, e, so, fin, outsOf]
end
end L3

namespace L3
open PySem PySem.Spec L2
/-! ### is_turn, behind, is_plane -/
theorem dc_step {N : Nat} {g : FG} {ek ev : Fn Bv} {vs : List Nat} {n : Nat} {d kd y : D} {k : Key} {ds : List D} {ρ ρ2 ρ4 ρ5 ρ6 : En} {acc : List (Key × D)} (h1 : g d ρ = some ρ2) (h2 : ρ2.length = N) (h3 : fFz ek n ρ2 = some (.ok (.fz kd) ρ4)) (hk : keyD kd = some k) (h4 : fFz ev n ρ4 = some (.ok (.fz y) ρ5)) (h5 : wipR ρ5 vs = ρ6) :
    dcF N g fYes ek ev vs n (d :: ds) ρ acc = dcF N g fYes ek ev vs n ds ρ6 (putD acc k y) := by
  rw [dcF, h1]
  dsimp only
  rw [if_pos h2]
  show (match fFz ek n ρ2 with
    | some (.ok (.fz kd) ρ4) => match keyD kd with
      | some k => match fFz ev n ρ4 with
        | some (.ok (.fz y) ρ5) => dcF N g fYes ek ev vs n ds (wipR ρ5 vs) (putD acc k y)
        | _ => none
      | none => none
    | _ => none) = _
  rw [h3]
  dsimp only
  rw [hk]
  dsimp only
  rw [h4]
  dsimp only
  rw [h5]
def dZ (d : List Int) : List (Key × D) := d.map fun k : Int => (.inl k, .bool true)
theorem dZ_put (d : List Int) (x : Int) : putD (dZ d) (.inl x) (.bool true) = dZ (if x ∈ d then d else d ++ [x]) := by
  unfold putD
  by_cases h : x ∈ d
  · have ha : ((dZ d).any fun kv => decide (kv.1 = Sum.inl x)) = true := List.any_eq_true.mpr ⟨((Sum.inl x : Key), PyData.bool true), List.mem_map.mpr ⟨x, h, rfl⟩, decide_eq_true rfl⟩
    rw [if_pos h, if_pos ha]
    unfold dZ
    rw [List.map_map]
    refine List.map_congr_left fun k _ => ?_
    simp only [Function.comp]
    split <;> rfl
  · rw [if_neg h, if_neg]
    · unfold dZ; rw [List.map_append]; rfl
    · intro z
      obtain ⟨kv, hkv, e⟩ := List.any_eq_true.mp z
      obtain ⟨k, hk, rfl⟩ := List.mem_map.mp hkv
      have e := Sum.inl.inj (of_decide_eq_true e)
      exact h (e ▸ hk)
def dl : List Int → List Int → List Int
  | acc, [] => acc
  | acc, x :: xs => dl (if x ∈ acc then acc else acc ++ [x]) xs
theorem dl_ok : ∀ (xs acc : List Int), acc.Nodup → (dl acc xs).Nodup ∧ ∀ k, k ∈ dl acc xs ↔ k ∈ acc ∨ k ∈ xs
  | [], acc, h => ⟨h, fun k => by show k ∈ acc ↔ _; simp⟩
  | x :: xs, acc, h => by
    show (dl (if x ∈ acc then acc else acc ++ [x]) xs).Nodup ∧ ∀ k, k ∈ dl (if x ∈ acc then acc else acc ++ [x]) xs ↔ _
    by_cases hx : x ∈ acc
    · rw [if_pos hx]
      obtain ⟨a, b⟩ := dl_ok xs acc h
      refine ⟨a, fun k => (b k).trans ⟨fun z => z.elim .inl fun z => .inr (List.mem_cons_of_mem _ z), fun z => z.elim .inl fun z => ?_⟩⟩
      rcases List.mem_cons.mp z with rfl | z
      · exact .inl hx
      · exact .inr z
    · rw [if_neg hx]
      obtain ⟨a, b⟩ := dl_ok xs (acc ++ [x]) (List.nodup_append.mpr ⟨h, List.pairwise_singleton _ _, fun y hy z hz e => hx (by rw [← List.mem_singleton.mp hz, ← e]; exact hy)⟩)
      refine ⟨a, fun k => (b k).trans ?_⟩
      rw [List.mem_append, List.mem_singleton, List.mem_cons]
      constructor
      · rintro ((z | z) | z)
        · exact .inl z
        · exact .inr (.inl z)
        · exact .inr (.inr z)
      · rintro (z | z | z)
        · exact .inl (.inl z)
        · exact .inl (.inr z)
        · exact .inr z
theorem dl_len (a : List Int) : (dl [] a).length = distI a := by
  obtain ⟨h1, h2⟩ := dl_ok a [] .nil
  exact dist_len a _ h1 fun k => (h2 k).trans (by simp)
theorem it_dc (A B : Option Cl) (n : Nat) : ∀ (xs acc : List Int), dcF 3 cg_is_turn_2 fYes ck_is_turn_1 cv_is_turn_1 [2] n (zs xs) [A, B, none] (dZ acc) = some (.ok (.dct (dZ (dl acc xs))) [A, B, none])
  | [], acc => rfl
  | x :: xs, acc => by
    rw [show zs (x :: xs) = .int x :: zs xs from rfl, dc_step (N := 3) (ρ2 := [A, B, some (.i x)]) (kd := .int x) (k := .inl x) (ρ4 := [A, B, some (.i x)]) (y := .bool true) (ρ5 := [A, B, some (.i x)]) (ρ6 := [A, B, none]) (by simp [cg_is_turn_2]) rfl (by simp [ck_is_turn_1]) rfl (by simp [cv_is_turn_1]) rfl, dZ_put]
    exact it_dc A B n xs _
theorem boolsD_mp (f : D → Bool) : ∀ ds : List D, boolsD (ds.map fun d => .bool (f d)) = some (ds.map f)
  | [] => rfl
  | d :: ds => by
    show (match boolsD (ds.map fun d => PyData.bool (f d)) with
      | some ns => some (f d :: ns)
      | none => none) = _
    rw [boolsD_mp f ds]; rfl
theorem gAll_mp (ds : List D) (f : D → Bool) : gAll [.lst (ds.map fun d => .bool (f d))] = some (.b (ds.all f)) := by
  show ((boolsD (ds.map fun d => PyData.bool (f d))).map fun ns => Cl.fz (.bool (ns.all id))) = _
  rw [boolsD_mp, Option.map_some, List.all_map]; rfl
theorem isF_zs (a : List Int) (lo hi : Int) : ((zs a).all fun d => isF d lo hi) = a.all fun x => decide (lo ≤ x) && decide (x ≤ hi) := by
  unfold zs
  rw [List.all_map]; rfl
theorem it_lc (A : Option Cl) (m : Int) (n : Nat) (ds : List D) : lcF 3 cg_is_turn_1 fYes ce_is_turn_1 [2] n ds [A, some (.i m), none] [] = some (.ok (.lst (ds.map fun d => .bool (isF d 0 (m - 1)))) [A, some (.i m), none]) := by
  rw [lc_map (fun d => .bool (isF d 0 (m - 1)))]
  · rfl
  · intro d hd
    exact ⟨[A, some (.i m), some (.fz d)], [A, some (.i m), some (.fz d)], by simp [cg_is_turn_1], rfl, by simp [ce_is_turn_1, m_is_from], rfl⟩
def tnB (n : Nat) (a : List Int) : Bool := decide (a.length = n) && ((a.all fun x => decide (0 ≤ x) && decide (x ≤ (n : Int) - 1)) && decide (distI a = n))
theorem neII (i j : Int) : gNe [.fz (.int i), .fz (.int j)] = some (.b (!decide (i = j))) := e_gNeI i j
theorem v_turn {a : List Int} {n : Nat} (hz : a.length ≤ 100000) : m_is_turn [T a, .fz (.int n)] = some (.ok (.b (tnB n a)) [some (T a), some (.i n)]) := by
  have it : is_tuple (.tuple (zs a)) = true := rfl
  have e1 := it_lc (some (T a)) (n : Int) 1000 (zs a)
  have g1 := gAll_mp (zs a) fun d => isF d 0 ((n : Int) - 1)
  rw [isF_zs] at g1
  have e2 := it_dc (some (T a)) (some (.i n)) 1000 a []
  have el := dl_len a
  have z0 : dZ [] = [] := rfl
  rw [z0] at e2
  have l3 : (dZ (dl [] a)).length = distI a := by unfold dZ; rw [List.length_map, el]
  generalize dZ (dl [] a) = dd at *
  have zl : a.length ≤ 1000000 := by omega
  unfold tnB
  by_cases hl : a.length = n
  · have hl' : (a.length : Int) = n := by omega
    have zn : n ≤ 1000000 := by omega
    generalize (a.all fun x => decide ((0 : Int) ≤ x) && decide (x ≤ (n : Int) - 1)) = b1 at *
    generalize ((zs a).map fun d => PyData.bool (isF d 0 ((n : Int) - 1))) = bs at *
    cases b1
    · simp [m_is_turn, g_is_turn, startR, it, asSeq, hl, hl', zl, zn, wipR, e1, g1, fin, outsOf]
    · have en : gEq [.fz (.int (dd.length : Int)), .fz (.int (n : Int))] = some (.b (decide (distI a = n))) := by
        rw [e_gEqI, l3]
        exact congrArg (fun b => some (Cl.b b)) (decide_eq_decide.mpr (by omega))
      simp [m_is_turn, g_is_turn, startR, it, asSeq, hl, hl', zl, zn, wipR, e1, g1, e2, en, fin, outsOf]
  · have hl' : ¬ (a.length : Int) = n := by omega
    simp [m_is_turn, g_is_turn, startR, it, hl, hl', fin, outsOf]
end L3

namespace L3
open PySem PySem.Spec L2
/-- as natural numbers -/
def nN (a : List Int) : List Nat := a.map Int.toNat
theorem zN_nN {a : List Int} (h : ∀ x ∈ a, 0 ≤ x) : zN (nN a) = a := by
  unfold zN nN
  rw [List.map_map]
  refine (List.map_congr_left fun x hx => ?_).trans (List.map_id a)
  have := h x hx
  show ((x.toNat : Nat) : Int) = x
  omega
structure TnK (n : Nat) (a : List Int) : Prop where
  len : a.length = n
  rg : ∀ x ∈ a, 0 ≤ x ∧ x < n
  nd : distI a = n
theorem tnB_iff {n : Nat} {a : List Int} : tnB n a = true ↔ TnK n a := by
  unfold tnB
  rw [Bool.and_eq_true, Bool.and_eq_true, decide_eq_true_eq, decide_eq_true_eq, List.all_eq_true]
  constructor
  · rintro ⟨h1, h2, h3⟩
    refine ⟨h1, fun x hx => ?_, h3⟩
    have := h2 x hx
    rw [Bool.and_eq_true, decide_eq_true_eq, decide_eq_true_eq] at this
    omega
  · intro h
    refine ⟨h.len, fun x hx => ?_, h.nd⟩
    have := h.rg x hx
    rw [Bool.and_eq_true, decide_eq_true_eq, decide_eq_true_eq]
    omega
theorem TnK.zN {n : Nat} {a : List Int} (h : TnK n a) : L3.zN (nN a) = a := zN_nN fun x hx => (h.rg x hx).1
theorem TnK.lenN {n : Nat} {a : List Int} (h : TnK n a) : (nN a).length = n := by unfold nN; rw [List.length_map]; exact h.len
theorem TnK.lt {n : Nat} {a : List Int} (h : TnK n a) : ∀ x ∈ nN a, x < n := fun x hx => by
  obtain ⟨i, hi, rfl⟩ := List.mem_map.mp hx
  have := h.rg i hi
  omega
theorem TnK.tn {n : Nat} {a : List Int} (h : TnK n a) : TnO (nN a) := fun x hx => by rw [h.lenN]; exact h.lt x hx
/-- one, then the other -/
def bh (p q : List Nat) : List Nat := p.map fun x => q.getD x 0
theorem bh_tn {p q : List Nat} (hq : TnO q) (hl : p.length = q.length) (hp : ∀ x ∈ p, x < q.length) : TnO (bh p q) := fun x hx => by
  obtain ⟨y, hy, rfl⟩ := List.mem_map.mp hx
  unfold bh
  rw [List.length_map, hl]
  exact hq.at (hp y hy)
theorem v_behind {p q : List Nat} (hp : ∀ x ∈ p, x < q.length) (hz : p.length ≤ 1000000) : m_behind [T (zN p), T (zN q)] = some (.ok (T (zN (bh p q))) [some (T (zN p)), some (T (zN q))]) := by
  have e : lcF 3 cg_behind_1 fYes ce_behind_1 [2] 1000 (zs (zN p)) [some (T (zN p)), some (T (zN q)), none] [] = some (.ok (.lst (zs (zN (bh p q)))) [some (T (zN p)), some (T (zN q)), none]) := by
    have hm : zs (zN (bh p q)) = (zs (zN p)).map fun d => match d with | .int k => .int ((q.getD k.toNat 0 : Nat) : Int) | d => d := by
      unfold zs zN bh
      rw [List.map_map, List.map_map, List.map_map, List.map_map]
      exact List.map_congr_left fun d _ => rfl
    rw [hm, lc_map (fun d => match d with | .int k => .int ((q.getD k.toNat 0 : Nat) : Int) | d => d)]
    · rfl
    · intro d hd
      obtain ⟨i, hi, rfl⟩ := List.mem_map.mp hd
      obtain ⟨k, hk, rfl⟩ := List.mem_map.mp hi
      have ai := at_zN (hp k hk)
      refine ⟨[some (T (zN p)), some (T (zN q)), some (.i k)], [some (T (zN p)), some (T (zN q)), some (.i k)], by simp [cg_behind_1], rfl, ?_, rfl⟩
      show fFz ce_behind_1 1000 [some (T (zN p)), some (T (zN q)), some (.i k)] = some (.ok (.fz (.int ((q.getD (((k : Int)).toNat) 0 : Nat) : Int))) [some (T (zN p)), some (T (zN q)), some (.i k)])
      rw [Int.toNat_natCast]
      generalize q.getD k 0 = g at *
      simp [ce_behind_1, ai]
  have lp := zN_len p
  have lb : (zN (bh p q)).length ≤ 1000000 := by rw [zN_len]; unfold bh; rw [List.length_map]; exact hz
  generalize zN (bh p q) = r at *
  simp [m_behind, g_behind, startR, asSeq, lp, hz, wipR, e, lb, fin, outsOf]
theorem rR_len (t : List Nat) : (rR t).length = (rounds t).length := by
  unfold rR
  rw [(sortI_perm _).length_eq, zN_len]
theorem rR_one {t : List Nat} (ht : TnO t) : (rR t = [(t.length : Int)]) ↔ (rounds t).length = 1 := by
  constructor
  · intro h
    rw [← rR_len, h]; rfl
  · intro h
    have hs := rounds_sum ht
    unfold rR
    cases q : rounds t with
    | nil => rw [q] at h; cases h
    | cons x l =>
      rw [q] at h hs
      have hl : l = [] := List.length_eq_zero_iff.mp (by simpa using h)
      subst hl
      have : x = t.length := by simpa using hs
      subst this
      rfl
def plB (a b : List Int) : Bool := decide (1 ≤ a.length ∧ a.length ≤ 6) && (tnB a.length a && (tnB a.length b && (decide ((rounds (bh (nN a) (nN b))).length = 1) && decide ((rounds (nN a)).length + (rounds (nN b)).length = a.length + 1))))
abbrev prV (a b : List Int) : D := .tuple [.tuple (zs a), .tuple (zs b)]
theorem v_plane {a b : List Int} (za : a.length ≤ 1000) (zb : b.length ≤ 1000) : m_is_plane [.fz (prV a b)] = some (.ok (.b (plB a b)) [some (.fz (prV a b))]) := by
  have it : is_tuple (prV a b) = true := rfl
  have it2 : is_tuple (.tuple (zs a)) = true := rfl
  have i0 : atI [PyData.tuple (zs a), .tuple (zs b)] 0 = some (.tuple (zs a)) := rfl
  have i1 : atI [PyData.tuple (zs a), .tuple (zs b)] 1 = some (.tuple (zs b)) := rfl
  have t1 := v_turn (a := a) (n := a.length) (by omega)
  have t2 := v_turn (a := b) (n := a.length) (by omega)
  unfold plB
  by_cases hr : 1 ≤ a.length ∧ a.length ≤ 6
  · have r1 : (1 : Int) ≤ a.length := by omega
    have r2 : (a.length : Int) ≤ 6 := by omega
    rw [decide_eq_true hr, Bool.true_and]
    cases h1 : tnB a.length a with
    | false =>
      rw [h1] at t1
      simp [m_is_plane, g_is_plane, startR, it, it2, i0, i1, r1, r2, t1, fin, outsOf]
    | true =>
      rw [h1] at t1
      cases h2 : tnB a.length b with
      | false =>
        rw [h2] at t2
        simp [m_is_plane, g_is_plane, startR, it, it2, i0, i1, r1, r2, t1, t2, fin, outsOf]
      | true =>
        rw [h2] at t2
        have ka := tnB_iff.mp h1
        have kb := tnB_iff.mp h2
        have ea := ka.zN
        have eb := kb.zN
        have la := ka.lenN
        have lb := kb.lenN
        have hp : ∀ x ∈ nN a, x < (nN b).length := fun x hx => by rw [lb]; exact ka.lt x hx
        have vb := v_behind (p := nN a) (q := nN b) hp (by omega)
        have bt := bh_tn kb.tn (by omega) hp
        have lc : (bh (nN a) (nN b)).length = a.length := by unfold bh; rw [List.length_map]; exact la
        have v1 := v_rounds bt (by omega)
        have v2 := v_rounds ka.tn (by omega)
        have v3 := v_rounds kb.tn (by omega)
        have o1 := rR_one bt
        rw [lc] at o1
        have l2 := rR_len (nN a)
        have l3 := rR_len (nN b)
        rw [ea] at v2 vb
        rw [eb] at v3 vb
        have ne : gNe [T (rR (bh (nN a) (nN b))), .fz (.tuple [.int (a.length : Int)])] = some (.b (!decide ((rounds (bh (nN a) (nN b))).length = 1))) := by
          have := e_gNeT (rR (bh (nN a) (nN b))) [(a.length : Int)]
          refine this.trans (congrArg (fun b => some (Cl.b (!b))) (decide_eq_decide.mpr o1))
        have eq : gEq [.fz (.int (((rR (nN a)).length : Int) + (rR (nN b)).length)), .fz (.int ((a.length : Int) + 1))] = some (.b (decide ((rounds (nN a)).length + (rounds (nN b)).length = a.length + 1))) := by
          rw [e_gEqI, l2, l3]
          exact congrArg (fun b => some (Cl.b b)) (decide_eq_decide.mpr (by omega))
        generalize decide ((rounds (nN a)).length + (rounds (nN b)).length = a.length + 1) = d2 at *
        generalize decide ((rounds (bh (nN a) (nN b))).length = 1) = d1 at *
        generalize zN (bh (nN a) (nN b)) = c at *
        generalize rR (bh (nN a) (nN b)) = rc at *
        generalize rR (nN a) = ra at *
        generalize rR (nN b) = rb at *
        cases d1
        · simp [m_is_plane, g_is_plane, startR, it, it2, i0, i1, r1, r2, t1, t2, vb, v1, ne, fin, outsOf]
        · simp [m_is_plane, g_is_plane, startR, it, it2, i0, i1, r1, r2, t1, t2, vb, v1, v2, v3, ne, eq, fin, outsOf]
  · rw [decide_eq_false hr, Bool.false_and]
    by_cases r1 : (1 : Int) ≤ a.length
    · have r2 : ¬ (a.length : Int) ≤ 6 := by omega
      simp [m_is_plane, g_is_plane, startR, it, it2, i0, i1, r1, r2, fin, outsOf]
    · simp [m_is_plane, g_is_plane, startR, it, it2, i0, i1, r1, fin, outsOf]
end L3

namespace L3
open PySem PySem.Spec L2
/-! ### the law's is_plane -/
theorem v_whole (d : D) (lo hi : Int) : m__law_is_whole [.fz d, .fz (.int lo), .fz (.int hi)] = some (.ok (.b (isF d lo hi)) [some (.fz d), some (.i lo), some (.i hi)]) := by
  obtain ⟨n, out, h1, h2⟩ := h_is_from [.fz d, .fz (.int lo), .fz (.int hi)] _ rfl
  show (g_is_from 1000 (startR 3 [.fz d, .fz (.int lo), .fz (.int hi)])).bind (fin [true, true, true]) = _
  cases d with
  | int i =>
    by_cases h1 : lo ≤ i <;> by_cases h2 : i ≤ hi <;> simp [g_is_from, startR, isF, h1, h2, fin, outsOf, is_int, is_bool]
  | _ => simp [g_is_from, startR, isF, fin, outsOf, is_int, is_bool]
theorem lp_lc (A B C : Option Cl) (ds : List D) (xs : List D) (n : Nat) (h : B = some (.fz (.tuple ds))) : lcF 5 cg__law_is_plane_1 fYes ce__law_is_plane_1 [2] n xs [A, B, none, C, none] [] = some (.ok (.lst (xs.map fun d => .bool (isF d 0 ((ds.length : Int) - 1)))) [A, B, none, C, none]) := by
  subst h
  rw [lc_map (fun d => .bool (isF d 0 ((ds.length : Int) - 1)))]
  · rfl
  · intro d hd
    have v := v_whole d 0 ((ds.length : Int) - 1)
    exact ⟨[A, some (.fz (.tuple ds)), some (.fz d), C, none], [A, some (.fz (.tuple ds)), some (.fz d), C, none], by simp [cg__law_is_plane_1], rfl, by simp [ce__law_is_plane_1, v], rfl⟩
/-- one turn passes -/
def okTn (n : Nat) (a : List Int) : Bool := decide (1 ≤ a.length ∧ a.length ≤ 6) && tnB n a
theorem lp_body (v0 : List D) (a : List Int) (d1 : D) (C o : Option Cl) (n : Nat) (hz : a.length ≤ 1000) :
    bl__law_is_plane_1 n [some (.fz (.tuple [.tuple v0, d1])), some (T a), none, C, none] = some (if okTn v0.length a = true then .nx [some (.fz (.tuple [.tuple v0, d1])), some (T a), none, C, none] else .rt (.b false) [some (.fz (.tuple [.tuple v0, d1])), some (T a), none, C, none]) := by
  have it : is_tuple (.tuple (zs a)) = true := rfl
  have i0 : atI [PyData.tuple v0, d1] 0 = some (.tuple v0) := rfl
  unfold okTn
  by_cases hr : 1 ≤ a.length ∧ a.length ≤ 6
  · have r1 : (1 : Int) ≤ a.length := by omega
    have r2 : (a.length : Int) ≤ 6 := by omega
    rw [decide_eq_true hr, Bool.true_and]
    unfold tnB
    by_cases hl : a.length = v0.length
    · have hl' : gNe [.fz (.int (a.length : Int)), .fz (.int (v0.length : Int))] = some (.b false) := by
        rw [e_gNeI, decide_eq_true (by omega)]; rfl
      rw [decide_eq_true hl, Bool.true_and]
      have e1 := lp_lc (some (.fz (.tuple [.tuple v0, d1]))) (some (T a)) C (zs a) (zs a) n rfl
      have g1 := gAll_mp (zs a) fun d => isF d 0 (((zs a).length : Int) - 1)
      rw [isF_zs, show ((zs a).length : Int) = (v0.length : Int) by unfold zs; rw [List.length_map]; omega] at g1
      rw [show ((zs a).length : Int) = (v0.length : Int) by unfold zs; rw [List.length_map]; omega] at e1
      have zl : a.length ≤ 1000000 := by omega
      have zk : a.length ≤ 1000 := hz
      have id := intsD_zs a
      have ne : gNe [.fz (.int (distI a : Nat)), .fz (.int (a.length : Int))] = some (.b (!decide (distI a = v0.length))) := by
        rw [e_gNeI]
        exact congrArg (fun b => some (Cl.b (!b))) (decide_eq_decide.mpr (by omega))
      generalize ((zs a).map fun d => PyData.bool (isF d 0 ((v0.length : Int) - 1))) = bs at *
      generalize (a.all fun x => decide ((0 : Int) ≤ x) && decide (x ≤ (v0.length : Int) - 1)) = b1 at *
      generalize decide (distI a = v0.length) = b2 at *
      cases b1
      · simp [bl__law_is_plane_1, it, i0, r1, r2, hl', asSeq, zl, wipR, e1, g1]
      · cases b2
        · simp [bl__law_is_plane_1, it, i0, r1, r2, hl', asSeq, zl, zk, wipR, e1, g1, id, ne]
        · simp [bl__law_is_plane_1, it, i0, r1, r2, hl', asSeq, zl, zk, wipR, e1, g1, id, ne]
    · have hl' : gNe [.fz (.int (a.length : Int)), .fz (.int (v0.length : Int))] = some (.b true) := by
        rw [e_gNeI, decide_eq_false (by omega)]; rfl
      rw [decide_eq_false hl, Bool.false_and]
      simp [bl__law_is_plane_1, it, i0, r1, r2, hl']
  · rw [decide_eq_false hr, Bool.false_and]
    by_cases r1 : (1 : Int) ≤ a.length
    · have r2 : ¬ (a.length : Int) ≤ 6 := by omega
      simp [bl__law_is_plane_1, it, i0, r1, r2]
    · simp [bl__law_is_plane_1, it, i0, r1]
end L3

namespace L3
open PySem PySem.Spec L2
theorem lp_lc2 {p q : List Nat} (hp : ∀ x ∈ p, x < q.length) (B C : Option Cl) (n : Nat) : lcF 5 cg__law_is_plane_2 fYes ce__law_is_plane_2 [4] n (rngD 0 p.length) [some (.fz (prV (zN p) (zN q))), B, none, C, none] [] = some (.ok (.lst (zs (zN (bh p q)))) [some (.fz (prV (zN p) (zN q))), B, none, C, none]) := by
  have hm : zs (zN (bh p q)) = (rngD 0 p.length).map fun d => match d with | .int k => .int ((q.getD (p.getD k.toNat 0) 0 : Nat) : Int) | d => d := by
    unfold zs zN bh rngD
    rw [List.map_map, List.map_map, List.map_map]
    apply List.ext_getElem?
    intro i
    rw [List.getElem?_map, List.getElem?_map]
    by_cases hi : i < p.length
    · rw [List.getElem?_range hi, List.getElem?_eq_getElem hi]
      show some (PyData.int ((q.getD p[i] 0 : Nat) : Int)) = some (PyData.int ((q.getD (p.getD ((0 : Int) + (i : Int)).toNat 0) 0 : Nat) : Int))
      rw [show ((0 : Int) + (i : Int)).toNat = i by omega, show p.getD i 0 = p[i] by rw [List.getD_eq_getElem?_getD, List.getElem?_eq_getElem hi]; rfl]
    · rw [List.getElem?_eq_none (by omega), List.getElem?_eq_none (by rw [List.length_range]; omega)]
      rfl
  rw [hm, lc_map (fun d => match d with | .int k => .int ((q.getD (p.getD k.toNat 0) 0 : Nat) : Int) | d => d)]
  · rfl
  · intro d hd
    obtain ⟨k, hk, rfl⟩ := List.mem_map.mp hd
    have hk := List.mem_range.mp hk
    have a1 := at_zN hk
    have hq : p.getD k 0 < q.length := hp _ (by rw [List.getD_eq_getElem?_getD, List.getElem?_eq_getElem hk]; exact List.getElem_mem hk)
    have a2 := at_zN hq
    have i0 : atI [PyData.tuple (zs (zN p)), .tuple (zs (zN q))] 0 = some (.tuple (zs (zN p))) := rfl
    have i1 : atI [PyData.tuple (zs (zN p)), .tuple (zs (zN q))] 1 = some (.tuple (zs (zN q))) := rfl
    refine ⟨[some (.fz (prV (zN p) (zN q))), B, none, C, some (.i (0 + (k : Int)))], [some (.fz (prV (zN p) (zN q))), B, none, C, some (.i (0 + (k : Int)))], by simp [cg__law_is_plane_2], rfl, ?_, rfl⟩
    show fFz ce__law_is_plane_2 n [some (.fz (prV (zN p) (zN q))), B, none, C, some (.i (0 + (k : Int)))] = some (.ok (.fz (.int ((q.getD (p.getD ((0 : Int) + (k : Int)).toNat 0) 0 : Nat) : Int))) [some (.fz (prV (zN p) (zN q))), B, none, C, some (.i (0 + (k : Int)))])
    rw [show ((0 : Int) + (k : Int)).toNat = k by omega, show (0 : Int) + (k : Int) = k by omega]
    generalize q.getD (p.getD k 0) 0 = g2 at *
    generalize p.getD k 0 = g1 at *
    simp [ce__law_is_plane_2, i0, i1, a1, a2]
theorem v_lplane {a b : List Int} (za : a.length ≤ 1000) (zb : b.length ≤ 1000) : m__law_is_plane [.fz (prV a b)] = some (.ok (.b (plB a b)) [some (.fz (prV a b))]) := by
  have it : is_tuple (prV a b) = true := rfl
  have i0 : atI [PyData.tuple (zs a), .tuple (zs b)] 0 = some (.tuple (zs a)) := rfl
  have i1 : atI [PyData.tuple (zs a), .tuple (zs b)] 1 = some (.tuple (zs b)) := rfl
  have la : (zs a).length = a.length := zs_len a
  have b1 := lp_body (zs a) a (.tuple (zs b)) none none 1000 za
  have b2 := lp_body (zs a) b (.tuple (zs b)) none none 1000 zb
  rw [la] at b1 b2
  have s1 : gl__law_is_plane_1 (.tuple (zs a)) [some (.fz (prV a b)), none, none, none, none] = some [some (.fz (prV a b)), some (T a), none, none, none] := by simp [gl__law_is_plane_1]
  have s2 : gl__law_is_plane_1 (.tuple (zs b)) [some (.fz (prV a b)), some (T a), none, none, none] = some [some (.fz (prV a b)), some (T b), none, none, none] := by simp [gl__law_is_plane_1]
  cases h1 : okTn a.length a with
  | false =>
    rw [h1] at b1
    have f : forF gl__law_is_plane_1 bl__law_is_plane_1 1000 [.tuple (zs a), .tuple (zs b)] [some (.fz (prV a b)), none, none, none, none] = some (.rt (.b false) [some (.fz (prV a b)), some (T a), none, none, none]) := for_rt s1 b1
    have pf : plB a b = false := by
      unfold plB
      unfold okTn at h1
      rw [← Bool.and_assoc, h1, Bool.false_and]
    rw [pf]
    simp [m__law_is_plane, g__law_is_plane, startR, it, asSeq, f, fin, outsOf]
  | true =>
    rw [h1, if_pos rfl] at b1
    have hr : 1 ≤ a.length ∧ a.length ≤ 6 := by
      unfold okTn at h1
      rw [Bool.and_eq_true, decide_eq_true_eq] at h1
      exact h1.1
    have h1' : tnB a.length a = true := by
      unfold okTn at h1
      rw [Bool.and_eq_true] at h1
      exact h1.2
    cases h2 : okTn a.length b with
    | false =>
      rw [h2] at b2
      have f : forF gl__law_is_plane_1 bl__law_is_plane_1 1000 [.tuple (zs a), .tuple (zs b)] [some (.fz (prV a b)), none, none, none, none] = some (.rt (.b false) [some (.fz (prV a b)), some (T b), none, none, none]) := by
        rw [for_step s1 b1]
        exact for_rt s2 b2
      have pf : plB a b = false := by
        unfold plB
        unfold okTn at h2
        cases h3 : tnB a.length b with
        | false => simp
        | true =>
          have kb := tnB_iff.mp h3
          rw [h3, kb.len, decide_eq_true hr] at h2
          cases h2
      rw [pf]
      simp [m__law_is_plane, g__law_is_plane, startR, it, asSeq, f, fin, outsOf]
    | true =>
      rw [h2, if_pos rfl] at b2
      have h2' : tnB a.length b = true := by
        unfold okTn at h2
        rw [Bool.and_eq_true] at h2
        exact h2.2
      have ka := tnB_iff.mp h1'
      have kb := tnB_iff.mp h2'
      have ea := ka.zN
      have eb := kb.zN
      have lla := ka.lenN
      have llb := kb.lenN
      have hp : ∀ x ∈ nN a, x < (nN b).length := fun x hx => by rw [llb]; exact ka.lt x hx
      have bt := bh_tn kb.tn (by omega) hp
      have lc : (bh (nN a) (nN b)).length = a.length := by unfold bh; rw [List.length_map]; exact lla
      have v1 := v_lrounds bt (by omega)
      have v2 := v_lrounds ka.tn (by omega)
      have v3 := v_lrounds kb.tn (by omega)
      have e := lp_lc2 hp (some (T b)) none 1000
      have l0 := rR_len (bh (nN a) (nN b))
      have l2 := rR_len (nN a)
      have l3 := rR_len (nN b)
      rw [ea] at v2
      rw [eb] at v3
      rw [ea, eb, lla] at e
      have f : forF gl__law_is_plane_1 bl__law_is_plane_1 1000 [.tuple (zs a), .tuple (zs b)] [some (.fz (prV a b)), none, none, none, none] = some (.nx [some (.fz (prV a b)), some (T b), none, none, none]) := by
        rw [for_step s1 b1, for_step s2 b2]
        rfl
      have pt : plB a b = (decide ((rounds (bh (nN a) (nN b))).length = 1) && decide ((rounds (nN a)).length + (rounds (nN b)).length = a.length + 1)) := by
        unfold plB
        rw [decide_eq_true hr, h1', h2', Bool.true_and, Bool.true_and, Bool.true_and]
      rw [pt]
      have ne : gNe [.fz (.int ((rR (bh (nN a) (nN b))).length : Int)), .fz (.int 1)] = some (.b (!decide ((rounds (bh (nN a) (nN b))).length = 1))) := by
        rw [e_gNeI, l0]
        exact congrArg (fun b => some (Cl.b (!b))) (decide_eq_decide.mpr (by omega))
      have lz := zN_len (bh (nN a) (nN b))
      have eq : gEq [.fz (.int (((rR (nN a)).length : Int) + (rR (nN b)).length)), .fz (.int ((a.length : Int) + 1))] = some (.b (decide ((rounds (nN a)).length + (rounds (nN b)).length = a.length + 1))) := by
        rw [e_gEqI, l2, l3]
        exact congrArg (fun b => some (Cl.b b)) (decide_eq_decide.mpr (by omega))
      have sm : smI (a.length : Int) = true := smI_nat (by omega)
      have zc : (zN (bh (nN a) (nN b))).length = a.length := by omega
      have zl : a.length ≤ 1000000 := by omega
      have rl : (rngD 0 a.length).length ≤ 1000000 := by rw [rngD_len]; omega
      generalize decide ((rounds (nN a)).length + (rounds (nN b)).length = a.length + 1) = d2 at *
      generalize decide ((rounds (bh (nN a) (nN b))).length = 1) = d1 at *
      generalize zN (bh (nN a) (nN b)) = c at *
      generalize rR (bh (nN a) (nN b)) = rc at *
      generalize rR (nN a) = ra at *
      generalize rR (nN b) = rb at *
      cases d1
      · simp [m__law_is_plane, g__law_is_plane, startR, it, asSeq, i0, i1, f, sm, zl, zc, rl, wipR, e, v1, ne, fin, outsOf]
      · simp [m__law_is_plane, g__law_is_plane, startR, it, asSeq, i0, i1, f, sm, zl, zc, rl, wipR, e, v1, v2, v3, ne, eq, fin, outsOf]
end L3

namespace L3
open PySem PySem.Spec L2
/-! ### other names -/
structure PmO (n : Nat) (p : List Nat) : Prop where
  len : p.length = n
  nd : p.Nodup
  lt : ∀ x ∈ p, x < n
  sj : ∀ x, x < n → x ∈ p
theorem getD_at {l : List Nat} {i : Nat} (h : i < l.length) : l.getD i 0 = l[i] := by
  rw [List.getD_eq_getElem?_getD, List.getElem?_eq_getElem h]; rfl
theorem PmO.inj {n : Nat} {p : List Nat} (h : PmO n p) {i j : Nat} (hi : i < n) (hj : j < n) (e : p.getD i 0 = p.getD j 0) : i = j := by
  have li : i < p.length := by rw [h.len]; exact hi
  have lj : j < p.length := by rw [h.len]; exact hj
  rw [getD_at li, getD_at lj] at e
  exact (List.getElem_inj h.nd).mp e
theorem PmO.at {n : Nat} {p : List Nat} (h : PmO n p) {i : Nat} (hi : i < n) : p.getD i 0 < n := by
  have li : i < p.length := by rw [h.len]; exact hi
  rw [getD_at li]
  exact h.lt _ (List.getElem_mem li)
theorem PmO.of {n : Nat} {p : List Nat} (h : PmO n p) {x : Nat} (hx : x < n) : ∃ i, i < n ∧ p.getD i 0 = x := by
  obtain ⟨i, hi, e⟩ := List.getElem_of_mem (h.sj x hx)
  exact ⟨i, by rw [← h.len]; exact hi, by rw [getD_at hi]; exact e⟩
/-- the turn by other names -/
def ren (t p : List Nat) : List Nat := (List.range t.length).map fun x => p.getD (t.getD (p.idxOf x) 0) 0
theorem PmO.idx {n : Nat} {p : List Nat} (h : PmO n p) {i : Nat} (hi : i < n) : p.idxOf (p.getD i 0) = i := by
  have li : i < p.length := by rw [h.len]; exact hi
  have hm : p.getD i 0 ∈ p := by rw [getD_at li]; exact List.getElem_mem li
  have lj := List.idxOf_lt_length_of_mem hm
  refine h.inj (by rw [← h.len]; exact lj) hi ?_
  rw [getD_at lj, List.getElem_idxOf lj]
theorem ren_len (t p : List Nat) : (ren t p).length = t.length := by unfold ren; rw [List.length_map, List.length_range]
theorem ren_at {t p : List Nat} (h : PmO t.length p) {i : Nat} (hi : i < t.length) : (ren t p)[p.getD i 0]? = some (p.getD (t.getD i 0) 0) := by
  unfold ren
  rw [List.getElem?_map, List.getElem?_range (h.at hi), Option.map_some, h.idx hi]
theorem ren_eq {t p g : List Nat} (h : PmO t.length p) (hl : g.length = t.length) (hg : ∀ i, i < t.length → g[p.getD i 0]? = some (p.getD (t.getD i 0) 0)) : g = ren t p := by
  refine List.ext_getElem? fun x => ?_
  by_cases hx : x < t.length
  · obtain ⟨i, hi, e⟩ := h.of hx
    rw [← e, hg i hi, ren_at h hi]
  · rw [List.getElem?_eq_none (by omega), List.getElem?_eq_none (by rw [ren_len]; omega)]
def lnF (t p : List Nat) : Nat → Nat → List Nat → List Nat
  | 0, _, f => f
  | m + 1, k, f => lnF t p m (k + 1) (f.set (p.getD k 0) (p.getD (t.getD k 0) 0))
theorem lnF_ok {t p : List Nat} (h : PmO t.length p) : ∀ (m k : Nat) (f : List Nat), k + m = t.length → f.length = t.length → (∀ i, i < k → f[p.getD i 0]? = some (p.getD (t.getD i 0) 0)) → (lnF t p m k f).length = t.length ∧ ∀ i, i < t.length → (lnF t p m k f)[p.getD i 0]? = some (p.getD (t.getD i 0) 0)
  | 0, k, f, hk, hl, hf => ⟨hl, fun i hi => hf i (by omega)⟩
  | m + 1, k, f, hk, hl, hf => by
    refine lnF_ok h m (k + 1) _ (by omega) (by rw [List.length_set]; exact hl) fun i hi => ?_
    have kk : k < t.length := by omega
    have ak := h.at kk
    by_cases e : i = k
    · subst e
      rw [List.getElem?_set_self (by omega)]
    · have ii : i < k := by omega
      rw [List.getElem?_set_ne fun z => e (h.inj (by omega) kk z.symm)]
      exact hf i ii
theorem zs_set (l : List Nat) (j v : Nat) : (zs (zN l)).set j (.int (v : Int)) = zs (zN (l.set j v)) := by
  unfold zs zN
  rw [List.map_set, List.map_set]
section
variable {t p : List Nat} (ht : TnO t) (h : PmO t.length p)
include ht h in
theorem ln_for (n : Nat) : ∀ (m k : Nat) (f : List Nat) (B : Option Cl), k + m = t.length → f.length = t.length → ∃ B', forF gl__law_named_1 bl__law_named_1 n (rngD (k : Int) m) [some (T (zN t)), some (T (zN p)), some (.lst (zs (zN f))), B] = some (.nx [some (T (zN t)), some (T (zN p)), some (.lst (zs (zN (lnF t p m k f)))), B'])
  | 0, k, f, B, hk, hl => ⟨B, rfl⟩
  | m + 1, k, f, B, hk, hl => by
    obtain ⟨B', e⟩ := ln_for n m (k + 1) (f.set (p.getD k 0) (p.getD (t.getD k 0) 0)) (some (.i k)) (by omega) (by rw [List.length_set]; exact hl)
    refine ⟨B', ?_⟩
    have kk : k < t.length := by omega
    have a1 := at_zN kk
    have a2 := at_zN (l := p) (i := k) (by rw [h.len]; exact kk)
    have a3 := at_zN (l := p) (i := t.getD k 0) (by rw [h.len]; exact ht.at kk)
    have ix : ixN (zN f).length ((p.getD k 0 : Nat) : Int) = some (p.getD k 0) := by
      have := h.at kk
      have hz : (zN f).length = t.length := by rw [zN_len]; exact hl
      rw [hz]
      exact ixN_of (j := 0) (by omega) (by omega)
    have st := zs_set f (p.getD k 0) (p.getD (t.getD k 0) 0)
    have ek : ((k : Int) + 1) = ((k + 1 : Nat) : Int) := rfl
    unfold lnF
    generalize f.set (p.getD k 0) (p.getD (t.getD k 0) 0) = f' at *
    rw [rngD_succ, for_step (ρ1 := [some (T (zN t)), some (T (zN p)), some (.lst (zs (zN f))), some (.i k)]) (ρ2 := [some (T (zN t)), some (T (zN p)), some (.lst (zs (zN f'))), some (.i k)]) (by simp [gl__law_named_1]) (by
      generalize p.getD (t.getD k 0) 0 = g3 at *
      generalize p.getD k 0 = g2 at *
      generalize t.getD k 0 = g1 at *
      simp [bl__law_named_1, a1, a2, a3, setIx, ix, st]), ek]
    exact e
include ht h in
theorem v_lnamed (hz : t.length ≤ 1000) : m__law_named [T (zN t), T (zN p)] = some (.ok (T (zN (ren t p))) [some (T (zN t)), some (T (zN p))]) := by
  obtain ⟨B, e⟩ := ln_for ht h 1000 t.length 0 (List.replicate t.length 0) none (by omega) List.length_replicate
  obtain ⟨l1, l2⟩ := lnF_ok h t.length 0 (List.replicate t.length 0) (by omega) List.length_replicate fun i hi => absurd hi (Nat.not_lt_zero i)
  have er := ren_eq h l1 l2
  rw [er] at e
  have lt := zN_len t
  have rp := e_gRep (x := 0) (k := ((zN t).length : Int)) (by omega) (by omega)
  rw [lt, Int.toNat_natCast] at rp
  have rz : zs (List.replicate t.length 0) = zs (zN (List.replicate t.length 0)) := by
    unfold zN
    rw [List.map_replicate]; rfl
  rw [rz] at rp
  have sm : smI (t.length : Int) = true := smI_nat (by omega)
  have e : forF gl__law_named_1 bl__law_named_1 1000 (rngD 0 t.length) [some (T (zN t)), some (T (zN p)), some (.lst (zs (zN (List.replicate t.length 0)))), none] = some (.nx [some (T (zN t)), some (T (zN p)), some (.lst (zs (zN (ren t p)))), B]) := e
  have lr : (zN (ren t p)).length ≤ 1000000 := by rw [zN_len, ren_len]; omega
  generalize zN (ren t p) = r at *
  generalize zs (zN (List.replicate t.length 0)) = z0 at *
  simp [m__law_named, g__law_named, startR, lt, rp, sm, e, lr, fin, outsOf]
end
/-! ### renamed -/
def dR (t p : List Nat) (k : Nat) : List (Key × D) := (List.range k).map fun i => (.inl ((p.getD i 0 : Nat) : Int), .int ((p.getD (t.getD i 0) 0 : Nat) : Int))
section
variable {t p : List Nat} (ht : TnO t) (h : PmO t.length p)
include h in
theorem dR_put {k : Nat} (hk : k < t.length) : putD (dR t p k) (.inl ((p.getD k 0 : Nat) : Int)) (.int ((p.getD (t.getD k 0) 0 : Nat) : Int)) = dR t p (k + 1) := by
  have h0 : ((dR t p k).any fun kv => decide (kv.1 = Sum.inl ((p.getD k 0 : Nat) : Int))) = false := by
    rw [List.any_eq_false]
    intro kv hkv
    obtain ⟨i, hi, rfl⟩ := List.mem_map.mp hkv
    intro e
    have e := Sum.inl.inj (of_decide_eq_true e)
    have hi := List.mem_range.mp hi
    have := h.inj (i := i) (j := k) (by omega) hk (by omega)
    omega
  unfold putD
  rw [if_neg (by rw [h0]; decide)]
  unfold dR
  rw [List.range_succ, List.map_append]
  rfl
include h in
theorem dR_get {i : Nat} (hi : i < t.length) : getK (dR t p t.length) (.inl ((p.getD i 0 : Nat) : Int)) = some (.int ((p.getD (t.getD i 0) 0 : Nat) : Int)) := by
  unfold getK
  cases q : (dR t p t.length).find? fun kv => decide (kv.1 = Sum.inl ((p.getD i 0 : Nat) : Int)) with
  | none =>
    have := List.find?_eq_none.mp q (.inl ((p.getD i 0 : Nat) : Int), .int ((p.getD (t.getD i 0) 0 : Nat) : Int)) (List.mem_map.mpr ⟨i, List.mem_range.mpr hi, rfl⟩)
    exact absurd (decide_eq_true rfl) this
  | some kv =>
    have h1 := List.find?_some q
    have h2 := List.mem_of_find?_eq_some q
    obtain ⟨j, hj, rfl⟩ := List.mem_map.mp h2
    have e := Sum.inl.inj (of_decide_eq_true h1)
    have := h.inj (i := j) (j := i) (List.mem_range.mp hj) hi (by omega)
    subst this
    rfl
include ht h in
theorem rn_dc (n : Nat) : ∀ (m k : Nat), k + m = t.length → dcF 5 cg_renamed_1 fYes ck_renamed_1 cv_renamed_1 [3, 4] n (enumD k (zs (zN (t.drop k)))) [some (T (zN t)), some (T (zN p)), none, none, none] (dR t p k) = some (.ok (.dct (dR t p t.length)) [some (T (zN t)), some (T (zN p)), none, none, none])
  | 0, k, hk => by
    have : k = t.length := by omega
    subst this
    rw [List.drop_length]; rfl
  | m + 1, k, hk => by
    have kk : k < t.length := by omega
    have e := rn_dc n m (k + 1) (by omega)
    have a2 := at_zN (l := p) (i := k) (by rw [h.len]; exact kk)
    have a3 := at_zN (l := p) (i := t.getD k 0) (by rw [h.len]; exact ht.at kk)
    have ed : enumD k (zs (zN (t.drop k))) = .tuple [.int (k : Nat), .int ((t.getD k 0 : Nat) : Int)] :: enumD (k + 1) (zs (zN (t.drop (k + 1)))) := by
      rw [List.drop_eq_getElem_cons kk, getD_at kk]; rfl
    have pd := dR_put h kk
    rw [ed, dc_step (N := 5) (ρ2 := [some (T (zN t)), some (T (zN p)), none, some (.i (k : Nat)), some (.i (t.getD k 0 : Nat))]) (kd := .int ((p.getD k 0 : Nat) : Int)) (k := .inl ((p.getD k 0 : Nat) : Int)) (ρ4 := [some (T (zN t)), some (T (zN p)), none, some (.i (k : Nat)), some (.i (t.getD k 0 : Nat))]) (y := .int ((p.getD (t.getD k 0) 0 : Nat) : Int)) (ρ5 := [some (T (zN t)), some (T (zN p)), none, some (.i (k : Nat)), some (.i (t.getD k 0 : Nat))]) (ρ6 := [some (T (zN t)), some (T (zN p)), none, none, none]) (by simp [cg_renamed_1]) rfl (by
      generalize p.getD k 0 = g2 at *
      simp [ck_renamed_1, a2]) rfl (by
      generalize p.getD (t.getD k 0) 0 = g3 at *
      generalize t.getD k 0 = g1 at *
      simp [cv_renamed_1, a3]) rfl, pd]
    exact e
include h in
theorem rn_lc (n : Nat) : lcF 5 cg_renamed_2 fYes ce_renamed_1 [3] n (rngD 0 t.length) [some (T (zN t)), some (T (zN p)), some (.dct (dR t p t.length)), none, none] [] = some (.ok (.lst (zs (zN (ren t p)))) [some (T (zN t)), some (T (zN p)), some (.dct (dR t p t.length)), none, none]) := by
  have hm : zs (zN (ren t p)) = (rngD 0 t.length).map fun d => match d with | .int k => .int ((p.getD (t.getD (p.idxOf k.toNat) 0) 0 : Nat) : Int) | d => d := by
    unfold zs zN ren rngD
    rw [List.map_map, List.map_map, List.map_map]
    refine List.map_congr_left fun i _ => ?_
    show PyData.int ((p.getD (t.getD (p.idxOf i) 0) 0 : Nat) : Int) = PyData.int ((p.getD (t.getD (p.idxOf ((0 : Int) + (i : Int)).toNat) 0) 0 : Nat) : Int)
    rw [show ((0 : Int) + (i : Int)).toNat = i by omega]
  rw [hm, lc_map (fun d => match d with | .int k => .int ((p.getD (t.getD (p.idxOf k.toNat) 0) 0 : Nat) : Int) | d => d)]
  · rfl
  · intro d hd
    obtain ⟨x, hx, rfl⟩ := List.mem_map.mp hd
    obtain ⟨i, hi, e⟩ := h.of (List.mem_range.mp hx)
    have g := dR_get h hi
    rw [e] at g
    refine ⟨[some (T (zN t)), some (T (zN p)), some (.dct (dR t p t.length)), some (.i (0 + (x : Int))), none], [some (T (zN t)), some (T (zN p)), some (.dct (dR t p t.length)), some (.i (0 + (x : Int))), none], by simp [cg_renamed_2], rfl, ?_, rfl⟩
    show fFz ce_renamed_1 n _ = some (.ok (.fz (.int ((p.getD (t.getD (p.idxOf ((0 : Int) + (x : Int)).toNat) 0) 0 : Nat) : Int))) _)
    rw [show ((0 : Int) + (x : Int)).toNat = x by omega, show (0 : Int) + (x : Int) = x by omega, ← e, h.idx hi]
    rw [e]
    generalize p.getD (t.getD i 0) 0 = g3 at *
    generalize dR t p t.length = dd at *
    simp [ce_renamed_1, dctE, keyD, g]
include ht h in
theorem v_renamed (hz : t.length ≤ 1000) : m_renamed [T (zN t), T (zN p)] = some (.ok (T (zN (ren t p))) [some (T (zN t)), some (T (zN p))]) := by
  have e1 := rn_dc ht h 1000 t.length 0 (by omega)
  have e2 := rn_lc h 1000
  rw [List.drop_zero] at e1
  have e1 : dcF 5 cg_renamed_1 fYes ck_renamed_1 cv_renamed_1 [3, 4] 1000 (enumD 0 (zs (zN t))) [some (T (zN t)), some (T (zN p)), none, none, none] [] = some (.ok (.dct (dR t p t.length)) [some (T (zN t)), some (T (zN p)), none, none, none]) := e1
  have lt := zN_len t
  have sm : smI (t.length : Int) = true := smI_nat (by omega)
  have lr : (zN (ren t p)).length ≤ 1000000 := by rw [zN_len, ren_len]; omega
  have le : (enumD 0 (zs (zN t))).length ≤ 1000000 := by rw [enumD_len]; unfold zs; rw [List.length_map, zN_len]; omega
  have rl : (rngD 0 t.length).length ≤ 1000000 := by rw [rngD_len]; omega
  generalize zN (ren t p) = r at *
  generalize dR t p t.length = dd at *
  simp [m_renamed, g_renamed, startR, asSeq, lt, sm, wipR, le, rl, e1, e2, lr, fin, outsOf]
end
end L3

namespace L3
open PySem PySem.Spec L2
/-! ### all turns -/
def ords (m : Nat) : Nat → List (List Nat)
  | 0 => [[]]
  | n + 1 => (ords m n).flatMap fun s => ((List.range m).filter fun x => !decide (x ∈ s)).map fun x => s ++ [x]
abbrev ord (n : Nat) : List (List Nat) := ords n n
def ordD (n : Nat) : List D := (ord n).map fun p => .tuple (zs (zN p))
def ordB (n : Nat) : Bool := moB (m__law_orders [.fz (.int n)]) (.ok (.fz (.list (ordD n))) [some (.fz (.int n))]) && moB (m_all_turns [.fz (.int n)]) (.ok (.lst (ordD n)) [some (.fz (.int n))])
theorem ord1 : ordB 1 = true := by decide +kernel
theorem ord2 : ordB 2 = true := by decide +kernel
theorem ord3 : ordB 3 = true := by decide +kernel
theorem ord4 : ordB 4 = true := by decide +kernel
theorem ord5 : ordB 5 = true := by decide +kernel
theorem ord_b {n : Nat} (h1 : 1 ≤ n) (h2 : n ≤ 5) : ordB n = true := by
  have : n = 1 ∨ n = 2 ∨ n = 3 ∨ n = 4 ∨ n = 5 := by omega
  rcases this with rfl | rfl | rfl | rfl | rfl
  · exact ord1
  · exact ord2
  · exact ord3
  · exact ord4
  · exact ord5
theorem v_lorders {n : Nat} (h1 : 1 ≤ n) (h2 : n ≤ 5) : m__law_orders [.fz (.int n)] = some (.ok (.fz (.list (ordD n))) [some (.fz (.int n))]) := by
  have := ord_b h1 h2
  unfold ordB at this
  rw [Bool.and_eq_true] at this
  exact mo_of this.1
theorem v_allturns {n : Nat} (h1 : 1 ≤ n) (h2 : n ≤ 5) : m_all_turns [.fz (.int n)] = some (.ok (.lst (ordD n)) [some (.fz (.int n))]) := by
  have := ord_b h1 h2
  unfold ordB at this
  rw [Bool.and_eq_true] at this
  exact mo_of this.2
def pmB (n : Nat) (p : List Nat) : Bool := decide (p.length = n) && (decide p.Nodup && ((p.all fun x => decide (x < n)) && ((List.range n).all fun x => decide (x ∈ p))))
theorem pmB_of {n : Nat} {p : List Nat} (h : pmB n p = true) : PmO n p := by
  unfold pmB at h
  rw [Bool.and_eq_true, Bool.and_eq_true, Bool.and_eq_true, decide_eq_true_eq, decide_eq_true_eq, List.all_eq_true, List.all_eq_true] at h
  obtain ⟨a, b, c, d⟩ := h
  exact ⟨a, b, fun x hx => of_decide_eq_true (c x hx), fun x hx => of_decide_eq_true (d x (List.mem_range.mpr hx))⟩
theorem ord_pm {n : Nat} (h1 : 1 ≤ n) (h2 : n ≤ 5) : ∀ p ∈ ord n, PmO n p := by
  have go : ∀ n, ((ord n).all (pmB n)) = true → ∀ p ∈ ord n, PmO n p := fun n h p hp => pmB_of (List.all_eq_true.mp h p hp)
  have : n = 1 ∨ n = 2 ∨ n = 3 ∨ n = 4 ∨ n = 5 := by omega
  rcases this with rfl | rfl | rfl | rfl | rfl
  · exact go 1 (by decide +kernel)
  · exact go 2 (by decide +kernel)
  · exact go 3 (by decide +kernel)
  · exact go 4 (by decide +kernel)
  · exact go 5 (by decide +kernel)
theorem ord_ne (n : Nat) (h1 : 1 ≤ n) (h2 : n ≤ 5) : 0 < (ord n).length ∧ (ord n).length ≤ 120 := by
  have : n = 1 ∨ n = 2 ∨ n = 3 ∨ n = 4 ∨ n = 5 := by omega
  rcases this with rfl | rfl | rfl | rfl | rfl <;> decide +kernel
end L3

namespace L3
open PySem PySem.Spec L2
/-! ### named, turns_of -/
def evP (a b : List Nat) : List PrI := (ord a.length).map fun p => (zN (ren a p), zN (ren b p))
def tpD (p : List Nat) : D := .tuple (zs (zN p))
theorem ordD_eq (n : Nat) : ordD n = (ord n).map tpD := rfl
abbrev pairN (a b : List Nat) : D := prV (zN a) (zN b)
structure PlO (a b : List Nat) : Prop where
  ta : TnO a
  tb : TnO b
  le : b.length = a.length
  l1 : 1 ≤ a.length
  l5 : a.length ≤ 5
section
variable {a b : List Nat} (h : PlO a b)
include h in
theorem PlO.ren2 {p : List Nat} (hp : PmO a.length p) : m_renamed [T (zN a), T (zN p)] = some (.ok (T (zN (ren a p))) [some (T (zN a)), some (T (zN p))]) ∧ m_renamed [T (zN b), T (zN p)] = some (.ok (T (zN (ren b p))) [some (T (zN b)), some (T (zN p))]) :=
  ⟨v_renamed h.ta hp (by have := h.l5; omega), v_renamed h.tb (by rw [h.le]; exact hp) (by have := h.le; have := h.l5; omega)⟩
include h in
theorem nm_lc (V : Option Cl) (n : Nat) : ∀ (ps : List (List Nat)) (acc : List D), (∀ p ∈ ps, PmO a.length p) → lcF 4 cg_named_of_1 fYes ce_named_of_1 [3] n (ps.map tpD) [V, some (T (zN a)), some (T (zN b)), none] acc = some (.ok (.lst (acc ++ ps.map fun p => ppD (zN (ren a p), zN (ren b p)))) [V, some (T (zN a)), some (T (zN b)), none])
  | [], acc, _ => by
    show some (Rz.ok (Cl.lst acc) _) = some (Rz.ok (Cl.lst (acc ++ [])) _)
    rw [List.append_nil]
  | p :: ps, acc, hp => by
    obtain ⟨e1, e2⟩ := h.ren2 (hp p List.mem_cons_self)
    have ih := nm_lc V n ps (acc ++ [ppD (zN (ren a p), zN (ren b p))]) fun q hq => hp q (List.mem_cons_of_mem _ hq)
    rw [List.map_cons, List.map_cons, lc_step (N := 4) (ρ2 := [V, some (T (zN a)), some (T (zN b)), some (T (zN p))]) (y := ppD (zN (ren a p), zN (ren b p))) (ρ4 := [V, some (T (zN a)), some (T (zN b)), some (T (zN p))]) (ρ5 := [V, some (T (zN a)), some (T (zN b)), none]) (by simp [cg_named_of_1, tpD]) rfl (by
      show fFz ce_named_of_1 n _ = some (.ok (.fz (.tuple [.tuple (zs (zN (ren a p))), .tuple (zs (zN (ren b p)))])) _)
      generalize zN (ren a p) = r1 at *
      generalize zN (ren b p) = r2 at *
      simp [ce_named_of_1, e1, e2]) rfl, ih, List.append_assoc]
    rfl
include h in
theorem tn_lc (V W : Option Cl) (n : Nat) : ∀ (ps : List (List Nat)) (acc : List D), (∀ p ∈ ps, PmO a.length p) → lcF 5 cg_turns_of_1 fYes ce_turns_of_1 [4] n (ps.map tpD) [V, some (T (zN a)), some (T (zN b)), W, none] acc = some (.ok (.lst (acc ++ ps.map fun p => ppD (zN (ren a p), zN (ren b p)))) [V, some (T (zN a)), some (T (zN b)), W, none])
  | [], acc, _ => by
    show some (Rz.ok (Cl.lst acc) _) = some (Rz.ok (Cl.lst (acc ++ [])) _)
    rw [List.append_nil]
  | p :: ps, acc, hp => by
    obtain ⟨e1, e2⟩ := h.ren2 (hp p List.mem_cons_self)
    have ih := tn_lc V W n ps (acc ++ [ppD (zN (ren a p), zN (ren b p))]) fun q hq => hp q (List.mem_cons_of_mem _ hq)
    rw [List.map_cons, List.map_cons, lc_step (N := 5) (ρ2 := [V, some (T (zN a)), some (T (zN b)), W, some (T (zN p))]) (y := ppD (zN (ren a p), zN (ren b p))) (ρ4 := [V, some (T (zN a)), some (T (zN b)), W, some (T (zN p))]) (ρ5 := [V, some (T (zN a)), some (T (zN b)), W, none]) (by simp [cg_turns_of_1, tpD]) rfl (by
      show fFz ce_turns_of_1 n _ = some (.ok (.fz (.tuple [.tuple (zs (zN (ren a p))), .tuple (zs (zN (ren b p)))])) _)
      generalize zN (ren a p) = r1 at *
      generalize zN (ren b p) = r2 at *
      simp [ce_turns_of_1, e1, e2]) rfl, ih, List.append_assoc]
    rfl
theorem ev_map (a b : List Nat) : ((ord a.length).map fun p => ppD (zN (ren a p), zN (ren b p))) = (evP a b).map ppD := by
  unfold evP
  rw [List.map_map]; rfl
theorem gMinP_ok (p : PrI) (ps : List PrI) : gMinP [.lst ((p :: ps).map ppD)] = some (.fz (ppD (minP p ps))) := by
  show (match prsD ((p :: ps).map ppD) with
    | some (p :: ps) => some (Cl.fz (ppD (minP p ps)))
    | _ => none) = _
  rw [prsD_map]
theorem gCntP_ok (ps : List PrI) (q : PrI) : gCntP (.lst (ps.map ppD)) [ppD q] = some (.int (ps.countP fun z => decide (z = q) : Nat), .lst (ps.map ppD)) := by
  show (match prsD (ps.map ppD), prOne (ppD q) with
    | some ps', some q => some (PyData.int (ps'.countP fun z => decide (z = q) : Nat), Cl.lst (ps.map ppD))
    | _, _ => none) = _
  rw [prsD_map, prOne_ppD]
def minL : List PrI → PrI
  | [] => ([], [])
  | p :: ps => minP p ps
theorem gMinL {l : List PrI} (h : 0 < l.length) : gMinP [.lst (l.map ppD)] = some (.fz (ppD (minL l))) := by
  cases l with
  | nil => cases h
  | cons p ps => exact gMinP_ok p ps
include h in
theorem ev_len : 0 < (evP a b).length ∧ (evP a b).length ≤ 120 := by
  unfold evP
  rw [List.length_map]
  exact ord_ne _ h.l1 h.l5
include h in
theorem v_named_of : m_named_of [.fz (pairN a b)] = some (.ok (.fz (ppD (minL (evP a b)))) [some (.fz (pairN a b))]) := by
  have e1 := v_allturns h.l1 h.l5
  have e2 := nm_lc h (some (.fz (pairN a b))) 1000 (ord a.length) [] (ord_pm h.l1 h.l5)
  rw [List.nil_append, ev_map, ← ordD_eq] at e2
  have g := gMinL (ev_len h).1
  have la := zN_len a
  have ol : (ordD a.length).length ≤ 1000000 := by
    rw [ordD_eq, List.length_map]
    have := (ord_ne _ h.l1 h.l5).2
    omega
  generalize (evP a b).map ppD = E at *
  generalize ppD (minL (evP a b)) = R at *
  generalize ordD a.length = O at *
  simp [m_named_of, g_named_of, startR, asSeq, la, e1, ol, wipR, e2, g, fin, outsOf]
end
def badP : Ex := ⟨"BadPlane", []⟩
theorem v_chk_t {d : D} (h : m_is_plane [.fz d] = some (.ok (.b true) [some (.fz d)])) : m_check_plane [.fz d] = some (.ok (.fz .none) [some (.fz d)]) := by
  simp [m_check_plane, g_check_plane, startR, h, fin, outsOf]
theorem v_chk_f {d : D} (h : m_is_plane [.fz d] = some (.ok (.b false) [some (.fz d)])) : m_check_plane [.fz d] = some (.ex badP [some (.fz d)]) := by
  simp [m_check_plane, g_check_plane, startR, h, fin, outsOf, badP]
section
variable {a b : List Nat} (h : PlO a b) (hp : plB (zN a) (zN b) = true)
include h hp in
theorem v_isp : m_is_plane [.fz (pairN a b)] = some (.ok (.b true) [some (.fz (pairN a b))]) := by
  have := v_plane (a := zN a) (b := zN b) (by rw [zN_len]; have := h.l5; omega) (by rw [zN_len]; have := h.le; have := h.l5; omega)
  rw [hp] at this
  exact this
include h hp in
theorem v_named : m_named [.fz (pairN a b)] = some (.ok (.fz (ppD (minL (evP a b)))) [some (.fz (pairN a b))]) := by
  have c := v_chk_t (v_isp h hp)
  have e := v_named_of h
  generalize ppD (minL (evP a b)) = R at *
  simp [m_named, g_named, startR, c, e, fin, outsOf]
include h hp in
theorem v_turns_of : m_turns_of [.fz (pairN a b)] = some (.ok (.i ((evP a b).countP fun z => decide (z = (zN a, zN b)) : Nat)) [some (.fz (pairN a b))]) := by
  have c := v_chk_t (v_isp h hp)
  have e1 := v_allturns h.l1 h.l5
  have e2 := tn_lc h (some (.fz (pairN a b))) none 1000 (ord a.length) [] (ord_pm h.l1 h.l5)
  rw [List.nil_append, ev_map, ← ordD_eq] at e2
  have g := gCntP_ok (evP a b) (zN a, zN b)
  have g : gCntP (.lst ((evP a b).map ppD)) [pairN a b] = some (.int ((evP a b).countP fun z => decide (z = (zN a, zN b)) : Nat), .lst ((evP a b).map ppD)) := g
  have la := zN_len a
  have ol : (ordD a.length).length ≤ 1000000 := by
    rw [ordD_eq, List.length_map]
    have := (ord_ne _ h.l1 h.l5).2
    omega
  generalize ((evP a b).countP fun z => decide (z = (zN a, zN b))) = C at *
  generalize (evP a b).map ppD = E at *
  generalize ordD a.length = O at *
  simp [m_turns_of, g_turns_of, startR, asSeq, la, c, e1, ol, wipR, e2, g, fin, outsOf]
include h hp in
theorem v_degrees : m_degrees_of [.fz (pairN a b)] = some (.ok (.fz (.tuple [.tuple (zs (rR a)), .tuple (zs (rR b))])) [some (.fz (pairN a b))]) := by
  have c := v_chk_t (v_isp h hp)
  have v1 := v_rounds h.ta (by have := h.l5; omega)
  have v2 := v_rounds h.tb (by have := h.le; have := h.l5; omega)
  have i0 : atI [PyData.tuple (zs (zN a)), .tuple (zs (zN b))] 0 = some (.tuple (zs (zN a))) := rfl
  have i1 : atI [PyData.tuple (zs (zN a)), .tuple (zs (zN b))] 1 = some (.tuple (zs (zN b))) := rfl
  generalize rR a = r1 at *
  generalize rR b = r2 at *
  simp [m_degrees_of, g_degrees_of, startR, c, i0, i1, v1, v2, fin, outsOf]
end
/-- a wrong one -/
theorem v_wrong {d : D} (h : m_is_plane [.fz d] = some (.ok (.b false) [some (.fz d)])) {w : Int} (h0 : 0 ≤ w) (h3 : w < 3) : m__law_wrong [.fz d, .fz (.int w)] = some (.ok (.fz (.str "plane")) [some (.fz d), some (.i w)]) := by
  have c := v_chk_f h
  have e1 : m_degrees_of [.fz d] = some (.ex badP [some (.fz d)]) := by simp [m_degrees_of, g_degrees_of, startR, c, fin, outsOf]
  have e2 : m_named [.fz d] = some (.ex badP [some (.fz d)]) := by simp [m_named, g_named, startR, c, fin, outsOf]
  have e3 : m_turns_of [.fz d] = some (.ex badP [some (.fz d)]) := by simp [m_turns_of, g_turns_of, startR, c, fin, outsOf]
  have t0 : tblO [("BadPlane", true)] badP = some true := rfl
  have t1 : tblB ["BadPlane"] badP = true := rfl
  have hw : w = 0 ∨ w = 1 ∨ w = 2 := by omega
  rcases hw with rfl | rfl | rfl
  · simp [m__law_wrong, g__law_wrong, tb__law_wrong_1, startR, ms3, e1, fin, outsOf, t0, t1]
  · simp [m__law_wrong, g__law_wrong, tb__law_wrong_1, startR, ms3, e2, fin, outsOf, t0, t1]
  · simp [m__law_wrong, g__law_wrong, tb__law_wrong_1, startR, ms3, e3, fin, outsOf, t0, t1]
end L3

namespace L3
open PySem PySem.Spec L2
/-! ### grown trees -/
def gst (s : List Nat × List Nat) (tie spot kind : Nat) : List Nat × List Nat := if kind = 0 then ((s.1 ++ [s.1.getD spot 0]).set spot tie, s.2 ++ [tie]) else (s.1 ++ [tie], (s.2 ++ [s.2.getD spot 0]).set spot tie)
def grs : Nat → List (List Nat × List Nat)
  | 0 => [([0], [0])]
  | m + 1 => (grs m).flatMap fun s => (List.range (m + 1)).flatMap fun spot => [gst s (m + 1) spot 0, gst s (m + 1) spot 1]
def okG (m : Nat) (s : List Nat × List Nat) : Bool := decide (s.1.length = m + 1) && (decide (s.2.length = m + 1) && ((s.1.all fun x => decide (x < m + 1)) && ((s.2.all fun x => decide (x < m + 1)) && plB (zN s.1) (zN s.2))))
theorem gr0 : (grs 0).all (okG 0) = true := by decide +kernel
theorem gr1 : (grs 1).all (okG 1) = true := by decide +kernel
theorem gr2 : (grs 2).all (okG 2) = true := by decide +kernel
theorem gr3 : (grs 3).all (okG 3) = true := by decide +kernel
theorem gr4 : (grs 4).all (okG 4) = true := by decide +kernel
theorem grs_ok {m : Nat} (hm : m ≤ 4) {a b : List Nat} (h : (a, b) ∈ grs m) : a.length = m + 1 ∧ b.length = m + 1 ∧ PlO a b ∧ plB (zN a) (zN b) = true := by
  have go : (grs m).all (okG m) = true := by
    have : m = 0 ∨ m = 1 ∨ m = 2 ∨ m = 3 ∨ m = 4 := by omega
    rcases this with rfl | rfl | rfl | rfl | rfl
    · exact gr0
    · exact gr1
    · exact gr2
    · exact gr3
    · exact gr4
  have := List.all_eq_true.mp go (a, b) h
  unfold okG at this
  rw [Bool.and_eq_true, Bool.and_eq_true, Bool.and_eq_true, Bool.and_eq_true, decide_eq_true_eq, decide_eq_true_eq, List.all_eq_true, List.all_eq_true] at this
  obtain ⟨h1, h2, h3, h4, h5⟩ := this
  have h1 : a.length = m + 1 := h1
  have h2 : b.length = m + 1 := h2
  exact ⟨h1, h2, ⟨fun x hx => by rw [h1]; exact of_decide_eq_true (h3 x hx), fun x hx => by rw [h2]; exact of_decide_eq_true (h4 x hx), by omega, by omega, by omega⟩, h5⟩
theorem zs_app1 (l : List Nat) (x : Nat) : zs (zN l) ++ [PyData.int (x : Int)] = zs (zN (l ++ [x])) := by
  rw [zN_app]; unfold zs; rw [List.map_append]; rfl
theorem grow1_ok {m o : List Nat} {p t : Nat} (hp : p < m.length) (hm : m.length ≤ 1000) (ho : o.length ≤ 1000) : grow1 (zs (zN m)) (zs (zN o)) (p : Int) (t : Int) = some (zs (zN ((m ++ [m.getD p 0]).set p t)), zs (zN (o ++ [t]))) := by
  have l1 : (zs (zN m)).length ≤ 1000000 := by unfold zs; rw [List.length_map, zN_len]; omega
  have l2 : (zs (zN o)).length ≤ 1000000 := by unfold zs; rw [List.length_map, zN_len]; omega
  have g : (zs (zN m))[p]? = some (.int ((m.getD p 0 : Nat) : Int)) := by
    unfold zs zN
    rw [List.getElem?_map, List.getElem?_map, List.getElem?_eq_getElem hp, getD_at hp]; rfl
  unfold grow1
  rw [if_pos ⟨Int.natCast_nonneg p, l1, l2⟩, Int.toNat_natCast, g]
  dsimp only
  rw [zs_app1, zs_app1, zs_set]
theorem grow2_ok {s : List Nat × List Nat} {k p t : Nat} (hk : k < 2) (h1 : p < s.1.length) (h2 : p < s.2.length) (z1 : s.1.length ≤ 1000) (z2 : s.2.length ≤ 1000) : grow2 (k : Int) (zs (zN s.1)) (zs (zN s.2)) (p : Int) (t : Int) = some (zs (zN (gst s t p k).1), zs (zN (gst s t p k).2)) := by
  have : k = 0 ∨ k = 1 := by omega
  rcases this with rfl | rfl
  · show grow1 (zs (zN s.1)) (zs (zN s.2)) (p : Int) (t : Int) = _
    exact grow1_ok h1 z1 z2
  · show (match grow1 (zs (zN s.2)) (zs (zN s.1)) (p : Int) (t : Int) with
      | some r => some (r.2, r.1)
      | none => none) = _
    rw [grow1_ok h2 z2 z1]
    rfl
abbrev G9 (r M f s t p k : Option Cl) : En := [r, M, f, s, t, p, k, none, none]
theorem gr_for (M : Option Cl) : ∀ (m k : Nat) (x : Rw) (a b : List Nat) (t p kd : Option Cl), (a, b) ∈ grs k → k + m ≤ 4 → ∃ (x' : Rw) (a' b' : List Nat) (t' p' kd' : Option Cl), (a', b') ∈ grs (k + m) ∧
    forF gl__law_grown_1 bl__law_grown_1 1000 (rngD ((k : Int) + 1) m) (G9 (some (.lst x.ds)) M (some (.lst (zs (zN a)))) (some (.lst (zs (zN b)))) t p kd) = some (.nx (G9 (some (.lst (Rw.ds x'))) M (some (.lst (zs (zN a')))) (some (.lst (zs (zN b')))) t' p' kd'))
  | 0, k, x, a, b, t, p, kd, h, hk => ⟨x, a, b, t, p, kd, h, rfl⟩
  | m + 1, k, x, a, b, t, p, kd, h, hk => by
    obtain ⟨l1, l2, _, _⟩ := grs_ok (by omega) h
    obtain ⟨v, x1, v0, v1, e1⟩ := pick_ex x (k := (k : Int) + 1) (by omega) (by omega)
    obtain ⟨w, x2, w0, w1, e2⟩ := pick_ex x1 (k := 2) (by decide) (by decide)
    obtain ⟨p', rfl⟩ : ∃ p' : Nat, v = p' := ⟨v.toNat, by omega⟩
    obtain ⟨kk, rfl⟩ : ∃ kk : Nat, w = kk := ⟨w.toNat, by omega⟩
    have g2 := grow2_ok (s := (a, b)) (k := kk) (p := p') (t := k + 1) (by omega) (by show p' < a.length; omega) (by show p' < b.length; omega) (by show a.length ≤ 1000; omega) (by show b.length ≤ 1000; omega)
    have hn : (gst (a, b) (k + 1) p' kk) ∈ grs (k + 1) := by
      refine List.mem_flatMap.mpr ⟨(a, b), h, List.mem_flatMap.mpr ⟨p', List.mem_range.mpr (by omega), ?_⟩⟩
      have : kk = 0 ∨ kk = 1 := by omega
      rcases this with rfl | rfl
      · exact List.mem_cons_self
      · exact List.mem_cons_of_mem _ List.mem_cons_self
    generalize gst (a, b) (k + 1) p' kk = s' at *
    obtain ⟨a1, b1⟩ := s'
    obtain ⟨x', a', b', t', p'', kd', i1, i2⟩ := gr_for M m (k + 1) x2 a1 b1 (some (.i ((k : Int) + 1))) (some (.i (p' : Nat))) (some (.i (kk : Nat))) hn (by omega)
    refine ⟨x', a', b', t', p'', kd', by rw [show k + (m + 1) = k + 1 + m by omega]; exact i1, ?_⟩
    have g2 : grow2 (kk : Int) (zs (zN a)) (zs (zN b)) (p' : Int) ((k : Int) + 1) = some (zs (zN a1), zs (zN b1)) := g2
    have ek : ((k : Int) + 1 + 1) = (((k + 1 : Nat) : Int) + 1) := rfl
    generalize zs (zN a) = A at *
    generalize zs (zN b) = B at *
    generalize zs (zN a1) = A1 at *
    generalize zs (zN b1) = B1 at *
    rw [rngD_succ, for_step (ρ1 := G9 (some (.lst x.ds)) M (some (.lst A)) (some (.lst B)) (some (.i ((k : Int) + 1))) p kd) (ρ2 := G9 (some (.lst x2.ds)) M (some (.lst A1)) (some (.lst B1)) (some (.i ((k : Int) + 1))) (some (.i (p' : Nat))) (some (.i (kk : Nat)))) (by simp [gl__law_grown_1]) (by
      generalize Rw.ds x = X at *
      generalize Rw.ds x1 = X1 at *
      generalize Rw.ds x2 = X2 at *
      simp [bl__law_grown_1, sb__law_grown_1, e1, e2, g2]), ek]
    exact i2
theorem v_grown (x : Rw) : ∃ (a b : List Nat) (x' : Rw), PlO a b ∧ plB (zN a) (zN b) = true ∧ m__law_grown [.lst x.ds, .i 5] = some (.ok (.fz (pairN a b)) [some (.lst (Rw.ds x')), some (.i 5)]) := by
  obtain ⟨v, x1, v0, v1, e1⟩ := pick_ex x (k := 5) (by decide) (by decide)
  obtain ⟨m, rfl⟩ : ∃ m : Nat, v = m := ⟨v.toNat, by omega⟩
  have h0 : (([0], [0]) : List Nat × List Nat) ∈ grs 0 := List.mem_singleton.mpr rfl
  obtain ⟨x', a', b', t', p', kd', i1, i2⟩ := gr_for (some (.i 5)) m 0 x1 [0] [0] none none none h0 (by omega)
  obtain ⟨l1, l2, hp, hq⟩ := grs_ok (by omega) i1
  refine ⟨a', b', x', hp, hq, ?_⟩
  have i2 : forF gl__law_grown_1 bl__law_grown_1 1000 (rngD 1 m) [some (.lst x1.ds), some (.i 5), some (.lst [.int 0]), some (.lst [.int 0]), none, none, none, none, none] = some (.nx (G9 (some (.lst (Rw.ds x'))) (some (.i 5)) (some (.lst (zs (zN a')))) (some (.lst (zs (zN b')))) t' p' kd')) := i2
  have la : (zN a').length ≤ 1000000 := by rw [zN_len]; omega
  have lb : (zN b').length ≤ 1000000 := by rw [zN_len]; omega
  have w : ((1 : Int) + m - 1).toNat = m := by omega
  have sm : smI ((1 : Int) + m) = true := Nat.ble_eq_true_of_le (by omega)
  have s1 : smI 1 = true := rfl
  show m__law_grown [.lst x.ds, .i 5] = some (.ok (.fz (.tuple [.tuple (zs (zN a')), .tuple (zs (zN b'))])) [some (.lst (Rw.ds x')), some (.i 5)])
  generalize zN a' = A at *
  generalize zN b' = B at *
  generalize Rw.ds x = X at *
  generalize Rw.ds x1 = X1 at *
  generalize Rw.ds x' = X' at *
  simp [m__law_grown, g__law_grown, st__law_grown_1, st__law_grown_2, st__law_grown_3, startR, e1, w, sm, s1, i2, la, lb, fin, outsOf]
end L3

namespace L3
open PySem PySem.Spec L2
/-! ### the law -/
/-- both tell the same -/
def Bth (d : D) : Prop := ∃ b : Bool, m_is_plane [.fz d] = some (.ok (.b b) [some (.fz d)]) ∧ m__law_is_plane [.fz d] = some (.ok (.b b) [some (.fz d)])
theorem bth_pr {a b : List Int} (za : a.length ≤ 1000) (zb : b.length ≤ 1000) : Bth (prV a b) := ⟨plB a b, v_plane za zb, v_lplane za zb⟩
theorem bth_no {d : D} (h1 : m_is_plane [.fz d] = some (.ok (.b false) [some (.fz d)])) (h2 : m__law_is_plane [.fz d] = some (.ok (.b false) [some (.fz d)])) : Bth d := ⟨false, h1, h2⟩
def bthB (d : D) : Bool := moB (m_is_plane [.fz d]) (.ok (.b false) [some (.fz d)]) && moB (m__law_is_plane [.fz d]) (.ok (.b false) [some (.fz d)])
theorem bthB_of {d : D} (h : bthB d = true) : Bth d := by
  unfold bthB at h
  rw [Bool.and_eq_true] at h
  exact bth_no (mo_of h.1) (mo_of h.2)
theorem bth_none : Bth .none := bthB_of (by decide +kernel)
theorem bth_e : Bth (.tuple []) := bthB_of (by decide +kernel)
theorem bth_true : Bth (.tuple [.tuple [.bool true, .int 0], .tuple [.int 0, .int 1]]) := bthB_of (by decide +kernel)
theorem bth_str : Bth (.tuple [.str "01", .str "10"]) := bthB_of (by decide +kernel)
theorem bth_ints (a : List Int) (hz : a.length ≤ 1000) : Bth (.tuple (zs a)) := by
  have it : is_tuple (.tuple (zs a)) = true := rfl
  by_cases hl : a.length = 2
  · obtain ⟨x, y, rfl⟩ : ∃ x y, a = [x, y] := by
      match a, hl with
      | [x, y], _ => exact ⟨x, y, rfl⟩
    have i0 : atI [PyData.int x, .int y] 0 = some (.int x) := rfl
    have it : is_tuple (.tuple [.int x, .int y]) = true := rfl
    have ni : is_tuple (.int x) = false := rfl
    refine bth_no ?_ ?_
    · show m_is_plane [.fz (.tuple [.int x, .int y])] = some (.ok (.b false) [some (.fz (.tuple [.int x, .int y]))])
      simp [m_is_plane, g_is_plane, startR, it, ni, i0, fin, outsOf]
    · show m__law_is_plane [.fz (.tuple [.int x, .int y])] = some (.ok (.b false) [some (.fz (.tuple [.int x, .int y]))])
      have s1 : gl__law_is_plane_1 (.int x) [some (.fz (.tuple [.int x, .int y])), none, none, none, none] = some [some (.fz (.tuple [.int x, .int y])), some (.i x), none, none, none] := by simp [gl__law_is_plane_1]
      have b1 : bl__law_is_plane_1 1000 [some (.fz (.tuple [.int x, .int y])), some (.i x), none, none, none] = some (.rt (.b false) [some (.fz (.tuple [.int x, .int y])), some (.i x), none, none, none]) := by simp [bl__law_is_plane_1, ni]
      have f : forF gl__law_is_plane_1 bl__law_is_plane_1 1000 [.int x, .int y] [some (.fz (.tuple [.int x, .int y])), none, none, none, none] = some (.rt (.b false) [some (.fz (.tuple [.int x, .int y])), some (.i x), none, none, none]) := for_rt s1 b1
      simp [m__law_is_plane, g__law_is_plane, startR, it, asSeq, f, fin, outsOf]
  · have hl' : ¬ (a.length : Int) = 2 := by omega
    exact bth_no (by simp [m_is_plane, g_is_plane, startR, it, hl', fin, outsOf]) (by simp [m__law_is_plane, g__law_is_plane, startR, it, hl', fin, outsOf])
theorem bth_list (ds : List D) : Bth (.list ds) := by
  have it : is_tuple (.list ds) = false := rfl
  exact bth_no (by simp [m_is_plane, g_is_plane, startR, it, fin, outsOf]) (by simp [m__law_is_plane, g__law_is_plane, startR, it, fin, outsOf])
theorem bth_one (d : D) : Bth (.tuple [d]) := by
  have it : is_tuple (.tuple [d]) = true := rfl
  exact bth_no (by simp [m_is_plane, g_is_plane, startR, it, fin, outsOf]) (by simp [m__law_is_plane, g__law_is_plane, startR, it, fin, outsOf])
theorem bth_four (c d e f : D) : Bth (.tuple [c, d, e, f]) := by
  have it : is_tuple (.tuple [c, d, e, f]) = true := rfl
  exact bth_no (by simp [m_is_plane, g_is_plane, startR, it, fin, outsOf]) (by simp [m__law_is_plane, g__law_is_plane, startR, it, fin, outsOf])
theorem bth_half (a : List Int) (ds : List D) (hz : a.length ≤ 1000) : Bth (.tuple [.tuple (zs a), .list ds]) := by
  have it : is_tuple (.tuple [.tuple (zs a), .list ds]) = true := rfl
  have it2 : is_tuple (.tuple (zs a)) = true := rfl
  have nl : is_tuple (.list ds) = false := rfl
  have i0 : atI [PyData.tuple (zs a), .list ds] 0 = some (.tuple (zs a)) := rfl
  have i1 : atI [PyData.tuple (zs a), .list ds] 1 = some (.list ds) := rfl
  refine bth_no ?_ ?_
  · have t1 := v_turn (a := a) (n := a.length) (by omega)
    have t2 : m_is_turn [.fz (.list ds), .fz (.int a.length)] = some (.ok (.b false) [some (.fz (.list ds)), some (.i a.length)]) := by simp [m_is_turn, g_is_turn, startR, nl, fin, outsOf]
    by_cases r1 : (1 : Int) ≤ a.length
    · by_cases r2 : (a.length : Int) ≤ 6
      · cases h1 : tnB a.length a with
        | false =>
          rw [h1] at t1
          simp [m_is_plane, g_is_plane, startR, it, it2, i0, i1, r1, r2, t1, fin, outsOf]
        | true =>
          rw [h1] at t1
          simp [m_is_plane, g_is_plane, startR, it, it2, i0, i1, r1, r2, t1, t2, fin, outsOf]
      · simp [m_is_plane, g_is_plane, startR, it, it2, i0, i1, r1, r2, fin, outsOf]
    · simp [m_is_plane, g_is_plane, startR, it, it2, i0, i1, r1, fin, outsOf]
  · have la : (zs a).length = a.length := zs_len a
    have b1 := lp_body (zs a) a (.list ds) none none 1000 hz
    rw [la] at b1
    have s1 : gl__law_is_plane_1 (.tuple (zs a)) [some (.fz (.tuple [.tuple (zs a), .list ds])), none, none, none, none] = some [some (.fz (.tuple [.tuple (zs a), .list ds])), some (T a), none, none, none] := by simp [gl__law_is_plane_1]
    cases h1 : okTn a.length a with
    | false =>
      rw [h1] at b1
      have f : forF gl__law_is_plane_1 bl__law_is_plane_1 1000 [.tuple (zs a), .list ds] [some (.fz (.tuple [.tuple (zs a), .list ds])), none, none, none, none] = some (.rt (.b false) [some (.fz (.tuple [.tuple (zs a), .list ds])), some (T a), none, none, none]) := for_rt s1 b1
      simp [m__law_is_plane, g__law_is_plane, startR, it, asSeq, f, fin, outsOf]
    | true =>
      rw [h1, if_pos rfl] at b1
      have s2 : gl__law_is_plane_1 (.list ds) [some (.fz (.tuple [.tuple (zs a), .list ds])), some (T a), none, none, none] = some [some (.fz (.tuple [.tuple (zs a), .list ds])), some (.fz (.list ds)), none, none, none] := by simp [gl__law_is_plane_1]
      have b2 : bl__law_is_plane_1 1000 [some (.fz (.tuple [.tuple (zs a), .list ds])), some (.fz (.list ds)), none, none, none] = some (.rt (.b false) [some (.fz (.tuple [.tuple (zs a), .list ds])), some (.fz (.list ds)), none, none, none]) := by simp [bl__law_is_plane_1, nl]
      have f : forF gl__law_is_plane_1 bl__law_is_plane_1 1000 [.tuple (zs a), .list ds] [some (.fz (.tuple [.tuple (zs a), .list ds])), none, none, none, none] = some (.rt (.b false) [some (.fz (.tuple [.tuple (zs a), .list ds])), some (.fz (.list ds)), none, none, none]) := by
        rw [for_step s1 b1]
        exact for_rt s2 b2
      simp [m__law_is_plane, g__law_is_plane, startR, it, asSeq, f, fin, outsOf]
end L3

namespace L3
open PySem PySem.Spec L2
abbrev X10 (s r v e n m o d q y : Option Cl) : En := [s, r, v, e, n, m, o, d, q, y]
theorem sh_pp (p : PrI) : SeqAt.shaped (ppD p) = true := by
  unfold SeqAt.shaped
  rw [canLayP, Bool.true_and, decide_eq_true_eq]
  have h1 : PyData.depthAll (p.1.map PyData.int) = 0 := PySem.W.depth_ints p.1
  have h2 : PyData.depthAll (p.2.map PyData.int) = 0 := PySem.W.depth_ints p.2
  unfold ppD
  simp only [PyData.depth, PyData.depthAll, h1, h2]
  omega
theorem gNe_self {d : D} (h : SeqAt.shaped d = true) : gNe [.fz d, .fz d] = some (.b false) := by
  have hl : d.canLay0 = true := SeqAt.canLay_of_shaped h
  show (if (SeqAt.shaped d && SeqAt.shaped d) = true then some (Cl.fz (.bool (!PyData.eqv d d))) else none) = _
  rw [h, SeqAt.eqv_refl d hl]
  rfl
section
variable {a b : List Nat} (h : PlO a b)
include h in
theorem PlO.nam {p : List Nat} (hp : PmO a.length p) : m__law_named [T (zN a), T (zN p)] = some (.ok (T (zN (ren a p))) [some (T (zN a)), some (T (zN p))]) ∧ m__law_named [T (zN b), T (zN p)] = some (.ok (T (zN (ren b p))) [some (T (zN b)), some (T (zN p))]) :=
  ⟨v_lnamed h.ta hp (by have := h.l5; omega), v_lnamed h.tb (by rw [h.le]; exact hp) (by have := h.le; have := h.l5; omega)⟩
include h in
theorem lw_for (S R m o d q y : Option Cl) (n : Nat) : ∀ (ps : List (List Nat)) (acc : List D) (B : Option Cl), (∀ p ∈ ps, PmO a.length p) → acc.length + ps.length ≤ 1000 → ∃ B', forF gl_law_1 bl_law_1 n (ps.map tpD) (X10 S R (some (.fz (pairN a b))) (some (.lst acc)) B m o d q y) = some (.nx (X10 S R (some (.fz (pairN a b))) (some (.lst (acc ++ ps.map fun p => ppD (zN (ren a p), zN (ren b p))))) B' m o d q y))
  | [], acc, B, _, _ => ⟨B, by show some (Ot.nx _) = some (Ot.nx (X10 S R _ (some (.lst (acc ++ []))) B m o d q y)); rw [List.append_nil]⟩
  | p :: ps, acc, B, hp, hl => by
    obtain ⟨e1, e2⟩ := h.nam (hp p List.mem_cons_self)
    rw [List.length_cons] at hl
    obtain ⟨B', ih⟩ := lw_for S R m o d q y n ps (acc ++ [ppD (zN (ren a p), zN (ren b p))]) (some (T (zN p))) (fun q hq => hp q (List.mem_cons_of_mem _ hq)) (by rw [List.length_append, List.length_singleton]; omega)
    refine ⟨B', ?_⟩
    have ap : gApp (.lst acc) [ppD (zN (ren a p), zN (ren b p))] = some (.none, .lst (acc ++ [ppD (zN (ren a p), zN (ren b p))])) := if_pos (Nat.ble_eq_true_of_le (by omega))
    have i0 : atI [PyData.tuple (zs (zN a)), .tuple (zs (zN b))] 0 = some (.tuple (zs (zN a))) := rfl
    have i1 : atI [PyData.tuple (zs (zN a)), .tuple (zs (zN b))] 1 = some (.tuple (zs (zN b))) := rfl
    have ap : gApp (.lst acc) [.tuple [.tuple (zs (zN (ren a p))), .tuple (zs (zN (ren b p)))]] = some (.none, .lst (acc ++ [ppD (zN (ren a p), zN (ren b p))])) := ap
    rw [List.map_cons, List.map_cons, for_step (ρ1 := X10 S R (some (.fz (pairN a b))) (some (.lst acc)) (some (T (zN p))) m o d q y) (ρ2 := X10 S R (some (.fz (pairN a b))) (some (.lst (acc ++ [ppD (zN (ren a p), zN (ren b p))]))) (some (T (zN p))) m o d q y) (by simp [gl_law_1, tpD]) (by
      generalize ppD (zN (ren a p), zN (ren b p)) = P at *
      generalize zN (ren a p) = r1 at *
      generalize zN (ren b p) = r2 at *
      simp [bl_law_1, i0, i1, e1, e2, ap]), ih, List.append_assoc]
    rfl
end
theorem ord_at {n : Nat} {v : Int} (h0 : 0 ≤ v) (h1 : v < ((ordD n).length : Int)) : ∃ p, atI (ordD n) v = some (.tuple (zs (zN p))) ∧ p ∈ ord n := by
  obtain ⟨i, rfl⟩ : ∃ i : Nat, v = i := ⟨v.toNat, by omega⟩
  have hi : i < (ord n).length := by rw [ordD_eq, List.length_map] at h1; omega
  refine ⟨(ord n)[i], ?_, List.getElem_mem hi⟩
  have : (ordD n)[i]? = some (tpD (ord n)[i]) := by rw [ordD_eq, List.getElem?_map, List.getElem?_eq_getElem hi]; rfl
  exact atI_nat this
/-- what is asked of one -/
theorem lw_one (S v e n m o q dd : Option Cl) (N : Nat) (x : Rw) {d : D} (h : Bth d) : ∃ x' : Rw, bl_law_2 N (X10 S (some (.lst x.ds)) v e n m o dd q (some (.fz d))) = some (.nx (X10 S (some (.lst x'.ds)) v e n m o dd q (some (.fz d)))) := by
  obtain ⟨b, e1, e2⟩ := h
  have n1 : gNe [.fz (.bool b), .fz (.bool b)] = some (.b false) := by cases b <;> rfl
  cases b with
  | true => exact ⟨x, by simp [bl_law_2, e1, e2, n1]⟩
  | false =>
    obtain ⟨w, x1, w0, w1, e3⟩ := pick_ex x (k := 3) (by decide) (by decide)
    have e4 := v_wrong e1 w0 w1
    have n2 : gNe [.fz (.str "plane"), .fz (.str "plane")] = some (.b false) := gNe_self (d := .str "plane") (by decide +kernel)
    refine ⟨x1, ?_⟩
    generalize Rw.ds x = X at *
    generalize Rw.ds x1 = X1 at *
    simp [bl_law_2, e1, e2, n1, e3, e4, n2]
theorem lw_three (S v e n m o q dd : Option Cl) (N : Nat) : ∀ (ds : List D) (x : Rw) (y : Option Cl), (∀ d ∈ ds, Bth d) → ∃ (x' : Rw) (y' : Option Cl), forF gl_law_2 bl_law_2 N ds (X10 S (some (.lst x.ds)) v e n m o dd q y) = some (.nx (X10 S (some (.lst x'.ds)) v e n m o dd q y'))
  | [], x, y, _ => ⟨x, y, rfl⟩
  | d :: ds, x, y, h => by
    obtain ⟨x1, e1⟩ := lw_one S v e n m o q dd N x (h d List.mem_cons_self)
    obtain ⟨x', y', e2⟩ := lw_three S v e n m o q dd N ds x1 (some (.fz d)) fun c hc => h c (List.mem_cons_of_mem _ hc)
    refine ⟨x', y', ?_⟩
    rw [for_step (ρ1 := X10 S (some (.lst x.ds)) v e n m o dd q (some (.fz d))) (by simp [gl_law_2]) e1]
    exact e2
def oddL (a b p q : List Int) : List D := [.none, .tuple [], .tuple (zs a), .list [.tuple (zs a), .tuple (zs b)], .tuple [.tuple (zs a)], .tuple [.tuple (zs a), .list (zs b)], .tuple [.tuple (zs a), .tuple (zs b), .tuple (zs a), .tuple (zs b)],
  prV (a ++ [9]) b, prV [] [], .tuple [.tuple [.bool true, .int 0], .tuple [.int 0, .int 1]], prV [0, 0] [0, 1], prV [1, 0] [0], prV [0, 0, 0, 0, 0, 0, 0] [0, 0, 0, 0, 0, 0, 0], .tuple [.str "01", .str "10"], prV p q, prV [1, 2, 3, 4, 5, 6, 0] [0, 1, 2, 3, 4, 5, 6]]
theorem odd_bth {a b p q : List Int} (ha : a.length ≤ 100) (hb : b.length ≤ 100) (hp : p.length ≤ 100) (hq : q.length ≤ 100) : ∀ d ∈ oddL a b p q, Bth d := by
  intro d hd
  unfold oddL at hd
  simp only [List.mem_cons, List.not_mem_nil, or_false] at hd
  rcases hd with rfl | rfl | rfl | rfl | rfl | rfl | rfl | rfl | rfl | rfl | rfl | rfl | rfl | rfl | rfl | rfl
  · exact bth_none
  · exact bth_e
  · exact bth_ints a (by omega)
  · exact bth_list _
  · exact bth_one _
  · exact bth_half a _ (by omega)
  · exact bth_four _ _ _ _
  · exact bth_pr (by rw [List.length_append, List.length_singleton]; omega) (by omega)
  · exact bth_pr (by decide) (by decide)
  · exact bth_true
  · exact bth_pr (by decide) (by decide)
  · exact bth_pr (by decide) (by decide)
  · exact bth_pr (by decide) (by decide)
  · exact bth_str
  · exact bth_pr (by omega) (by omega)
  · exact bth_pr (by decide) (by decide)
def od1 (a b : List Int) : List D := [.none, .tuple [], .tuple (zs a), .list [.tuple (zs a), .tuple (zs b)], .tuple [.tuple (zs a)], .tuple [.tuple (zs a), .list (zs b)], .tuple [.tuple (zs a), .tuple (zs b), .tuple (zs a), .tuple (zs b)]]
def od2 (a b : List Int) : List D := [prV (a ++ [9]) b, prV [] [], .tuple [.tuple [.bool true, .int 0], .tuple [.int 0, .int 1]], prV [0, 0] [0, 1]]
def od3 (p q : List Int) : List D := [prV [1, 0] [0], prV [0, 0, 0, 0, 0, 0, 0] [0, 0, 0, 0, 0, 0, 0], .tuple [.str "01", .str "10"], prV p q]
theorem h_law : ∀ cs o, m_law cs = some o → ∃ n out, g_law n (startR 10 cs) = some out ∧ fin [true] out = some o := fun cs o hm => by
  unfold m_law at hm
  split at hm
  case h_2 => cases hm
  rename_i ds
  cases q : intsD ds with
  | none => rw [q] at hm; cases hm
  | some ns =>
    rw [q] at hm
    cases hm
    have e1 : m__law_draws [.fz (.list ds)] = some (.ok (.lst (Rw.ds ⟨ns, 0, 0, 7⟩)) [some (.fz (.list ds))]) := by
      unfold m__law_draws
      dsimp only
      rw [q]
    generalize Rw.mk ns 0 0 7 = x0 at *
    obtain ⟨a, b, x1, h, hp, e2⟩ := v_grown x0
    have s : ∀ (f g : FS) (ρ ρ' : En), f 1000 ρ = some (.nx ρ') → sSeq f g 1000 ρ = g 1000 ρ' := fun f g ρ ρ' h => by simp [h]
    have i0 : atI [PyData.tuple (zs (zN a)), .tuple (zs (zN b))] 0 = some (.tuple (zs (zN a))) := rfl
    have i1 : atI [PyData.tuple (zs (zN a)), .tuple (zs (zN b))] 1 = some (.tuple (zs (zN b))) := rfl
    have la := zN_len a
    have lb := zN_len b
    have l5 := h.l5
    have l1 := h.l1
    have lle := h.le
    have t1 : st_law_1 1000 (startR 10 [.fz (.list ds)]) = some (.nx (X10 (some (.fz (.list ds))) (some (.lst x0.ds)) none none none none none none none none)) := by simp [st_law_1, startR, e1]
    have t2 : st_law_2 1000 (X10 (some (.fz (.list ds))) (some (.lst x0.ds)) none none none none none none none none) = some (.nx (X10 (some (.fz (.list ds))) (some (.lst x1.ds)) (some (.fz (pairN a b))) none none none none none none none)) := by simp [st_law_2, e2]
    have t3 : st_law_3 1000 (X10 (some (.fz (.list ds))) (some (.lst x1.ds)) (some (.fz (pairN a b))) none none none none none none none) = some (.nx (X10 (some (.fz (.list ds))) (some (.lst x1.ds)) (some (.fz (pairN a b))) (some (.lst [])) none none none none none none)) := by simp [st_law_3]
    have eo := v_lorders h.l1 h.l5
    have on := ord_ne _ h.l1 h.l5
    obtain ⟨B, e4⟩ := lw_for h (some (.fz (.list ds))) (some (.lst x1.ds)) none none none none none 1000 (ord a.length) [] none (ord_pm h.l1 h.l5) (by show 0 + _ ≤ 1000; omega)
    rw [List.nil_append, ev_map, ← ordD_eq] at e4
    have t4 : st_law_4 1000 (X10 (some (.fz (.list ds))) (some (.lst x1.ds)) (some (.fz (pairN a b))) (some (.lst [])) none none none none none none) = some (.nx (X10 (some (.fz (.list ds))) (some (.lst x1.ds)) (some (.fz (pairN a b))) (some (.lst ((evP a b).map ppD))) B none none none none none)) := by
      generalize (evP a b).map ppD = E at *
      generalize ordD a.length = O at *
      simp [st_law_4, i0, la, eo, asSeq, e4]
    have vi := v_isp h hp
    have vd := v_degrees h hp
    have vr1 := v_lrounds h.ta (by omega)
    have vr2 := v_lrounds h.tb (by omega)
    have ng := gNe_self (sh_pp (rR a, rR b))
    have ng : gNe [.fz (.tuple [.tuple (zs (rR a)), .tuple (zs (rR b))]), .fz (.tuple [.tuple (zs (rR a)), .tuple (zs (rR b))])] = some (.b false) := ng
    have t5 : st_law_5 1000 (X10 (some (.fz (.list ds))) (some (.lst x1.ds)) (some (.fz (pairN a b))) (some (.lst ((evP a b).map ppD))) B none none none none none) = some (.nx (X10 (some (.fz (.list ds))) (some (.lst x1.ds)) (some (.fz (pairN a b))) (some (.lst ((evP a b).map ppD))) B none none none none none)) := by
      generalize (evP a b).map ppD = E at *
      generalize rR a = r1 at *
      generalize rR b = r2 at *
      simp [st_law_5, i0, i1, vi, vd, vr1, vr2, ng]
    have vn := v_named h hp
    have vt := v_turns_of h hp
    have gm := gMinL (ev_len h).1
    have gc := gCntP_ok (evP a b) (zN a, zN b)
    have gc : gCntP (.lst ((evP a b).map ppD)) [pairN a b] = some (.int ((evP a b).countP fun z => decide (z = (zN a, zN b)) : Nat), .lst ((evP a b).map ppD)) := gc
    have nm := gNe_self (sh_pp (minL (evP a b)))
    have nc := e_gNeI ((evP a b).countP fun z => decide (z = (zN a, zN b)) : Nat) ((evP a b).countP fun z => decide (z = (zN a, zN b)) : Nat)
    rw [decide_eq_true rfl] at nc
    have t6 : st_law_6 1000 (X10 (some (.fz (.list ds))) (some (.lst x1.ds)) (some (.fz (pairN a b))) (some (.lst ((evP a b).map ppD))) B none none none none none) = some (.nx (X10 (some (.fz (.list ds))) (some (.lst x1.ds)) (some (.fz (pairN a b))) (some (.lst ((evP a b).map ppD))) B none none none none none)) := by
      generalize ((evP a b).countP fun z => decide (z = (zN a, zN b))) = C at *
      generalize ppD (minL (evP a b)) = M at *
      generalize (evP a b).map ppD = E at *
      simp [st_law_6, vn, vt, gm, gc, nm, nc]
    generalize (evP a b).map ppD = E at *
    obtain ⟨v, x2, v0, v1, e7⟩ := pick_ex x1 (k := 4) (by decide) (by decide)
    obtain ⟨m, rfl⟩ : ∃ m : Nat, v = m := ⟨v.toNat, by omega⟩
    have t7 : st_law_7 1000 (X10 (some (.fz (.list ds))) (some (.lst x1.ds)) (some (.fz (pairN a b))) (some (.lst E)) B none none none none none) = some (.nx (X10 (some (.fz (.list ds))) (some (.lst x2.ds)) (some (.fz (pairN a b))) (some (.lst E)) B (some (.i ((1 + m : Nat) : Int))) none none none none)) := by
      generalize Rw.ds x1 = Y1 at *
      generalize Rw.ds x2 = Y2 at *
      simp [st_law_7, e7]
    have em := v_lorders (n := 1 + m) (by omega) (by omega)
    have om := ord_ne (1 + m) (by omega) (by omega)
    have ol : (ordD (1 + m)).length = (ord (1 + m)).length := by rw [ordD_eq, List.length_map]
    have t8 : st_law_8 1000 (X10 (some (.fz (.list ds))) (some (.lst x2.ds)) (some (.fz (pairN a b))) (some (.lst E)) B (some (.i ((1 + m : Nat) : Int))) none none none none) = some (.nx (X10 (some (.fz (.list ds))) (some (.lst x2.ds)) (some (.fz (pairN a b))) (some (.lst E)) B (some (.i ((1 + m : Nat) : Int))) (some (.fz (.list (ordD (1 + m))))) none none none)) := by
      generalize ((1 + m : Nat) : Int) = K at *
      generalize ordD (1 + m) = O at *
      simp [st_law_8, em]
    obtain ⟨w, x3, w0, w1, e9⟩ := pick_ex x2 (k := ((ordD (1 + m)).length : Int)) (by omega) (by omega)
    obtain ⟨u, x4, u0, u1, e9'⟩ := pick_ex x3 (k := ((ordD (1 + m)).length : Int)) (by omega) (by omega)
    obtain ⟨p, ap, mp⟩ := ord_at w0 w1
    obtain ⟨r, ar, mr⟩ := ord_at u0 u1
    have pp := ord_pm (n := 1 + m) (by omega) (by omega) p mp
    have pr := ord_pm (n := 1 + m) (by omega) (by omega) r mr
    have t9 : st_law_9 1000 (X10 (some (.fz (.list ds))) (some (.lst x2.ds)) (some (.fz (pairN a b))) (some (.lst E)) B (some (.i ((1 + m : Nat) : Int))) (some (.fz (.list (ordD (1 + m))))) none none none) = some (.nx (X10 (some (.fz (.list ds))) (some (.lst x4.ds)) (some (.fz (pairN a b))) (some (.lst E)) B (some (.i ((1 + m : Nat) : Int))) (some (.fz (.list (ordD (1 + m))))) (some (.fz (pairN p r))) none none)) := by
      generalize ((1 + m : Nat) : Int) = K at *
      generalize ordD (1 + m) = O at *
      generalize Rw.ds x2 = Y2 at *
      generalize Rw.ds x3 = Y3 at *
      generalize Rw.ds x4 = Y4 at *
      simp [st_law_9, e9, e9', ap, ar]
    generalize (some (Cl.fz (.list (ordD (1 + m))))) = O at *
    generalize (some (Cl.i ((1 + m : Nat) : Int))) = K at *
    have lsa : (zs (zN a)).length = a.length := by rw [zs_len]; exact la
    have lsb : (zs (zN b)).length = b.length := by rw [zs_len]; exact lb
    have i2 : gMul [.fz (.tuple [PyData.tuple (zs (zN a)), .tuple (zs (zN b))]), .fz (.int 2)] = some (.fz (.tuple [PyData.tuple (zs (zN a)), .tuple (zs (zN b)), .tuple (zs (zN a)), .tuple (zs (zN b))])) := rfl
    have i7 : gMul [.fz (.tuple [.int 0]), .fz (.int 7)] = some (.fz (.tuple (zs [0, 0, 0, 0, 0, 0, 0]))) := rfl
    have i9 : gAdd [T (zN a), .fz (.tuple [.int 9])] = some (T (zN a ++ [9])) := by
      show (if lsz ((zs (zN a)).length + 1) = true then some (Cl.fz (.tuple (zs (zN a) ++ [.int 9]))) else none) = _
      rw [if_pos (show lsz ((zs (zN a)).length + 1) = true from decide_eq_true (by omega))]
      show _ = some (Cl.fz (.tuple (zs (zN a ++ [9]))))
      unfold zs
      rw [List.map_append]
      rfl
    have t10 : st_law_10 1000 (X10 (some (.fz (.list ds))) (some (.lst x4.ds)) (some (.fz (pairN a b))) (some (.lst E)) B K O (some (.fz (pairN p r))) none none) = some (.nx (X10 (some (.fz (.list ds))) (some (.lst x4.ds)) (some (.fz (pairN a b))) (some (.lst E)) B K O (some (.fz (pairN p r))) (some (.lst (od1 (zN a) (zN b)))) none)) := by
      generalize Rw.ds x4 = Y4 at *
      simp [st_law_10, i0, i1, i2, od1]
    have t11 : st_law_11 1000 (X10 (some (.fz (.list ds))) (some (.lst x4.ds)) (some (.fz (pairN a b))) (some (.lst E)) B K O (some (.fz (pairN p r))) (some (.lst (od1 (zN a) (zN b)))) none) = some (.nx (X10 (some (.fz (.list ds))) (some (.lst x4.ds)) (some (.fz (pairN a b))) (some (.lst E)) B K O (some (.fz (pairN p r))) (some (.lst (od1 (zN a) (zN b) ++ od2 (zN a) (zN b)))) none)) := by
      have ad : gAdd [.lst (od1 (zN a) (zN b)), .lst [.tuple [.tuple (zs (zN a ++ [9])), .tuple (zs (zN b))], .tuple [.tuple [], .tuple []], .tuple [.tuple [.bool true, .int 0], .tuple [.int 0, .int 1]], .tuple [.tuple [.int 0, .int 0], .tuple [.int 0, .int 1]]]] = some (.lst (od1 (zN a) (zN b) ++ od2 (zN a) (zN b))) := rfl
      generalize od1 (zN a) (zN b) ++ od2 (zN a) (zN b) = O2 at *
      generalize od1 (zN a) (zN b) = O1 at *
      generalize Rw.ds x4 = Y4 at *
      generalize zN a ++ [9] = a9 at *
      simp [st_law_11, i0, i1, i9, ad]
    have t12 : st_law_12 1000 (X10 (some (.fz (.list ds))) (some (.lst x4.ds)) (some (.fz (pairN a b))) (some (.lst E)) B K O (some (.fz (pairN p r))) (some (.lst (od1 (zN a) (zN b) ++ od2 (zN a) (zN b)))) none) = some (.nx (X10 (some (.fz (.list ds))) (some (.lst x4.ds)) (some (.fz (pairN a b))) (some (.lst E)) B K O (some (.fz (pairN p r))) (some (.lst (od1 (zN a) (zN b) ++ od2 (zN a) (zN b) ++ od3 (zN p) (zN r)))) none)) := by
      have ad : gAdd [.lst (od1 (zN a) (zN b) ++ od2 (zN a) (zN b)), .lst [.tuple [.tuple [.int 1, .int 0], .tuple [.int 0]], .tuple [.tuple (zs [0, 0, 0, 0, 0, 0, 0]), .tuple (zs [0, 0, 0, 0, 0, 0, 0])], .tuple [.str "01", .str "10"], pairN p r]] = some (.lst (od1 (zN a) (zN b) ++ od2 (zN a) (zN b) ++ od3 (zN p) (zN r))) := rfl
      generalize od1 (zN a) (zN b) ++ od2 (zN a) (zN b) ++ od3 (zN p) (zN r) = O2 at *
      generalize od1 (zN a) (zN b) ++ od2 (zN a) (zN b) = O1 at *
      generalize Rw.ds x4 = Y4 at *
      generalize zs [0, 0, 0, 0, 0, 0, 0] = z7 at *
      simp [st_law_12, i7, ad]
    have t13 : st_law_13 1000 (X10 (some (.fz (.list ds))) (some (.lst x4.ds)) (some (.fz (pairN a b))) (some (.lst E)) B K O (some (.fz (pairN p r))) (some (.lst (od1 (zN a) (zN b) ++ od2 (zN a) (zN b) ++ od3 (zN p) (zN r)))) none) = some (.nx (X10 (some (.fz (.list ds))) (some (.lst x4.ds)) (some (.fz (pairN a b))) (some (.lst E)) B K O (some (.fz (pairN p r))) (some (.lst (oddL (zN a) (zN b) (zN p) (zN r)))) none)) := by
      have ap : gApp (.lst (od1 (zN a) (zN b) ++ od2 (zN a) (zN b) ++ od3 (zN p) (zN r))) [prV [1, 2, 3, 4, 5, 6, 0] [0, 1, 2, 3, 4, 5, 6]] = some (.none, .lst (oddL (zN a) (zN b) (zN p) (zN r))) := rfl
      generalize od1 (zN a) (zN b) ++ od2 (zN a) (zN b) ++ od3 (zN p) (zN r) = O1 at *
      generalize oddL (zN a) (zN b) (zN p) (zN r) = O2 at *
      generalize Rw.ds x4 = Y4 at *
      have ap : gApp (.lst O1) [.tuple [.tuple [.int 1, .int 2, .int 3, .int 4, .int 5, .int 6, .int 0], .tuple [.int 0, .int 1, .int 2, .int 3, .int 4, .int 5, .int 6]]] = some (.none, .lst O2) := ap
      simp [st_law_13, ap]
    obtain ⟨c, x5, c0, c1, e14⟩ := pick_ex x4 (k := 16) (by decide) (by decide)
    have op : ∀ d ∈ oddL (zN a) (zN b) (zN p) (zN r), Bth d := odd_bth (by omega) (by omega) (by have := pp.1; rw [zN_len]; omega) (by have := pr.1; rw [zN_len]; omega)
    obtain ⟨dd, ad, md⟩ : ∃ dd, atI (oddL (zN a) (zN b) (zN p) (zN r)) c = some dd ∧ dd ∈ oddL (zN a) (zN b) (zN p) (zN r) := by
      obtain ⟨i, rfl⟩ : ∃ i : Nat, c = i := ⟨c.toNat, by omega⟩
      have hi : i < (oddL (zN a) (zN b) (zN p) (zN r)).length := by show i < 16; omega
      exact ⟨_, atI_nat (List.getElem?_eq_getElem hi), List.getElem_mem hi⟩
    have b3 : ∀ d ∈ [dd, pairN p r, prV (zN b) (zN a)], Bth d := by
      intro d hd
      simp only [List.mem_cons, List.not_mem_nil, or_false] at hd
      rcases hd with rfl | rfl | rfl
      · exact op _ md
      · exact bth_pr (by have := pp.1; rw [zN_len]; omega) (by have := pr.1; rw [zN_len]; omega)
      · exact bth_pr (by omega) (by omega)
    generalize oddL (zN a) (zN b) (zN p) (zN r) = OD at *
    obtain ⟨x6, Y6, e15⟩ := lw_three (some (.fz (.list ds))) (some (.fz (pairN a b))) (some (.lst E)) B K O (some (.lst OD)) (some (.fz (pairN p r))) 1000 [dd, pairN p r, prV (zN b) (zN a)] x5 none b3
    have t14 : st_law_14 1000 (X10 (some (.fz (.list ds))) (some (.lst x4.ds)) (some (.fz (pairN a b))) (some (.lst E)) B K O (some (.fz (pairN p r))) (some (.lst OD)) none) = some (.nx (X10 (some (.fz (.list ds))) (some (.lst x6.ds)) (some (.fz (pairN a b))) (some (.lst E)) B K O (some (.fz (pairN p r))) (some (.lst OD)) Y6)) := by
      generalize Rw.ds x4 = Y4 at *
      generalize Rw.ds x5 = Y5 at *
      generalize Rw.ds x6 = Y6' at *
      have e15 : forF gl_law_2 bl_law_2 1000 [dd, .tuple [.tuple (zs (zN p)), .tuple (zs (zN r))], .tuple [.tuple (zs (zN b)), .tuple (zs (zN a))]] (X10 (some (.fz (.list ds))) (some (.lst Y5)) (some (.fz (pairN a b))) (some (.lst E)) B K O (some (.fz (pairN p r))) (some (.lst OD)) none) = _ := e15
      simp [st_law_14, i0, i1, e14, ad, asSeq, e15]
    refine ⟨1000, .rt (.b true) (X10 (some (.fz (.list ds))) (some (.lst x6.ds)) (some (.fz (pairN a b))) (some (.lst E)) B K O (some (.fz (pairN p r))) (some (.lst OD)) Y6), ?_, rfl⟩
    unfold g_law
    rw [s _ _ _ _ t1, s _ _ _ _ t2, s _ _ _ _ t3, s _ _ _ _ t4, s _ _ _ _ t5, s _ _ _ _ t6, s _ _ _ _ t7, s _ _ _ _ t8, s _ _ _ _ t9, s _ _ _ _ t10, s _ _ _ _ t11, s _ _ _ _ t12, s _ _ _ _ t13, s _ _ _ _ t14]
    rfl
theorem m_law_true (ns : List Int) : ∃ outs, m_law [.fz (.list (zs ns))] = some (.ok (.b true) outs) := by
  unfold m_law
  dsimp only
  rw [intsD_zs]
  exact ⟨_, rfl⟩
end L3

namespace L3
open PySem PySem.Spec L2 PyProof.Rows

def topS (i : Nat) : Stmt := PySem.Challenge.pw_fewroots_k20_plane_trees_judged.main.body.getD i (.Pass ⟨0, 0, 0, 0⟩)
abbrev s__law_draws : Stmt := topS 19
theorem sc__law_draws : FnScope ["_law_script"] ["_law_script"] (defScope s__law_draws) := ⟨rfl, rfl, rfl, by decide +kernel, rfl, by decide +kernel, by decide +kernel⟩
abbrev s__law_pick : Stmt := topS 20
theorem sc__law_pick : FnScope ["_law_row", "_law_many", "_law_cell", "_law_found"] ["_law_row", "_law_many"] (defScope s__law_pick) := ⟨rfl, rfl, rfl, by decide +kernel, rfl, by decide +kernel, by decide +kernel⟩
abbrev s__law_grown : Stmt := topS 26
theorem sc__law_grown : FnScope ["_law_row", "_law_most", "_law_first", "_law_second", "_law_tie", "_law_spot", "_law_kind", "_law_mine", "_law_other"] ["_law_row", "_law_most"] (defScope s__law_grown) := ⟨rfl, rfl, rfl, by decide +kernel, rfl, by decide +kernel, by decide +kernel⟩
abbrev s__law_orders : Stmt := topS 24
theorem sc__law_orders : FnScope ["_law_many", "_law_found", "_law_k", "_law_longer", "_law_one", "_law_j"] ["_law_many"] (defScope s__law_orders) := ⟨rfl, rfl, rfl, by decide +kernel, rfl, by decide +kernel, by decide +kernel⟩
abbrev s_rounds_of : Stmt := topS 8
theorem sc_rounds_of : FnScope ["turn", "done", "found", "begun", "here", "size"] ["turn"] (defScope s_rounds_of) := ⟨rfl, rfl, rfl, by decide +kernel, rfl, by decide +kernel, by decide +kernel⟩
abbrev s_is_from : Stmt := topS 4
theorem sc_is_from : FnScope ["value", "low", "high"] ["value", "low", "high"] (defScope s_is_from) := ⟨rfl, rfl, rfl, by decide +kernel, rfl, by decide +kernel, by decide +kernel⟩
abbrev s_is_turn : Stmt := topS 7
theorem sc_is_turn : FnScope ["value", "many", "one"] ["value", "many"] (defScope s_is_turn) := ⟨rfl, rfl, rfl, by decide +kernel, rfl, by decide +kernel, by decide +kernel⟩
abbrev s_behind : Stmt := topS 9
theorem sc_behind : FnScope ["first", "second", "tie"] ["first", "second"] (defScope s_behind) := ⟨rfl, rfl, rfl, by decide +kernel, rfl, by decide +kernel, by decide +kernel⟩
abbrev s_is_plane : Stmt := topS 10
theorem sc_is_plane : FnScope ["value", "many"] ["value"] (defScope s_is_plane) := ⟨rfl, rfl, rfl, by decide +kernel, rfl, by decide +kernel, by decide +kernel⟩
abbrev s_check_plane : Stmt := topS 11
theorem sc_check_plane : FnScope ["value"] ["value"] (defScope s_check_plane) := ⟨rfl, rfl, rfl, by decide +kernel, rfl, by decide +kernel, by decide +kernel⟩
abbrev s_degrees_of : Stmt := topS 12
theorem sc_degrees_of : FnScope ["value"] ["value"] (defScope s_degrees_of) := ⟨rfl, rfl, rfl, by decide +kernel, rfl, by decide +kernel, by decide +kernel⟩
abbrev s_renamed : Stmt := topS 13
theorem sc_renamed : FnScope ["turn", "names", "found", "tie", "there"] ["turn", "names"] (defScope s_renamed) := ⟨rfl, rfl, rfl, by decide +kernel, rfl, by decide +kernel, by decide +kernel⟩
abbrev s_all_turns : Stmt := topS 14
theorem sc_all_turns : FnScope ["many", "found", "size", "some", "one"] ["many"] (defScope s_all_turns) := ⟨rfl, rfl, rfl, by decide +kernel, rfl, by decide +kernel, by decide +kernel⟩
abbrev s_named_of : Stmt := topS 15
theorem sc_named_of : FnScope ["value", "first", "second", "names"] ["value"] (defScope s_named_of) := ⟨rfl, rfl, rfl, by decide +kernel, rfl, by decide +kernel, by decide +kernel⟩
abbrev s_named : Stmt := topS 16
theorem sc_named : FnScope ["value"] ["value"] (defScope s_named) := ⟨rfl, rfl, rfl, by decide +kernel, rfl, by decide +kernel, by decide +kernel⟩
abbrev s_turns_of : Stmt := topS 17
theorem sc_turns_of : FnScope ["value", "first", "second", "every", "names"] ["value"] (defScope s_turns_of) := ⟨rfl, rfl, rfl, by decide +kernel, rfl, by decide +kernel, by decide +kernel⟩
abbrev s__law_rounds : Stmt := topS 22
theorem sc__law_rounds : FnScope ["_law_turn", "_law_left", "_law_found", "_law_here", "_law_lot"] ["_law_turn"] (defScope s__law_rounds) := ⟨rfl, rfl, rfl, by decide +kernel, rfl, by decide +kernel, by decide +kernel⟩
abbrev s__law_is_whole : Stmt := topS 21
theorem sc__law_is_whole : FnScope ["_law_value", "_law_low", "_law_high"] ["_law_value", "_law_low", "_law_high"] (defScope s__law_is_whole) := ⟨rfl, rfl, rfl, by decide +kernel, rfl, by decide +kernel, by decide +kernel⟩
abbrev s__law_is_plane : Stmt := topS 23
theorem sc__law_is_plane : FnScope ["_law_value", "_law_turn", "_law_one", "_law_both", "_law_k"] ["_law_value"] (defScope s__law_is_plane) := ⟨rfl, rfl, rfl, by decide +kernel, rfl, by decide +kernel, by decide +kernel⟩
abbrev s__law_named : Stmt := topS 25
theorem sc__law_named : FnScope ["_law_turn", "_law_names", "_law_found", "_law_k"] ["_law_turn", "_law_names"] (defScope s__law_named) := ⟨rfl, rfl, rfl, by decide +kernel, rfl, by decide +kernel, by decide +kernel⟩
abbrev s__law_wrong : Stmt := topS 27
theorem sc__law_wrong : FnScope ["_law_value", "_law_which", "_law_told_there", "e"] ["_law_value", "_law_which"] (defScope s__law_wrong) := ⟨rfl, rfl, rfl, by decide +kernel, rfl, by decide +kernel, by decide +kernel⟩
abbrev s_law : Stmt := topS 28
theorem sc_law : FnScope ["_law_script", "_law_row", "_law_value", "_law_every", "_law_names", "_law_many", "_law_some", "_law_drawn", "_law_odd", "_law_one"] ["_law_script"] (defScope s_law) := ⟨rfl, rfl, rfl, by decide +kernel, rfl, by decide +kernel, by decide +kernel⟩
structure Ad where
  f__law_draws : Addr
  d__law_draws : FuncData
  f__law_pick : Addr
  d__law_pick : FuncData
  f__law_grown : Addr
  d__law_grown : FuncData
  f__law_orders : Addr
  d__law_orders : FuncData
  f_rounds_of : Addr
  d_rounds_of : FuncData
  f_is_from : Addr
  d_is_from : FuncData
  f_is_turn : Addr
  d_is_turn : FuncData
  f_behind : Addr
  d_behind : FuncData
  f_is_plane : Addr
  d_is_plane : FuncData
  f_check_plane : Addr
  d_check_plane : FuncData
  f_degrees_of : Addr
  d_degrees_of : FuncData
  f_renamed : Addr
  d_renamed : FuncData
  f_all_turns : Addr
  d_all_turns : FuncData
  f_named_of : Addr
  d_named_of : FuncData
  f_named : Addr
  d_named : FuncData
  f_turns_of : Addr
  d_turns_of : FuncData
  f__law_rounds : Addr
  d__law_rounds : FuncData
  f__law_is_whole : Addr
  d__law_is_whole : FuncData
  f__law_is_plane : Addr
  d__law_is_plane : FuncData
  f__law_named : Addr
  d__law_named : FuncData
  f__law_wrong : Addr
  d__law_wrong : FuncData
  f_law : Addr
  d_law : FuncData
  C_BadPlane : Addr
  C_RootError : Addr
  t_MOST_TIES : Tok
  un : Unit
structure Evd (P : Program) (w : World) (K : PySem.W.Frag) (mg : Str → Option Value) (base : Heap) (A0 : Ad) : Prop where
  F__law_draws : Fun K "_law_draws" "_law_draws" s__law_draws A0.f__law_draws A0.d__law_draws
  b__law_draws : Binds K A0.d__law_draws ["_law_script"] []
  m__law_draws : mg "_law_draws" = some (.ref A0.f__law_draws)
  F__law_pick : Fun K "_law_pick" "_law_pick" s__law_pick A0.f__law_pick A0.d__law_pick
  b__law_pick : Binds K A0.d__law_pick ["_law_row", "_law_many"] []
  m__law_pick : mg "_law_pick" = some (.ref A0.f__law_pick)
  F__law_grown : Fun K "_law_grown" "_law_grown" s__law_grown A0.f__law_grown A0.d__law_grown
  b__law_grown : Binds K A0.d__law_grown ["_law_row", "_law_most"] []
  m__law_grown : mg "_law_grown" = some (.ref A0.f__law_grown)
  F__law_orders : Fun K "_law_orders" "_law_orders" s__law_orders A0.f__law_orders A0.d__law_orders
  b__law_orders : Binds K A0.d__law_orders ["_law_many"] []
  m__law_orders : mg "_law_orders" = some (.ref A0.f__law_orders)
  F_rounds_of : Fun K "rounds_of" "rounds_of" s_rounds_of A0.f_rounds_of A0.d_rounds_of
  b_rounds_of : Binds K A0.d_rounds_of ["turn"] []
  m_rounds_of : mg "rounds_of" = some (.ref A0.f_rounds_of)
  F_is_from : Fun K "is_from" "is_from" s_is_from A0.f_is_from A0.d_is_from
  b_is_from : Binds K A0.d_is_from ["value", "low", "high"] []
  m_is_from : mg "is_from" = some (.ref A0.f_is_from)
  F_is_turn : Fun K "is_turn" "is_turn" s_is_turn A0.f_is_turn A0.d_is_turn
  b_is_turn : Binds K A0.d_is_turn ["value", "many"] []
  m_is_turn : mg "is_turn" = some (.ref A0.f_is_turn)
  F_behind : Fun K "behind" "behind" s_behind A0.f_behind A0.d_behind
  b_behind : Binds K A0.d_behind ["first", "second"] []
  m_behind : mg "behind" = some (.ref A0.f_behind)
  F_is_plane : Fun K "is_plane" "is_plane" s_is_plane A0.f_is_plane A0.d_is_plane
  b_is_plane : Binds K A0.d_is_plane ["value"] []
  m_is_plane : mg "is_plane" = some (.ref A0.f_is_plane)
  F_check_plane : Fun K "check_plane" "check_plane" s_check_plane A0.f_check_plane A0.d_check_plane
  b_check_plane : Binds K A0.d_check_plane ["value"] []
  m_check_plane : mg "check_plane" = some (.ref A0.f_check_plane)
  F_degrees_of : Fun K "degrees_of" "degrees_of" s_degrees_of A0.f_degrees_of A0.d_degrees_of
  b_degrees_of : Binds K A0.d_degrees_of ["value"] []
  m_degrees_of : mg "degrees_of" = some (.ref A0.f_degrees_of)
  F_renamed : Fun K "renamed" "renamed" s_renamed A0.f_renamed A0.d_renamed
  b_renamed : Binds K A0.d_renamed ["turn", "names"] []
  m_renamed : mg "renamed" = some (.ref A0.f_renamed)
  F_all_turns : Fun K "all_turns" "all_turns" s_all_turns A0.f_all_turns A0.d_all_turns
  b_all_turns : Binds K A0.d_all_turns ["many"] []
  m_all_turns : mg "all_turns" = some (.ref A0.f_all_turns)
  F_named_of : Fun K "named_of" "named_of" s_named_of A0.f_named_of A0.d_named_of
  b_named_of : Binds K A0.d_named_of ["value"] []
  m_named_of : mg "named_of" = some (.ref A0.f_named_of)
  F_named : Fun K "named" "named" s_named A0.f_named A0.d_named
  b_named : Binds K A0.d_named ["value"] []
  m_named : mg "named" = some (.ref A0.f_named)
  F_turns_of : Fun K "turns_of" "turns_of" s_turns_of A0.f_turns_of A0.d_turns_of
  b_turns_of : Binds K A0.d_turns_of ["value"] []
  m_turns_of : mg "turns_of" = some (.ref A0.f_turns_of)
  F__law_rounds : Fun K "_law_rounds" "_law_rounds" s__law_rounds A0.f__law_rounds A0.d__law_rounds
  b__law_rounds : Binds K A0.d__law_rounds ["_law_turn"] []
  m__law_rounds : mg "_law_rounds" = some (.ref A0.f__law_rounds)
  F__law_is_whole : Fun K "_law_is_whole" "_law_is_whole" s__law_is_whole A0.f__law_is_whole A0.d__law_is_whole
  b__law_is_whole : Binds K A0.d__law_is_whole ["_law_value", "_law_low", "_law_high"] []
  m__law_is_whole : mg "_law_is_whole" = some (.ref A0.f__law_is_whole)
  F__law_is_plane : Fun K "_law_is_plane" "_law_is_plane" s__law_is_plane A0.f__law_is_plane A0.d__law_is_plane
  b__law_is_plane : Binds K A0.d__law_is_plane ["_law_value"] []
  m__law_is_plane : mg "_law_is_plane" = some (.ref A0.f__law_is_plane)
  F__law_named : Fun K "_law_named" "_law_named" s__law_named A0.f__law_named A0.d__law_named
  b__law_named : Binds K A0.d__law_named ["_law_turn", "_law_names"] []
  m__law_named : mg "_law_named" = some (.ref A0.f__law_named)
  F__law_wrong : Fun K "_law_wrong" "_law_wrong" s__law_wrong A0.f__law_wrong A0.d__law_wrong
  b__law_wrong : Binds K A0.d__law_wrong ["_law_value", "_law_which"] []
  m__law_wrong : mg "_law_wrong" = some (.ref A0.f__law_wrong)
  F_law : Fun K "law" "law" s_law A0.f_law A0.d_law
  b_law : Binds K A0.d_law ["_law_script"] []
  m_law : mg "law" = some (.ref A0.f_law)
  c_MOST_TIES : mg "MOST_TIES" = some (.int 6 A0.t_MOST_TIES)
  z_all : mg "all" = none
  z_bool : mg "bool" = none
  z_enumerate : mg "enumerate" = none
  z_int : mg "int" = none
  z_isinstance : mg "isinstance" = none
  z_len : mg "len" = none
  z_list : mg "list" = none
  z_min : mg "min" = none
  z_range : mg "range" = none
  z_set : mg "set" = none
  z_sorted : mg "sorted" = none
  z_tuple : mg "tuple" = none
  m_BadPlane : mg "BadPlane" = some (.ref A0.C_BadPlane)
  e_BadPlane : EcK K A0.C_BadPlane
  n_BadPlane : EcN K A0.C_BadPlane
  m_RootError : mg "RootError" = some (.ref A0.C_RootError)
  x_BadPlane_BadPlane : PySem.W.exmOne K (.ref A0.C_BadPlane) (.ref A0.C_BadPlane) = some true
  k_BadPlane_RootError : PySem.W.kitOne K (.ref A0.C_BadPlane) (.ref A0.C_RootError) = some true
  un : True
section
variable {P : Program} {w : World} {K : PySem.W.Frag} {mg : Str → Option Value} {base : Heap} {A0 : Ad}
theorem w__law_draws (Ev : Evd P w K mg base A0) (cdv : Value) (A : Around) (outer : List Env) (s : Shared) (H : Hp) (E : XK) (hr : Room 0 (A.deeper (envOfC "_law_draws" (defScope s__law_draws) s.heap.objs.size A0.f__law_draws cdv))) :
    XSs ⟨K, mg⟩ (fun _ : Unit => cxOf (L2.CX P w) P w K mg base ["_law_script"] "_law_draws" (defScope s__law_draws) A0.f__law_draws cdv A outer s H E) (fun cls d _ H => E cls d H) [0] (defBody s__law_draws) g__law_draws :=
  (xss_one (xs_ret (xe_lst (xbs_cons (xb_of (xe_callTy (fun _ => call_list_of) prm_list (fun _ => rfl) (fun _ => Ev.z_list) (by decide +kernel) (xbs_cons (xb_var fun _ => pv 0) xbs_nil (fun _ => rfl)) (by decide) rfl (fun _ => rfl) (fun _ => rfl))) (xbs_cons (xb_of xe_int) (xbs_cons (xb_of xe_int) (xbs_cons (xb_of xe_int) xbs_nil (fun _ => rfl)) (fun _ => rfl)) (fun _ => rfl)) (fun _ => rfl)))))
theorem o__law_draws (Ev : Evd P w K mg base A0) (h : ∀ cs o, m__law_draws cs = some o → ∃ n out, g__law_draws n (startR 1 cs) = some out ∧ fin [true] out = some o) : FnOk P w K mg base (L2.CX P w) 1 A0.f__law_draws A0.d__law_draws ["_law_script"] (spM ⟨K, mg⟩ 1 m__law_draws) :=
  def_ok (fl := [true]) (Pk := [0]) Ev.F__law_draws sc__law_draws rfl (flB_ok rfl) (by decide) (fun cdv A outer s H E hr => w__law_draws Ev cdv A outer s H E hr) h
theorem w__law_pick (Ev : Evd P w K mg base A0) (cdv : Value) (A : Around) (outer : List Env) (s : Shared) (H : Hp) (E : XK) (hr : Room 0 (A.deeper (envOfC "_law_pick" (defScope s__law_pick) s.heap.objs.size A0.f__law_pick cdv))) :
    XSs ⟨K, mg⟩ (fun _ : Unit => cxOf (L2.CX P w) P w K mg base ["_law_row", "_law_many", "_law_cell", "_law_found"] "_law_pick" (defScope s__law_pick) A0.f__law_pick cdv A outer s H E) (fun cls d _ H => E cls d H) [0, 1] (defBody s__law_pick) g__law_pick :=
  (xss_cons (xs_if (xt_cmp (fun _ => op_eqD hr.units) prm_eq (xb_of (xe_ix (fun _ => ix_seq) prm_ix (xb_var fun _ => pv 0) (xb_of xe_int) (fun _ _ => rfl))) (xb_of xe_int) (nomark _)) (xss_one (xs_if (xt_cmp (fun _ => op_lt) prm_i (xb_of (xe_ix (fun _ => ix_seq) prm_ix (xb_var fun _ => pv 0) (xb_of xe_int) (fun _ _ => rfl))) (xb_of (xe_callB (fun _ => call_lenB) prm_lenA (fun _ => rfl) (fun _ => Ev.z_len) (by decide +kernel) (xbs_cons (xb_of (xe_ix (fun _ => ix_seq) prm_ix (xb_var fun _ => pv 0) (xb_of xe_int) (fun _ _ => rfl))) xbs_nil (fun _ => rfl)) (by decide) rfl (fun _ => rfl) (fun _ => rfl))) (nomark _)) (xss_cons (xs_set (by decide) (fun t h j => ps_set sc__law_pick.nd rfl (by first | exact .inl rfl | exact .inr rfl) (h j) rfl (by first | exact .inl rfl | exact .inr rfl)) (xe_ix (fun _ => ix_seq) prm_ix (xb_of (xe_ix (fun _ => ix_seq) prm_ix (xb_var fun _ => pv 0) (xb_of xe_int) (fun _ _ => rfl))) (xb_of (xe_ix (fun _ => ix_seq) prm_ix (xb_var fun _ => pv 0) (xb_of xe_int) (fun _ _ => rfl))) (fun _ _ => rfl))) (xss_cons (xs_setIx (fun _ => pv 0) (xb_of xe_int) (xb_of (xe_bin (fun _ => op_addA) prm_add (xb_of (xe_ix (fun _ => ix_seq) prm_ix (xb_var fun _ => pv 0) (xb_of xe_int) (fun _ _ => rfl))) (xb_of xe_int))) (fun _ => rfl) (fun _ => rfl) (fun _ => rfl) (fun _ _ => rfl)) (xss_one (xs_if (xt_cmp (fun _ => op_ge) prm_i (xb_var fun _ => pv 2) (xb_of (xe_bin (fun _ => op_pow) prm_pow (xb_of xe_int) (xb_of xe_int))) (nomark _)) (xss_one (xs_setIx (fun _ => pv 0) (xb_of xe_int) (xb_var fun _ => pv 2) (fun _ => rfl) (fun _ => rfl) (fun _ => rfl) (fun _ _ => rfl))) (xss_one (xs_setIx (fun _ => pv 0) (xb_of xe_int) (xb_of (xe_bin (fun _ => op_modN) prm_mod (xb_of (xe_callTy (fun _ => call_int1) prm_int (fun _ => rfl) (fun _ => Ev.z_int) (by decide +kernel) (xbs_cons (xb_of (xe_bin (fun _ => op_addA) prm_add (xb_of (xe_bin (fun _ => op_addA) prm_add (xb_of (xe_bin (fun _ => op_mulA) prm_mul (xb_of (xe_ix (fun _ => ix_seq) prm_ix (xb_var fun _ => pv 0) (xb_of xe_int) (fun _ _ => rfl))) (xb_of xe_int))) (xb_of (xe_bin (fun _ => op_mulA) prm_mul (xb_var fun _ => pv 2) (xb_of xe_int))))) (xb_of xe_int))) xbs_nil (fun _ => rfl)) (by decide) rfl (fun _ => rfl) (fun _ => rfl))) (xb_of xe_int))) (fun _ => rfl) (fun _ => rfl) (fun _ => rfl) (fun _ _ => rfl))))))) (xss_one (xs_setIx (fun _ => pv 0) (xb_of xe_int) (xb_of (xe_bin (fun _ => op_modN) prm_mod (xb_of (xe_callTy (fun _ => call_int1) prm_int (fun _ => rfl) (fun _ => Ev.z_int) (by decide +kernel) (xbs_cons (xb_of (xe_bin (fun _ => op_addA) prm_add (xb_of (xe_bin (fun _ => op_mulA) prm_mul (xb_of (xe_ix (fun _ => ix_seq) prm_ix (xb_var fun _ => pv 0) (xb_of xe_int) (fun _ _ => rfl))) (xb_of xe_int))) (xb_of xe_int))) xbs_nil (fun _ => rfl)) (by decide) rfl (fun _ => rfl) (fun _ => rfl))) (xb_of xe_int))) (fun _ => rfl) (fun _ => rfl) (fun _ => rfl) (fun _ _ => rfl))))) xss_nil) (xss_cons (xs_if (xt_cmp (fun _ => op_gt) prm_i (xb_of (xe_ix (fun _ => ix_seq) prm_ix (xb_var fun _ => pv 0) (xb_of xe_int) (fun _ _ => rfl))) (xb_of xe_int) (nomark _)) (xss_cons (xs_set (by decide) (fun t h j => ps_set sc__law_pick.nd rfl (by first | exact .inl rfl | exact .inr rfl) (h j) rfl (by first | exact .inl rfl | exact .inr rfl)) (xe_bin (fun _ => op_modN) prm_mod (xb_of (xe_callTy (fun _ => call_int1) prm_int (fun _ => rfl) (fun _ => Ev.z_int) (by decide +kernel) (xbs_cons (xb_of (xe_ix (fun _ => ix_seq) prm_ix (xb_var fun _ => pv 0) (xb_of xe_int) (fun _ _ => rfl))) xbs_nil (fun _ => rfl)) (by decide) rfl (fun _ => rfl) (fun _ => rfl))) (xb_var fun _ => pv 1))) (xss_cons (xs_setIx (fun _ => pv 0) (xb_of xe_int) (xb_of (xe_bin (fun _ => op_fdivB) prm_fdiv (xb_of (xe_ix (fun _ => ix_seq) prm_ix (xb_var fun _ => pv 0) (xb_of xe_int) (fun _ _ => rfl))) (xb_var fun _ => pv 1))) (fun _ => rfl) (fun _ => rfl) (fun _ => rfl) (fun _ _ => rfl)) (xss_one (xs_ret (xe_mv fun _ => pv 3))))) xss_nil) (xss_one (xs_ret (xe_bin (fun _ => op_modN) prm_mod (xb_of (xe_bin (fun _ => op_modN) prm_mod (xb_of (xe_callTy (fun _ => call_int1) prm_int (fun _ => rfl) (fun _ => Ev.z_int) (by decide +kernel) (xbs_cons (xb_of (xe_bin (fun _ => op_mulA) prm_mul (xb_of (xe_ix (fun _ => ix_seq) prm_ix (xb_var fun _ => pv 0) (xb_of xe_int) (fun _ _ => rfl))) (xb_of xe_int))) xbs_nil (fun _ => rfl)) (by decide) rfl (fun _ => rfl) (fun _ => rfl))) (xb_of xe_int))) (xb_var fun _ => pv 1))))))
theorem o__law_pick (Ev : Evd P w K mg base A0) (h : ∀ cs o, m__law_pick cs = some o → ∃ n out, g__law_pick n (startR 4 cs) = some out ∧ fin [true, true] out = some o) : FnOk P w K mg base (L2.CX P w) 1 A0.f__law_pick A0.d__law_pick ["_law_row", "_law_many"] (spM ⟨K, mg⟩ 2 m__law_pick) :=
  def_ok (fl := [true, true]) (Pk := [0, 1]) Ev.F__law_pick sc__law_pick rfl (flB_ok rfl) (by decide) (fun cdv A outer s H E hr => w__law_pick Ev cdv A outer s H E hr) h
theorem w__law_grown (Ev : Evd P w K mg base A0) (k__law_pick : FnOk P w K mg base (L2.CX P w) 1 A0.f__law_pick A0.d__law_pick ["_law_row", "_law_many"] (spM ⟨K, mg⟩ 2 m__law_pick)) (cdv : Value) (A : Around) (outer : List Env) (s : Shared) (H : Hp) (E : XK) (hr : Room 1 (A.deeper (envOfC "_law_grown" (defScope s__law_grown) s.heap.objs.size A0.f__law_grown cdv))) :
    XSs ⟨K, mg⟩ (fun _ : Unit => cxOf (L2.CX P w) P w K mg base ["_law_row", "_law_most", "_law_first", "_law_second", "_law_tie", "_law_spot", "_law_kind", "_law_mine", "_law_other"] "_law_grown" (defScope s__law_grown) A0.f__law_grown cdv A outer s H E) (fun cls d _ H => E cls d H) [0, 1] (defBody s__law_grown) g__law_grown :=
  (xss_cons (xs_parA (by decide) (by decide) (fun _ => rfl) (by first | exact .inl (fun t u h1 h2 k => ps_par rfl sc__law_grown.nd rfl rfl (by decide) rfl rfl (pa_cons (h1 k) (pa_cons (h2 k) pa_nil)) rfl) | exact .inr (fun t u h1 h2 k => ps_asg (pe_tup (pa_cons (h1 k) (pa_cons (h2 k) pa_nil))) (pg_tup rfl (pgs_cons (pg_name sc__law_grown.nd rfl (by first | exact .inl rfl | exact .inr rfl) (by first | exact .inl rfl | exact .inr rfl)) (pgs_cons (pg_name sc__law_grown.nd rfl (by first | exact .inl rfl | exact .inr rfl) (by first | exact .inl rfl | exact .inr rfl)) pgs_nil))))) (xe_lst (xbs_cons (xb_of xe_int) xbs_nil (fun _ => rfl))) (xe_lst (xbs_cons (xb_of xe_int) xbs_nil (fun _ => rfl)))) (xss_cons (xs_for (fun _ => passes_of (K := fun e s'' => L2.CX P w outer H s E e s'') (E₁ := fun e' s'' => L2.CX P w outer H s E e' s'') rfl) (fun _ => rfl) (xi_rng2 (fun _ => rfl) (fun _ => Ev.z_range) (xb_of xe_int) (xb_of (xe_bin (fun _ => op_addA) prm_add (xb_of xe_int) (xb_of (xe_call (fun _ => k__law_pick) (fun _ => hr.mono (by decide)) (fun _ => rfl) (fun _ => Ev.m__law_pick) (fun _ => Ev.F__law_pick.kp) (fun _ => Ev.b__law_pick) (fun _ => takes_of rfl rfl rfl rfl) (xbs_cons (xb_var fun _ => pv 0) (xbs_cons (xb_var fun _ => pv 1) xbs_nil (fun _ => rfl)) (fun _ => rfl)) (len_cons (len_cons (fun _ _ _ _ => len_nil))) rfl (fun _ => rfl) (fun _ => rfl))))) (fun _ => rfl) (fun _ => rfl)) (xg_name (by decide) (fun _ => pg_name sc__law_grown.nd rfl (by first | exact .inl rfl | exact .inr rfl) (by first | exact .inl rfl | exact .inr rfl))) (xss_cons (xs_parA (by decide) (by decide) (fun _ => rfl) (by first | exact .inl (fun t u h1 h2 k => ps_par rfl sc__law_grown.nd rfl rfl (by decide) rfl rfl (pa_cons (h1 k) (pa_cons (h2 k) pa_nil)) rfl) | exact .inr (fun t u h1 h2 k => ps_asg (pe_tup (pa_cons (h1 k) (pa_cons (h2 k) pa_nil))) (pg_tup rfl (pgs_cons (pg_name sc__law_grown.nd rfl (by first | exact .inl rfl | exact .inr rfl) (by first | exact .inl rfl | exact .inr rfl)) (pgs_cons (pg_name sc__law_grown.nd rfl (by first | exact .inl rfl | exact .inr rfl) (by first | exact .inl rfl | exact .inr rfl)) pgs_nil))))) (xe_call (fun _ => k__law_pick) (fun _ => hr.mono (by decide)) (fun _ => rfl) (fun _ => Ev.m__law_pick) (fun _ => Ev.F__law_pick.kp) (fun _ => Ev.b__law_pick) (fun _ => takes_of rfl rfl rfl rfl) (xbs_cons (xb_var fun _ => pv 0) (xbs_cons (xb_var fun _ => pv 4) xbs_nil (fun _ => rfl)) (fun _ => rfl)) (len_cons (len_cons (fun _ _ _ _ => len_nil))) rfl (fun _ => rfl) (fun _ => rfl)) (xe_call (fun _ => k__law_pick) (fun _ => hr.mono (by decide)) (fun _ => rfl) (fun _ => Ev.m__law_pick) (fun _ => Ev.F__law_pick.kp) (fun _ => Ev.b__law_pick) (fun _ => takes_of rfl rfl rfl rfl) (xbs_cons (xb_var fun _ => pv 0) (xbs_cons (xb_of xe_int) xbs_nil (fun _ => rfl)) (fun _ => rfl)) (len_cons (len_cons (fun _ _ _ _ => len_nil))) rfl (fun _ => rfl) (fun _ => rfl))) (xss_grow (fun _ => rfl) (by decide) (by decide) (by decide) (fun _ => ps_par rfl sc__law_grown.nd rfl rfl (by decide) rfl rfl (pa_cons (pe_ix ix_list (pe_lst (pa_cons (pv 2) (pa_cons (pv 3) pa_nil))) (pv 6) (fun _ _ => rfl)) (pa_cons (pe_ix ix_list (pe_lst (pa_cons (pv 3) (pa_cons (pv 2) pa_nil))) (pv 6) (fun _ _ => rfl)) pa_nil)) rfl) (fun _ => ps_expr (pe_bm PySem.F.plainAttrs_list PySem.F.slot_list_append PySem.F.type_list_append mt_append (pv 7) (pa_cons (pe_ix ix_list (pv 7) (pv 5) (fun _ _ => rfl)) pa_nil))) (fun _ => ps_asg (pv 4) (pg_sub (pv 7) (pv 5) set_list (fun _ => rfl))) (fun _ => ps_expr (pe_bm PySem.F.plainAttrs_list PySem.F.slot_list_append PySem.F.type_list_append mt_append (pv 8) (pa_cons (pv 4) pa_nil))))) (fun _ _ => rfl)) (xss_one (xs_ret (xe_tup (xbs_cons (xb_of (xe_callTy (fun _ => call_tuple_of) prm_tuple (fun _ => rfl) (fun _ => Ev.z_tuple) (by decide +kernel) (xbs_cons (xb_var fun _ => pv 2) xbs_nil (fun _ => rfl)) (by decide) rfl (fun _ => rfl) (fun _ => rfl))) (xbs_cons (xb_of (xe_callTy (fun _ => call_tuple_of) prm_tuple (fun _ => rfl) (fun _ => Ev.z_tuple) (by decide +kernel) (xbs_cons (xb_var fun _ => pv 3) xbs_nil (fun _ => rfl)) (by decide) rfl (fun _ => rfl) (fun _ => rfl))) xbs_nil (fun _ => rfl)) (fun _ => rfl)))))))
theorem o__law_grown (Ev : Evd P w K mg base A0) (k__law_pick : FnOk P w K mg base (L2.CX P w) 1 A0.f__law_pick A0.d__law_pick ["_law_row", "_law_many"] (spM ⟨K, mg⟩ 2 m__law_pick)) (h : ∀ cs o, m__law_grown cs = some o → ∃ n out, g__law_grown n (startR 9 cs) = some out ∧ fin [true, true] out = some o) : FnOk P w K mg base (L2.CX P w) 2 A0.f__law_grown A0.d__law_grown ["_law_row", "_law_most"] (spM ⟨K, mg⟩ 2 m__law_grown) :=
  def_ok (fl := [true, true]) (Pk := [0, 1]) Ev.F__law_grown sc__law_grown rfl (flB_ok rfl) (by decide) (fun cdv A outer s H E hr => w__law_grown Ev k__law_pick cdv A outer s H E hr) h
theorem w__law_orders (Ev : Evd P w K mg base A0) (cdv : Value) (A : Around) (outer : List Env) (s : Shared) (H : Hp) (E : XK) (hr : Room 0 (A.deeper (envOfC "_law_orders" (defScope s__law_orders) s.heap.objs.size A0.f__law_orders cdv))) :
    XSs ⟨K, mg⟩ (fun _ : Unit => cxOf (L2.CX P w) P w K mg base ["_law_many", "_law_found", "_law_k", "_law_longer", "_law_one", "_law_j"] "_law_orders" (defScope s__law_orders) A0.f__law_orders cdv A outer s H E) (fun cls d _ H => E cls d H) [0] (defBody s__law_orders) g__law_orders :=
  (xss_cons (xs_set (by decide) (fun t h j => ps_set sc__law_orders.nd rfl (by first | exact .inl rfl | exact .inr rfl) (h j) rfl (by first | exact .inl rfl | exact .inr rfl)) (xe_lst (xbs_cons (xb_of (xe_tup xbs_nil)) xbs_nil (fun _ => rfl)))) (xss_cons (xs_for (fun _ => passes_of (K := fun e s'' => L2.CX P w outer H s E e s'') (E₁ := fun e' s'' => L2.CX P w outer H s E e' s'') rfl) (fun _ => rfl) (xi_rng1 (fun _ => rfl) (fun _ => Ev.z_range) (xb_var fun _ => pv 0) (fun _ => rfl)) (xg_name (by decide) (fun _ => pg_name sc__law_orders.nd rfl (by first | exact .inl rfl | exact .inr rfl) (by first | exact .inl rfl | exact .inr rfl))) (xss_cons (xs_set (by decide) (fun t h j => ps_set sc__law_orders.nd rfl (by first | exact .inl rfl | exact .inr rfl) (h j) rfl (by first | exact .inl rfl | exact .inr rfl)) (xe_lst xbs_nil)) (xss_cons (xs_for (fun _ => passes_of (K := fun e s'' => L2.CX P w outer H s E e s'') (E₁ := fun e' s'' => L2.CX P w outer H s E e' s'') rfl) (fun _ => rfl) (xi_seq (fun _ => rfl) (xb_var fun _ => pv 1)) (xg_name (by decide) (fun _ => pg_name sc__law_orders.nd rfl (by first | exact .inl rfl | exact .inr rfl) (by first | exact .inl rfl | exact .inr rfl))) (xss_one (xs_set (by decide) (fun t h j => ps_set sc__law_orders.nd rfl (by first | exact .inl rfl | exact .inr rfl) (h j) rfl (by first | exact .inl rfl | exact .inr rfl)) (xe_bin (fun _ => op_addA) prm_add (xb_var fun _ => pv 3) (xb_of (xe_lc1 (own := [("_law_j", 5)]) (N := 6) (fun _ => rfl) (fun _ => sc__law_orders.nd) (xi_rng1 (fun _ => rfl) (fun _ => Ev.z_range) (xb_var fun _ => pv 0) (fun _ => rfl)) (fun _ => blkB_ok rfl) (xg_name (by decide) (fun _ => pg_name sc__law_orders.nd rfl (by first | exact .inl rfl | exact .inr rfl) (by first | exact .inl rfl | exact .inr rfl))) (xt_cmp (fun _ => op_notInA (u65 hr)) prm_in (xb_var fun _ => pv 5) (xb_var fun _ => pv 4) rfl) (xb_of (xe_bin (fun _ => op_addA) prm_add (xb_var fun _ => pv 4) (xb_of (xe_tup (xbs_cons (xb_var fun _ => pv 5) xbs_nil (fun _ => rfl)))))) (fun _ _ => rfl)))))) (fun _ _ => rfl)) (xss_one (xs_set (by decide) (fun t h j => ps_set sc__law_orders.nd rfl (by first | exact .inl rfl | exact .inr rfl) (h j) rfl (by first | exact .inl rfl | exact .inr rfl)) (xe_fz (xb_var fun _ => pv 3)))))) (fun _ _ => rfl)) (xss_one (xs_ret (xe_mv fun _ => pv 1)))))
theorem o__law_orders (Ev : Evd P w K mg base A0) (h : ∀ cs o, m__law_orders cs = some o → ∃ n out, g__law_orders n (startR 6 cs) = some out ∧ fin [true] out = some o) : FnOk P w K mg base (L2.CX P w) 1 A0.f__law_orders A0.d__law_orders ["_law_many"] (spM ⟨K, mg⟩ 1 m__law_orders) :=
  def_ok (fl := [true]) (Pk := [0]) Ev.F__law_orders sc__law_orders rfl (flB_ok rfl) (by decide) (fun cdv A outer s H E hr => w__law_orders Ev cdv A outer s H E hr) h
theorem w_rounds_of (Ev : Evd P w K mg base A0) (cdv : Value) (A : Around) (outer : List Env) (s : Shared) (H : Hp) (E : XK) (hr : Room 0 (A.deeper (envOfC "rounds_of" (defScope s_rounds_of) s.heap.objs.size A0.f_rounds_of cdv))) :
    XSs ⟨K, mg⟩ (fun _ : Unit => cxOf (L2.CX P w) P w K mg base ["turn", "done", "found", "begun", "here", "size"] "rounds_of" (defScope s_rounds_of) A0.f_rounds_of cdv A outer s H E) (fun cls d _ H => E cls d H) [0] (defBody s_rounds_of) g_rounds_of :=
  (xss_cons (xs_parA (by decide) (by decide) (fun _ => rfl) (by first | exact .inl (fun t u h1 h2 k => ps_par rfl sc_rounds_of.nd rfl rfl (by decide) rfl rfl (pa_cons (h1 k) (pa_cons (h2 k) pa_nil)) rfl) | exact .inr (fun t u h1 h2 k => ps_asg (pe_tup (pa_cons (h1 k) (pa_cons (h2 k) pa_nil))) (pg_tup rfl (pgs_cons (pg_name sc_rounds_of.nd rfl (by first | exact .inl rfl | exact .inr rfl) (by first | exact .inl rfl | exact .inr rfl)) (pgs_cons (pg_name sc_rounds_of.nd rfl (by first | exact .inl rfl | exact .inr rfl) (by first | exact .inl rfl | exact .inr rfl)) pgs_nil))))) xe_dct0 (xe_lst xbs_nil)) (xss_cons (xs_for (fun _ => passes_of (K := fun e s'' => L2.CX P w outer H s E e s'') (E₁ := fun e' s'' => L2.CX P w outer H s E e' s'') rfl) (fun _ => rfl) (xi_rng1 (fun _ => rfl) (fun _ => Ev.z_range) (xb_of (xe_callB (fun _ => call_lenB) prm_lenA (fun _ => rfl) (fun _ => Ev.z_len) (by decide +kernel) (xbs_cons (xb_var fun _ => pv 0) xbs_nil (fun _ => rfl)) (by decide) rfl (fun _ => rfl) (fun _ => rfl))) (fun _ => rfl)) (xg_name (by decide) (fun _ => pg_name sc_rounds_of.nd rfl (by first | exact .inl rfl | exact .inr rfl) (by first | exact .inl rfl | exact .inr rfl))) (xss_one (xs_if (xt_ninK (fun _ => u1 hr) (xb_var fun _ => pv 3) (xb_var fun _ => pv 1) rfl) (xss_cons (xs_parA (by decide) (by decide) (fun _ => rfl) (by first | exact .inl (fun t u h1 h2 k => ps_par rfl sc_rounds_of.nd rfl rfl (by decide) rfl rfl (pa_cons (h1 k) (pa_cons (h2 k) pa_nil)) rfl) | exact .inr (fun t u h1 h2 k => ps_asg (pe_tup (pa_cons (h1 k) (pa_cons (h2 k) pa_nil))) (pg_tup rfl (pgs_cons (pg_name sc_rounds_of.nd rfl (by first | exact .inl rfl | exact .inr rfl) (by first | exact .inl rfl | exact .inr rfl)) (pgs_cons (pg_name sc_rounds_of.nd rfl (by first | exact .inl rfl | exact .inr rfl) (by first | exact .inl rfl | exact .inr rfl)) pgs_nil))))) (xe_fz (xb_var fun _ => pv 3)) xe_int) (xss_cons (xs_wh (fun _ => passes_of (K := fun e s'' => L2.CX P w outer H s E e s'') (E₁ := fun e' s'' => L2.CX P w outer H s E e' s'') rfl) (xt_ninK (fun _ => u1 hr) (xb_var fun _ => pv 4) (xb_var fun _ => pv 1) rfl) (xss_cons (xs_setIxD (fun _ => u1 hr) (fun _ => pv 1) (xb_var fun _ => pv 4) (xb_of xe_bool) (fun _ => rfl) (fun _ => rfl) (fun _ => rfl) (fun _ _ => rfl)) (xss_one (xs_parA (by decide) (by decide) (fun _ => rfl) (by first | exact .inl (fun t u h1 h2 k => ps_par rfl sc_rounds_of.nd rfl rfl (by decide) rfl rfl (pa_cons (h1 k) (pa_cons (h2 k) pa_nil)) rfl) | exact .inr (fun t u h1 h2 k => ps_asg (pe_tup (pa_cons (h1 k) (pa_cons (h2 k) pa_nil))) (pg_tup rfl (pgs_cons (pg_name sc_rounds_of.nd rfl (by first | exact .inl rfl | exact .inr rfl) (by first | exact .inl rfl | exact .inr rfl)) (pgs_cons (pg_name sc_rounds_of.nd rfl (by first | exact .inl rfl | exact .inr rfl) (by first | exact .inl rfl | exact .inr rfl)) pgs_nil))))) (xe_ix (fun _ => ix_seq) prm_ix (xb_var fun _ => pv 0) (xb_var fun _ => pv 4) (fun _ _ => rfl)) (xe_bin (fun _ => op_addA) prm_add (xb_var fun _ => pv 5) (xb_of xe_int)))))) (xss_one (xs_expr (xb_of (xe_mth (fun _ => rfl) (fun t h j => pe_bm PySem.F.plainAttrs_list PySem.F.slot_list_append PySem.F.type_list_append mt_append (pv 2) (h j)) sm_app (xbs_cons (xb_var fun _ => pv 5) xbs_nil (fun _ => rfl)))) (fun _ => rfl))))) xss_nil)) (fun _ _ => rfl)) (xss_one (xs_ret (xe_callTy (fun _ => call_tuple_of) prm_tuple (fun _ => rfl) (fun _ => Ev.z_tuple) (by decide +kernel) (xbs_cons (xb_of (xe_callB (fun _ => cr_sortedI) prm_sortL (fun _ => rfl) (fun _ => Ev.z_sorted) (by decide +kernel) (xbs_cons (xb_var fun _ => pv 2) xbs_nil (fun _ => rfl)) (by decide) rfl (fun _ => rfl) (fun _ => rfl))) xbs_nil (fun _ => rfl)) (by decide) rfl (fun _ => rfl) (fun _ => rfl))))))
theorem o_rounds_of (Ev : Evd P w K mg base A0) (h : ∀ cs o, m_rounds_of cs = some o → ∃ n out, g_rounds_of n (startR 6 cs) = some out ∧ fin [true] out = some o) : FnOk P w K mg base (L2.CX P w) 1 A0.f_rounds_of A0.d_rounds_of ["turn"] (spM ⟨K, mg⟩ 1 m_rounds_of) :=
  def_ok (fl := [true]) (Pk := [0]) Ev.F_rounds_of sc_rounds_of rfl (flB_ok rfl) (by decide) (fun cdv A outer s H E hr => w_rounds_of Ev cdv A outer s H E hr) h
theorem w_is_from (Ev : Evd P w K mg base A0) (cdv : Value) (A : Around) (outer : List Env) (s : Shared) (H : Hp) (E : XK) (hr : Room 0 (A.deeper (envOfC "is_from" (defScope s_is_from) s.heap.objs.size A0.f_is_from cdv))) :
    XSs ⟨K, mg⟩ (fun _ : Unit => cxOf (L2.CX P w) P w K mg base ["value", "low", "high"] "is_from" (defScope s_is_from) A0.f_is_from cdv A outer s H E) (fun cls d _ H => E cls d H) [0, 1, 2] (defBody s_is_from) g_is_from :=
  (xss_one (xs_ret (xe_and (xe_isi (fun _ => rfl) (fun _ => rfl) (fun _ => Ev.z_isinstance) (fun _ => rfl) (fun _ => Ev.z_int) (by decide +kernel) (by decide) rfl (xb_var fun _ => pv 0) (fun _ => rfl) (fun _ => rfl) (fun _ => rfl)) (xe_and (xe_not (xe_isi (fun _ => rfl) (fun _ => rfl) (fun _ => Ev.z_isinstance) (fun _ => rfl) (fun _ => Ev.z_bool) (by decide +kernel) (by decide) rfl (xb_var fun _ => pv 0) (fun _ => rfl) (fun _ => rfl) (fun _ => rfl))) (xe_one (xe_ch (fun _ => op_le) (fun _ => op_le) prm_i prm_i (xb_var fun _ => pv 1) (xb_var fun _ => pv 0) (xb_var fun _ => pv 2) rfl))))))
theorem o_is_from (Ev : Evd P w K mg base A0) (h : ∀ cs o, m_is_from cs = some o → ∃ n out, g_is_from n (startR 3 cs) = some out ∧ fin [true, true, true] out = some o) : FnOk P w K mg base (L2.CX P w) 1 A0.f_is_from A0.d_is_from ["value", "low", "high"] (spM ⟨K, mg⟩ 3 m_is_from) :=
  def_ok (fl := [true, true, true]) (Pk := [0, 1, 2]) Ev.F_is_from sc_is_from rfl (flB_ok rfl) (by decide) (fun cdv A outer s H E hr => w_is_from Ev cdv A outer s H E hr) h
theorem w_is_turn (Ev : Evd P w K mg base A0) (k_is_from : FnOk P w K mg base (L2.CX P w) 1 A0.f_is_from A0.d_is_from ["value", "low", "high"] (spM ⟨K, mg⟩ 3 m_is_from)) (cdv : Value) (A : Around) (outer : List Env) (s : Shared) (H : Hp) (E : XK) (hr : Room 1 (A.deeper (envOfC "is_turn" (defScope s_is_turn) s.heap.objs.size A0.f_is_turn cdv))) :
    XSs ⟨K, mg⟩ (fun _ : Unit => cxOf (L2.CX P w) P w K mg base ["value", "many", "one"] "is_turn" (defScope s_is_turn) A0.f_is_turn cdv A outer s H E) (fun cls d _ H => E cls d H) [0, 1] (defBody s_is_turn) g_is_turn :=
  (xss_cons (xs_if (xt_w (xw_or (xt_not (xt_val (xe_isi (fun _ => rfl) (fun _ => rfl) (fun _ => Ev.z_isinstance) (fun _ => rfl) (fun _ => Ev.z_tuple) (by decide +kernel) (by decide) rfl (xb_var fun _ => pv 0) (fun _ => rfl) (fun _ => rfl) (fun _ => rfl)) (fun _ _ => rfl))) (xw_or (xt_cmp (fun _ => op_neD hr.units) prm_ne (xb_of (xe_callB (fun _ => call_lenB) prm_lenA (fun _ => rfl) (fun _ => Ev.z_len) (by decide +kernel) (xbs_cons (xb_var fun _ => pv 0) xbs_nil (fun _ => rfl)) (by decide) rfl (fun _ => rfl) (fun _ => rfl))) (xb_var fun _ => pv 1) (nomark _)) (xw_or1 (xt_not (xt_val (xe_callB (fun _ => cr_all rfl) prm_all (fun _ => rfl) (fun _ => Ev.z_all) (by decide +kernel) (xbs_cons (xb_of (xe_lc0 (own := [("one", 2)]) (N := 3) (fun _ => rfl) (fun _ => sc_is_turn.nd) (xi_seq (fun _ => rfl) (xb_var fun _ => pv 0)) (fun _ => blkB_ok rfl) (xg_name (by decide) (fun _ => pg_name sc_is_turn.nd rfl (by first | exact .inl rfl | exact .inr rfl) (by first | exact .inl rfl | exact .inr rfl))) (xb_of (xe_call (fun _ => k_is_from) (fun _ => hr.mono (by decide)) (fun _ => rfl) (fun _ => Ev.m_is_from) (fun _ => Ev.F_is_from.kp) (fun _ => Ev.b_is_from) (fun _ => takes0) (xbs_cons (xb_var fun _ => pv 2) (xbs_cons (xb_of xe_int) (xbs_cons (xb_of (xe_bin (fun _ => op_sub) prm_sub (xb_var fun _ => pv 1) (xb_of xe_int))) xbs_nil (fun _ => rfl)) (fun _ => rfl)) (fun _ => rfl)) (len_cons (len_cons (len_cons (fun _ _ _ _ => len_nil)))) rfl (fun _ => rfl) (fun _ => rfl))) (fun _ _ => rfl))) xbs_nil (fun _ => rfl)) (by decide) rfl (fun _ => rfl) (fun _ => rfl)) (fun _ _ => rfl))))))) (xss_one (xs_ret xe_bool)) xss_nil) (xss_one (xs_ret (xe_cmp (fun _ => op_eqD hr.units) prm_eq (xb_of (xe_callB (fun _ => call_lenB) prm_lenA (fun _ => rfl) (fun _ => Ev.z_len) (by decide +kernel) (xbs_cons (xb_of (xe_dc0 (own := [("one", 2)]) (N := 3) (fun _ => rfl) (fun _ => sc_is_turn.nd) (xi_seq (fun _ => rfl) (xb_var fun _ => pv 0)) (fun _ => blkB_ok rfl) (xg_name (by decide) (fun _ => pg_name sc_is_turn.nd rfl (by first | exact .inl rfl | exact .inr rfl) (by first | exact .inl rfl | exact .inr rfl))) (xb_var fun _ => pv 2) (xb_of xe_bool) (fun _ _ => rfl))) xbs_nil (fun _ => rfl)) (by decide) rfl (fun _ => rfl) (fun _ => rfl))) (xb_var fun _ => pv 1) (nomark _)))))
theorem o_is_turn (Ev : Evd P w K mg base A0) (k_is_from : FnOk P w K mg base (L2.CX P w) 1 A0.f_is_from A0.d_is_from ["value", "low", "high"] (spM ⟨K, mg⟩ 3 m_is_from)) (h : ∀ cs o, m_is_turn cs = some o → ∃ n out, g_is_turn n (startR 3 cs) = some out ∧ fin [true, true] out = some o) : FnOk P w K mg base (L2.CX P w) 2 A0.f_is_turn A0.d_is_turn ["value", "many"] (spM ⟨K, mg⟩ 2 m_is_turn) :=
  def_ok (fl := [true, true]) (Pk := [0, 1]) Ev.F_is_turn sc_is_turn rfl (flB_ok rfl) (by decide) (fun cdv A outer s H E hr => w_is_turn Ev k_is_from cdv A outer s H E hr) h
theorem w_behind (Ev : Evd P w K mg base A0) (cdv : Value) (A : Around) (outer : List Env) (s : Shared) (H : Hp) (E : XK) (hr : Room 0 (A.deeper (envOfC "behind" (defScope s_behind) s.heap.objs.size A0.f_behind cdv))) :
    XSs ⟨K, mg⟩ (fun _ : Unit => cxOf (L2.CX P w) P w K mg base ["first", "second", "tie"] "behind" (defScope s_behind) A0.f_behind cdv A outer s H E) (fun cls d _ H => E cls d H) [0, 1] (defBody s_behind) g_behind :=
  (xss_one (xs_ret (xe_callTy (fun _ => call_tuple_of) prm_tuple (fun _ => rfl) (fun _ => Ev.z_tuple) (by decide +kernel) (xbs_cons (xb_of (xe_lc0 (own := [("tie", 2)]) (N := 3) (fun _ => rfl) (fun _ => sc_behind.nd) (xi_seq (fun _ => rfl) (xb_var fun _ => pv 0)) (fun _ => blkB_ok rfl) (xg_name (by decide) (fun _ => pg_name sc_behind.nd rfl (by first | exact .inl rfl | exact .inr rfl) (by first | exact .inl rfl | exact .inr rfl))) (xb_of (xe_ix (fun _ => ix_seq) prm_ix (xb_var fun _ => pv 1) (xb_var fun _ => pv 2) (fun _ _ => rfl))) (fun _ _ => rfl))) xbs_nil (fun _ => rfl)) (by decide) rfl (fun _ => rfl) (fun _ => rfl))))
theorem o_behind (Ev : Evd P w K mg base A0) (h : ∀ cs o, m_behind cs = some o → ∃ n out, g_behind n (startR 3 cs) = some out ∧ fin [true, true] out = some o) : FnOk P w K mg base (L2.CX P w) 1 A0.f_behind A0.d_behind ["first", "second"] (spM ⟨K, mg⟩ 2 m_behind) :=
  def_ok (fl := [true, true]) (Pk := [0, 1]) Ev.F_behind sc_behind rfl (flB_ok rfl) (by decide) (fun cdv A outer s H E hr => w_behind Ev cdv A outer s H E hr) h
theorem w_is_plane (Ev : Evd P w K mg base A0) (k_is_turn : FnOk P w K mg base (L2.CX P w) 2 A0.f_is_turn A0.d_is_turn ["value", "many"] (spM ⟨K, mg⟩ 2 m_is_turn)) (k_rounds_of : FnOk P w K mg base (L2.CX P w) 1 A0.f_rounds_of A0.d_rounds_of ["turn"] (spM ⟨K, mg⟩ 1 m_rounds_of)) (k_behind : FnOk P w K mg base (L2.CX P w) 1 A0.f_behind A0.d_behind ["first", "second"] (spM ⟨K, mg⟩ 2 m_behind)) (cdv : Value) (A : Around) (outer : List Env) (s : Shared) (H : Hp) (E : XK) (hr : Room 2 (A.deeper (envOfC "is_plane" (defScope s_is_plane) s.heap.objs.size A0.f_is_plane cdv))) :
    XSs ⟨K, mg⟩ (fun _ : Unit => cxOf (L2.CX P w) P w K mg base ["value", "many"] "is_plane" (defScope s_is_plane) A0.f_is_plane cdv A outer s H E) (fun cls d _ H => E cls d H) [0] (defBody s_is_plane) g_is_plane :=
  (xss_cons (xs_if (xt_w (xw_or (xt_not (xt_val (xe_isi (fun _ => rfl) (fun _ => rfl) (fun _ => Ev.z_isinstance) (fun _ => rfl) (fun _ => Ev.z_tuple) (by decide +kernel) (by decide) rfl (xb_var fun _ => pv 0) (fun _ => rfl) (fun _ => rfl) (fun _ => rfl)) (fun _ _ => rfl))) (xw_or (xt_cmp (fun _ => op_neD hr.units) prm_ne (xb_of (xe_callB (fun _ => call_lenB) prm_lenA (fun _ => rfl) (fun _ => Ev.z_len) (by decide +kernel) (xbs_cons (xb_var fun _ => pv 0) xbs_nil (fun _ => rfl)) (by decide) rfl (fun _ => rfl) (fun _ => rfl))) (xb_of xe_int) (nomark _)) (xw_or1 (xt_not (xt_val (xe_isi (fun _ => rfl) (fun _ => rfl) (fun _ => Ev.z_isinstance) (fun _ => rfl) (fun _ => Ev.z_tuple) (by decide +kernel) (by decide) rfl (xb_of (xe_ix (fun _ => ix_seq) prm_ix (xb_var fun _ => pv 0) (xb_of xe_int) (fun _ _ => rfl))) (fun _ => rfl) (fun _ => rfl) (fun _ => rfl)) (fun _ _ => rfl))))))) (xss_one (xs_ret xe_bool)) xss_nil) (xss_cons (xs_set (by decide) (fun t h j => ps_set sc_is_plane.nd rfl (by first | exact .inl rfl | exact .inr rfl) (h j) rfl (by first | exact .inl rfl | exact .inr rfl)) (xe_callB (fun _ => call_lenB) prm_lenA (fun _ => rfl) (fun _ => Ev.z_len) (by decide +kernel) (xbs_cons (xb_of (xe_ix (fun _ => ix_seq) prm_ix (xb_var fun _ => pv 0) (xb_of xe_int) (fun _ _ => rfl))) xbs_nil (fun _ => rfl)) (by decide) rfl (fun _ => rfl) (fun _ => rfl))) (xss_cons (xs_if (xt_w (xw_or (xt_not (xt_ch (fun _ => op_le) (fun _ => op_le) prm_i prm_i (xb_of xe_int) (xb_var fun _ => pv 1) (xb_of (xe_glob (v := .int 6) (fun _ => rfl) (fun _ => Ev.c_MOST_TIES) ⟨_, rfl⟩ (fun _ => .int _) rfl)) rfl)) (xw_or (xt_not (xt_val (xe_call (fun _ => k_is_turn) (fun _ => hr.mono (by decide)) (fun _ => rfl) (fun _ => Ev.m_is_turn) (fun _ => Ev.F_is_turn.kp) (fun _ => Ev.b_is_turn) (fun _ => takes_of rfl rfl rfl rfl) (xbs_cons (xb_of (xe_ix (fun _ => ix_seq) prm_ix (xb_var fun _ => pv 0) (xb_of xe_int) (fun _ _ => rfl))) (xbs_cons (xb_var fun _ => pv 1) xbs_nil (fun _ => rfl)) (fun _ => rfl)) (len_cons (len_cons (fun _ _ _ _ => len_nil))) rfl (fun _ => rfl) (fun _ => rfl)) (fun _ _ => rfl))) (xw_or1 (xt_not (xt_val (xe_call (fun _ => k_is_turn) (fun _ => hr.mono (by decide)) (fun _ => rfl) (fun _ => Ev.m_is_turn) (fun _ => Ev.F_is_turn.kp) (fun _ => Ev.b_is_turn) (fun _ => takes_of rfl rfl rfl rfl) (xbs_cons (xb_of (xe_ix (fun _ => ix_seq) prm_ix (xb_var fun _ => pv 0) (xb_of xe_int) (fun _ _ => rfl))) (xbs_cons (xb_var fun _ => pv 1) xbs_nil (fun _ => rfl)) (fun _ => rfl)) (len_cons (len_cons (fun _ _ _ _ => len_nil))) rfl (fun _ => rfl) (fun _ => rfl)) (fun _ _ => rfl))))))) (xss_one (xs_ret xe_bool)) xss_nil) (xss_cons (xs_if (xt_cmp (fun _ => op_neD hr.units) prm_ne (xb_of (xe_call (fun _ => k_rounds_of) (fun _ => hr.mono (by decide)) (fun _ => rfl) (fun _ => Ev.m_rounds_of) (fun _ => Ev.F_rounds_of.kp) (fun _ => Ev.b_rounds_of) (fun _ => takes_of rfl rfl rfl rfl) (xbs_cons (xb_of (xe_call (fun _ => k_behind) (fun _ => hr.mono (by decide)) (fun _ => rfl) (fun _ => Ev.m_behind) (fun _ => Ev.F_behind.kp) (fun _ => Ev.b_behind) (fun _ => takes_of rfl rfl rfl rfl) (xbs_cons (xb_of (xe_ix (fun _ => ix_seq) prm_ix (xb_var fun _ => pv 0) (xb_of xe_int) (fun _ _ => rfl))) (xbs_cons (xb_of (xe_ix (fun _ => ix_seq) prm_ix (xb_var fun _ => pv 0) (xb_of xe_int) (fun _ _ => rfl))) xbs_nil (fun _ => rfl)) (fun _ => rfl)) (len_cons (len_cons (fun _ _ _ _ => len_nil))) rfl (fun _ => rfl) (fun _ => rfl))) xbs_nil (fun _ => rfl)) (len_cons (fun _ _ _ _ => len_nil)) rfl (fun _ => rfl) (fun _ => rfl))) (xb_of (xe_tup (xbs_cons (xb_var fun _ => pv 1) xbs_nil (fun _ => rfl)))) (nomark _)) (xss_one (xs_ret xe_bool)) xss_nil) (xss_one (xs_ret (xe_cmp (fun _ => op_eqD hr.units) prm_eq (xb_of (xe_bin (fun _ => op_addA) prm_add (xb_of (xe_callB (fun _ => call_lenB) prm_lenA (fun _ => rfl) (fun _ => Ev.z_len) (by decide +kernel) (xbs_cons (xb_of (xe_call (fun _ => k_rounds_of) (fun _ => hr.mono (by decide)) (fun _ => rfl) (fun _ => Ev.m_rounds_of) (fun _ => Ev.F_rounds_of.kp) (fun _ => Ev.b_rounds_of) (fun _ => takes_of rfl rfl rfl rfl) (xbs_cons (xb_of (xe_ix (fun _ => ix_seq) prm_ix (xb_var fun _ => pv 0) (xb_of xe_int) (fun _ _ => rfl))) xbs_nil (fun _ => rfl)) (len_cons (fun _ _ _ _ => len_nil)) rfl (fun _ => rfl) (fun _ => rfl))) xbs_nil (fun _ => rfl)) (by decide) rfl (fun _ => rfl) (fun _ => rfl))) (xb_of (xe_callB (fun _ => call_lenB) prm_lenA (fun _ => rfl) (fun _ => Ev.z_len) (by decide +kernel) (xbs_cons (xb_of (xe_call (fun _ => k_rounds_of) (fun _ => hr.mono (by decide)) (fun _ => rfl) (fun _ => Ev.m_rounds_of) (fun _ => Ev.F_rounds_of.kp) (fun _ => Ev.b_rounds_of) (fun _ => takes_of rfl rfl rfl rfl) (xbs_cons (xb_of (xe_ix (fun _ => ix_seq) prm_ix (xb_var fun _ => pv 0) (xb_of xe_int) (fun _ _ => rfl))) xbs_nil (fun _ => rfl)) (len_cons (fun _ _ _ _ => len_nil)) rfl (fun _ => rfl) (fun _ => rfl))) xbs_nil (fun _ => rfl)) (by decide) rfl (fun _ => rfl) (fun _ => rfl))))) (xb_of (xe_bin (fun _ => op_addA) prm_add (xb_var fun _ => pv 1) (xb_of xe_int))) (nomark _))))))))
theorem o_is_plane (Ev : Evd P w K mg base A0) (k_is_turn : FnOk P w K mg base (L2.CX P w) 2 A0.f_is_turn A0.d_is_turn ["value", "many"] (spM ⟨K, mg⟩ 2 m_is_turn)) (k_rounds_of : FnOk P w K mg base (L2.CX P w) 1 A0.f_rounds_of A0.d_rounds_of ["turn"] (spM ⟨K, mg⟩ 1 m_rounds_of)) (k_behind : FnOk P w K mg base (L2.CX P w) 1 A0.f_behind A0.d_behind ["first", "second"] (spM ⟨K, mg⟩ 2 m_behind)) (h : ∀ cs o, m_is_plane cs = some o → ∃ n out, g_is_plane n (startR 2 cs) = some out ∧ fin [true] out = some o) : FnOk P w K mg base (L2.CX P w) 3 A0.f_is_plane A0.d_is_plane ["value"] (spM ⟨K, mg⟩ 1 m_is_plane) :=
  def_ok (fl := [true]) (Pk := [0]) Ev.F_is_plane sc_is_plane rfl (flB_ok rfl) (by decide) (fun cdv A outer s H E hr => w_is_plane Ev k_is_turn k_rounds_of k_behind cdv A outer s H E hr) h
theorem w_check_plane (Ev : Evd P w K mg base A0) (k_is_plane : FnOk P w K mg base (L2.CX P w) 3 A0.f_is_plane A0.d_is_plane ["value"] (spM ⟨K, mg⟩ 1 m_is_plane)) (cdv : Value) (A : Around) (outer : List Env) (s : Shared) (H : Hp) (E : XK) (hr : Room 3 (A.deeper (envOfC "check_plane" (defScope s_check_plane) s.heap.objs.size A0.f_check_plane cdv))) :
    XSs ⟨K, mg⟩ (fun _ : Unit => cxOf (L2.CX P w) P w K mg base ["value"] "check_plane" (defScope s_check_plane) A0.f_check_plane cdv A outer s H E) (fun cls d _ H => E cls d H) [0] (defBody s_check_plane) g_check_plane :=
  (xss_one (xs_if (xt_not (xt_val (xe_call (fun _ => k_is_plane) (fun _ => hr.mono (by decide)) (fun _ => rfl) (fun _ => Ev.m_is_plane) (fun _ => Ev.F_is_plane.kp) (fun _ => Ev.b_is_plane) (fun _ => takes_of rfl rfl rfl rfl) (xbs_cons (xb_var fun _ => pv 0) xbs_nil (fun _ => rfl)) (len_cons (fun _ _ _ _ => len_nil)) rfl (fun _ => rfl) (fun _ => rfl)) (fun _ _ => rfl))) (xss_one (xs_raise0 (fun _ => rfl) (fun _ => rfl) (fun _ => rfl) (fun _ => takes_of rfl rfl rfl rfl) Ev.n_BadPlane Ev.m_BadPlane (fun _ => rfl) rfl)) xss_nil))
theorem o_check_plane (Ev : Evd P w K mg base A0) (k_is_plane : FnOk P w K mg base (L2.CX P w) 3 A0.f_is_plane A0.d_is_plane ["value"] (spM ⟨K, mg⟩ 1 m_is_plane)) (h : ∀ cs o, m_check_plane cs = some o → ∃ n out, g_check_plane n (startR 1 cs) = some out ∧ fin [true] out = some o) : FnOk P w K mg base (L2.CX P w) 4 A0.f_check_plane A0.d_check_plane ["value"] (spM ⟨K, mg⟩ 1 m_check_plane) :=
  def_ok (fl := [true]) (Pk := [0]) Ev.F_check_plane sc_check_plane rfl (flB_ok rfl) (by decide) (fun cdv A outer s H E hr => w_check_plane Ev k_is_plane cdv A outer s H E hr) h
theorem w_degrees_of (Ev : Evd P w K mg base A0) (k_check_plane : FnOk P w K mg base (L2.CX P w) 4 A0.f_check_plane A0.d_check_plane ["value"] (spM ⟨K, mg⟩ 1 m_check_plane)) (k_rounds_of : FnOk P w K mg base (L2.CX P w) 1 A0.f_rounds_of A0.d_rounds_of ["turn"] (spM ⟨K, mg⟩ 1 m_rounds_of)) (cdv : Value) (A : Around) (outer : List Env) (s : Shared) (H : Hp) (E : XK) (hr : Room 4 (A.deeper (envOfC "degrees_of" (defScope s_degrees_of) s.heap.objs.size A0.f_degrees_of cdv))) :
    XSs ⟨K, mg⟩ (fun _ : Unit => cxOf (L2.CX P w) P w K mg base ["value"] "degrees_of" (defScope s_degrees_of) A0.f_degrees_of cdv A outer s H E) (fun cls d _ H => E cls d H) [0] (defBody s_degrees_of) g_degrees_of :=
  (xss_cons (xs_expr (xb_of (xe_call (fun _ => k_check_plane) (fun _ => hr.mono (by decide)) (fun _ => rfl) (fun _ => Ev.m_check_plane) (fun _ => Ev.F_check_plane.kp) (fun _ => Ev.b_check_plane) (fun _ => takes_of rfl rfl rfl rfl) (xbs_cons (xb_var fun _ => pv 0) xbs_nil (fun _ => rfl)) (len_cons (fun _ _ _ _ => len_nil)) rfl (fun _ => rfl) (fun _ => rfl))) (fun _ => rfl)) (xss_one (xs_ret (xe_tup (xbs_cons (xb_of (xe_call (fun _ => k_rounds_of) (fun _ => hr.mono (by decide)) (fun _ => rfl) (fun _ => Ev.m_rounds_of) (fun _ => Ev.F_rounds_of.kp) (fun _ => Ev.b_rounds_of) (fun _ => takes_of rfl rfl rfl rfl) (xbs_cons (xb_of (xe_ix (fun _ => ix_seq) prm_ix (xb_var fun _ => pv 0) (xb_of xe_int) (fun _ _ => rfl))) xbs_nil (fun _ => rfl)) (len_cons (fun _ _ _ _ => len_nil)) rfl (fun _ => rfl) (fun _ => rfl))) (xbs_cons (xb_of (xe_call (fun _ => k_rounds_of) (fun _ => hr.mono (by decide)) (fun _ => rfl) (fun _ => Ev.m_rounds_of) (fun _ => Ev.F_rounds_of.kp) (fun _ => Ev.b_rounds_of) (fun _ => takes_of rfl rfl rfl rfl) (xbs_cons (xb_of (xe_ix (fun _ => ix_seq) prm_ix (xb_var fun _ => pv 0) (xb_of xe_int) (fun _ _ => rfl))) xbs_nil (fun _ => rfl)) (len_cons (fun _ _ _ _ => len_nil)) rfl (fun _ => rfl) (fun _ => rfl))) xbs_nil (fun _ => rfl)) (fun _ => rfl))))))
theorem o_degrees_of (Ev : Evd P w K mg base A0) (k_check_plane : FnOk P w K mg base (L2.CX P w) 4 A0.f_check_plane A0.d_check_plane ["value"] (spM ⟨K, mg⟩ 1 m_check_plane)) (k_rounds_of : FnOk P w K mg base (L2.CX P w) 1 A0.f_rounds_of A0.d_rounds_of ["turn"] (spM ⟨K, mg⟩ 1 m_rounds_of)) (h : ∀ cs o, m_degrees_of cs = some o → ∃ n out, g_degrees_of n (startR 1 cs) = some out ∧ fin [true] out = some o) : FnOk P w K mg base (L2.CX P w) 5 A0.f_degrees_of A0.d_degrees_of ["value"] (spM ⟨K, mg⟩ 1 m_degrees_of) :=
  def_ok (fl := [true]) (Pk := [0]) Ev.F_degrees_of sc_degrees_of rfl (flB_ok rfl) (by decide) (fun cdv A outer s H E hr => w_degrees_of Ev k_check_plane k_rounds_of cdv A outer s H E hr) h
theorem w_renamed (Ev : Evd P w K mg base A0) (cdv : Value) (A : Around) (outer : List Env) (s : Shared) (H : Hp) (E : XK) (hr : Room 0 (A.deeper (envOfC "renamed" (defScope s_renamed) s.heap.objs.size A0.f_renamed cdv))) :
    XSs ⟨K, mg⟩ (fun _ : Unit => cxOf (L2.CX P w) P w K mg base ["turn", "names", "found", "tie", "there"] "renamed" (defScope s_renamed) A0.f_renamed cdv A outer s H E) (fun cls d _ H => E cls d H) [0, 1] (defBody s_renamed) g_renamed :=
  (xss_cons (xs_set (by decide) (fun t h j => ps_set sc_renamed.nd rfl (by first | exact .inl rfl | exact .inr rfl) (h j) rfl (by first | exact .inl rfl | exact .inr rfl)) (xe_dc0 (own := [("tie", 3), ("there", 4)]) (N := 5) (fun _ => rfl) (fun _ => sc_renamed.nd) (xi_enum (fun _ => rfl) (fun _ => rfl) (fun _ => Ev.z_enumerate) (xb_var fun _ => pv 0) (fun _ => rfl)) (fun _ => blkB_ok rfl) (xg_tup (fun _ => rfl) (fun _ => rfl) (xgs_cons (xg_name (by decide) (fun _ => pg_name sc_renamed.nd rfl (by first | exact .inl rfl | exact .inr rfl) (by first | exact .inl rfl | exact .inr rfl))) (xgs_cons (xg_name (by decide) (fun _ => pg_name sc_renamed.nd rfl (by first | exact .inl rfl | exact .inr rfl) (by first | exact .inl rfl | exact .inr rfl))) xgs_nil (fun _ => rfl)) (fun _ => rfl)) (fun _ => rfl) (fun _ => rfl)) (xb_of (xe_ix (fun _ => ix_seq) prm_ix (xb_var fun _ => pv 1) (xb_var fun _ => pv 3) (fun _ _ => rfl))) (xb_of (xe_ix (fun _ => ix_seq) prm_ix (xb_var fun _ => pv 1) (xb_var fun _ => pv 4) (fun _ _ => rfl))) (fun _ _ => rfl))) (xss_one (xs_ret (xe_callTy (fun _ => call_tuple_of) prm_tuple (fun _ => rfl) (fun _ => Ev.z_tuple) (by decide +kernel) (xbs_cons (xb_of (xe_lc0 (own := [("tie", 3)]) (N := 5) (fun _ => rfl) (fun _ => sc_renamed.nd) (xi_rng1 (fun _ => rfl) (fun _ => Ev.z_range) (xb_of (xe_callB (fun _ => call_lenB) prm_lenA (fun _ => rfl) (fun _ => Ev.z_len) (by decide +kernel) (xbs_cons (xb_var fun _ => pv 0) xbs_nil (fun _ => rfl)) (by decide) rfl (fun _ => rfl) (fun _ => rfl))) (fun _ => rfl)) (fun _ => blkB_ok rfl) (xg_name (by decide) (fun _ => pg_name sc_renamed.nd rfl (by first | exact .inl rfl | exact .inr rfl) (by first | exact .inl rfl | exact .inr rfl))) (xb_of (xe_ixD (fun _ => u1 hr) (xb_var fun _ => pv 2) (xb_var fun _ => pv 3) (fun _ _ => rfl))) (fun _ _ => rfl))) xbs_nil (fun _ => rfl)) (by decide) rfl (fun _ => rfl) (fun _ => rfl)))))
theorem o_renamed (Ev : Evd P w K mg base A0) (h : ∀ cs o, m_renamed cs = some o → ∃ n out, g_renamed n (startR 5 cs) = some out ∧ fin [true, true] out = some o) : FnOk P w K mg base (L2.CX P w) 1 A0.f_renamed A0.d_renamed ["turn", "names"] (spM ⟨K, mg⟩ 2 m_renamed) :=
  def_ok (fl := [true, true]) (Pk := [0, 1]) Ev.F_renamed sc_renamed rfl (flB_ok rfl) (by decide) (fun cdv A outer s H E hr => w_renamed Ev cdv A outer s H E hr) h
theorem w_all_turns (Ev : Evd P w K mg base A0) (cdv : Value) (A : Around) (outer : List Env) (s : Shared) (H : Hp) (E : XK) (hr : Room 0 (A.deeper (envOfC "all_turns" (defScope s_all_turns) s.heap.objs.size A0.f_all_turns cdv))) :
    XSs ⟨K, mg⟩ (fun _ : Unit => cxOf (L2.CX P w) P w K mg base ["many", "found", "size", "some", "one"] "all_turns" (defScope s_all_turns) A0.f_all_turns cdv A outer s H E) (fun cls d _ H => E cls d H) [0] (defBody s_all_turns) g_all_turns :=
  (xss_cons (xs_set (by decide) (fun t h j => ps_set sc_all_turns.nd rfl (by first | exact .inl rfl | exact .inr rfl) (h j) rfl (by first | exact .inl rfl | exact .inr rfl)) (xe_lst (xbs_cons (xb_of (xe_tup xbs_nil)) xbs_nil (fun _ => rfl)))) (xss_cons (xs_for (fun _ => passes_of (K := fun e s'' => L2.CX P w outer H s E e s'') (E₁ := fun e' s'' => L2.CX P w outer H s E e' s'') rfl) (fun _ => rfl) (xi_rng1 (fun _ => rfl) (fun _ => Ev.z_range) (xb_var fun _ => pv 0) (fun _ => rfl)) (xg_name (by decide) (fun _ => pg_name sc_all_turns.nd rfl (by first | exact .inl rfl | exact .inr rfl) (by first | exact .inl rfl | exact .inr rfl))) (xss_one (xs_setLc2t (own := [("some", 3), ("one", 4)]) (vs1 := [4]) (N := 5) (by decide) (fun _ => rfl) (fun _ => sc_all_turns.nd) (fun _ => rfl) (fun _ => rfl) (fun _ => rfl) (xi_seq (fun _ => rfl) (xb_var fun _ => pv 1)) (fun _ => blkB_ok rfl) (by decide) (xg_name (by decide) (fun _ => pg_name sc_all_turns.nd rfl (by first | exact .inl rfl | exact .inr rfl) (by first | exact .inl rfl | exact .inr rfl))) (xi_rng1 (fun _ => rfl) (fun _ => Ev.z_range) (xb_var fun _ => pv 0) (fun _ => rfl)) (xg_name (by decide) (fun _ => pg_name sc_all_turns.nd rfl (by first | exact .inl rfl | exact .inr rfl) (by first | exact .inl rfl | exact .inr rfl))) (xt_cmp (fun _ => op_notInA (u65 hr)) prm_in (xb_var fun _ => pv 4) (xb_var fun _ => pv 3) rfl) (xb_of (xe_tupD (xds_star (fun _ => rfl) (xb_var fun _ => pv 3) (xds_cons (xb_var fun _ => pv 4) xds_nil (fun _ => rfl)) (fun t u h1 h2 i => StX.pa_star (h1 i) (h2 i) rfl)))) (fun _ _ => rfl) (fun _ _ => rfl))) (fun _ _ => rfl)) (xss_one (xs_ret (xe_mv fun _ => pv 1)))))
theorem o_all_turns (Ev : Evd P w K mg base A0) (h : ∀ cs o, m_all_turns cs = some o → ∃ n out, g_all_turns n (startR 5 cs) = some out ∧ fin [true] out = some o) : FnOk P w K mg base (L2.CX P w) 1 A0.f_all_turns A0.d_all_turns ["many"] (spM ⟨K, mg⟩ 1 m_all_turns) :=
  def_ok (fl := [true]) (Pk := [0]) Ev.F_all_turns sc_all_turns rfl (flB_ok rfl) (by decide) (fun cdv A outer s H E hr => w_all_turns Ev cdv A outer s H E hr) h
theorem w_named_of (Ev : Evd P w K mg base A0) (k_all_turns : FnOk P w K mg base (L2.CX P w) 1 A0.f_all_turns A0.d_all_turns ["many"] (spM ⟨K, mg⟩ 1 m_all_turns)) (k_renamed : FnOk P w K mg base (L2.CX P w) 1 A0.f_renamed A0.d_renamed ["turn", "names"] (spM ⟨K, mg⟩ 2 m_renamed)) (cdv : Value) (A : Around) (outer : List Env) (s : Shared) (H : Hp) (E : XK) (hr : Room 1 (A.deeper (envOfC "named_of" (defScope s_named_of) s.heap.objs.size A0.f_named_of cdv))) :
    XSs ⟨K, mg⟩ (fun _ : Unit => cxOf (L2.CX P w) P w K mg base ["value", "first", "second", "names"] "named_of" (defScope s_named_of) A0.f_named_of cdv A outer s H E) (fun cls d _ H => E cls d H) [0] (defBody s_named_of) g_named_of :=
  (xss_cons (xs_asg (xb_var fun _ => pv 0) (xg_tup (fun _ => rfl) (fun _ => rfl) (xgs_cons (xg_name (by decide) (fun _ => pg_name sc_named_of.nd rfl (by first | exact .inl rfl | exact .inr rfl) (by first | exact .inl rfl | exact .inr rfl))) (xgs_cons (xg_name (by decide) (fun _ => pg_name sc_named_of.nd rfl (by first | exact .inl rfl | exact .inr rfl) (by first | exact .inl rfl | exact .inr rfl))) xgs_nil (fun _ => rfl)) (fun _ => rfl)) (fun _ => rfl) (fun _ => rfl)) (fun _ => rfl) (fun _ => rfl) (fun _ => rfl)) (xss_one (xs_ret (xe_callB (fun _ => cr_minP rfl (u65 hr)) prm_minP (fun _ => rfl) (fun _ => Ev.z_min) (by decide +kernel) (xbs_cons (xb_of (xe_lc0 (own := [("names", 3)]) (N := 4) (fun _ => rfl) (fun _ => sc_named_of.nd) (xi_seq (fun _ => rfl) (xb_of (xe_call (fun _ => k_all_turns) (fun _ => hr.mono (by decide)) (fun _ => rfl) (fun _ => Ev.m_all_turns) (fun _ => Ev.F_all_turns.kp) (fun _ => Ev.b_all_turns) (fun _ => takes_of rfl rfl rfl rfl) (xbs_cons (xb_of (xe_callB (fun _ => call_lenB) prm_lenA (fun _ => rfl) (fun _ => Ev.z_len) (by decide +kernel) (xbs_cons (xb_var fun _ => pv 1) xbs_nil (fun _ => rfl)) (by decide) rfl (fun _ => rfl) (fun _ => rfl))) xbs_nil (fun _ => rfl)) (len_cons (fun _ _ _ _ => len_nil)) rfl (fun _ => rfl) (fun _ => rfl)))) (fun _ => blkB_ok rfl) (xg_name (by decide) (fun _ => pg_name sc_named_of.nd rfl (by first | exact .inl rfl | exact .inr rfl) (by first | exact .inl rfl | exact .inr rfl))) (xb_of (xe_tup (xbs_cons (xb_of (xe_call (fun _ => k_renamed) (fun _ => hr.mono (by decide)) (fun _ => rfl) (fun _ => Ev.m_renamed) (fun _ => Ev.F_renamed.kp) (fun _ => Ev.b_renamed) (fun _ => takes0) (xbs_cons (xb_var fun _ => pv 1) (xbs_cons (xb_var fun _ => pv 3) xbs_nil (fun _ => rfl)) (fun _ => rfl)) (len_cons (len_cons (fun _ _ _ _ => len_nil))) rfl (fun _ => rfl) (fun _ => rfl))) (xbs_cons (xb_of (xe_call (fun _ => k_renamed) (fun _ => hr.mono (by decide)) (fun _ => rfl) (fun _ => Ev.m_renamed) (fun _ => Ev.F_renamed.kp) (fun _ => Ev.b_renamed) (fun _ => takes0) (xbs_cons (xb_var fun _ => pv 2) (xbs_cons (xb_var fun _ => pv 3) xbs_nil (fun _ => rfl)) (fun _ => rfl)) (len_cons (len_cons (fun _ _ _ _ => len_nil))) rfl (fun _ => rfl) (fun _ => rfl))) xbs_nil (fun _ => rfl)) (fun _ => rfl)))) (fun _ _ => rfl))) xbs_nil (fun _ => rfl)) (by decide) rfl (fun _ => rfl) (fun _ => rfl)))))
theorem o_named_of (Ev : Evd P w K mg base A0) (k_all_turns : FnOk P w K mg base (L2.CX P w) 1 A0.f_all_turns A0.d_all_turns ["many"] (spM ⟨K, mg⟩ 1 m_all_turns)) (k_renamed : FnOk P w K mg base (L2.CX P w) 1 A0.f_renamed A0.d_renamed ["turn", "names"] (spM ⟨K, mg⟩ 2 m_renamed)) (h : ∀ cs o, m_named_of cs = some o → ∃ n out, g_named_of n (startR 4 cs) = some out ∧ fin [true] out = some o) : FnOk P w K mg base (L2.CX P w) 2 A0.f_named_of A0.d_named_of ["value"] (spM ⟨K, mg⟩ 1 m_named_of) :=
  def_ok (fl := [true]) (Pk := [0]) Ev.F_named_of sc_named_of rfl (flB_ok rfl) (by decide) (fun cdv A outer s H E hr => w_named_of Ev k_all_turns k_renamed cdv A outer s H E hr) h
theorem w_named (Ev : Evd P w K mg base A0) (k_check_plane : FnOk P w K mg base (L2.CX P w) 4 A0.f_check_plane A0.d_check_plane ["value"] (spM ⟨K, mg⟩ 1 m_check_plane)) (k_named_of : FnOk P w K mg base (L2.CX P w) 2 A0.f_named_of A0.d_named_of ["value"] (spM ⟨K, mg⟩ 1 m_named_of)) (cdv : Value) (A : Around) (outer : List Env) (s : Shared) (H : Hp) (E : XK) (hr : Room 4 (A.deeper (envOfC "named" (defScope s_named) s.heap.objs.size A0.f_named cdv))) :
    XSs ⟨K, mg⟩ (fun _ : Unit => cxOf (L2.CX P w) P w K mg base ["value"] "named" (defScope s_named) A0.f_named cdv A outer s H E) (fun cls d _ H => E cls d H) [0] (defBody s_named) g_named :=
  (xss_cons (xs_expr (xb_of (xe_call (fun _ => k_check_plane) (fun _ => hr.mono (by decide)) (fun _ => rfl) (fun _ => Ev.m_check_plane) (fun _ => Ev.F_check_plane.kp) (fun _ => Ev.b_check_plane) (fun _ => takes_of rfl rfl rfl rfl) (xbs_cons (xb_var fun _ => pv 0) xbs_nil (fun _ => rfl)) (len_cons (fun _ _ _ _ => len_nil)) rfl (fun _ => rfl) (fun _ => rfl))) (fun _ => rfl)) (xss_one (xs_ret (xe_call (fun _ => k_named_of) (fun _ => hr.mono (by decide)) (fun _ => rfl) (fun _ => Ev.m_named_of) (fun _ => Ev.F_named_of.kp) (fun _ => Ev.b_named_of) (fun _ => takes_of rfl rfl rfl rfl) (xbs_cons (xb_var fun _ => pv 0) xbs_nil (fun _ => rfl)) (len_cons (fun _ _ _ _ => len_nil)) rfl (fun _ => rfl) (fun _ => rfl)))))
theorem o_named (Ev : Evd P w K mg base A0) (k_check_plane : FnOk P w K mg base (L2.CX P w) 4 A0.f_check_plane A0.d_check_plane ["value"] (spM ⟨K, mg⟩ 1 m_check_plane)) (k_named_of : FnOk P w K mg base (L2.CX P w) 2 A0.f_named_of A0.d_named_of ["value"] (spM ⟨K, mg⟩ 1 m_named_of)) (h : ∀ cs o, m_named cs = some o → ∃ n out, g_named n (startR 1 cs) = some out ∧ fin [true] out = some o) : FnOk P w K mg base (L2.CX P w) 5 A0.f_named A0.d_named ["value"] (spM ⟨K, mg⟩ 1 m_named) :=
  def_ok (fl := [true]) (Pk := [0]) Ev.F_named sc_named rfl (flB_ok rfl) (by decide) (fun cdv A outer s H E hr => w_named Ev k_check_plane k_named_of cdv A outer s H E hr) h
theorem w_turns_of (Ev : Evd P w K mg base A0) (k_check_plane : FnOk P w K mg base (L2.CX P w) 4 A0.f_check_plane A0.d_check_plane ["value"] (spM ⟨K, mg⟩ 1 m_check_plane)) (k_all_turns : FnOk P w K mg base (L2.CX P w) 1 A0.f_all_turns A0.d_all_turns ["many"] (spM ⟨K, mg⟩ 1 m_all_turns)) (k_renamed : FnOk P w K mg base (L2.CX P w) 1 A0.f_renamed A0.d_renamed ["turn", "names"] (spM ⟨K, mg⟩ 2 m_renamed)) (cdv : Value) (A : Around) (outer : List Env) (s : Shared) (H : Hp) (E : XK) (hr : Room 4 (A.deeper (envOfC "turns_of" (defScope s_turns_of) s.heap.objs.size A0.f_turns_of cdv))) :
    XSs ⟨K, mg⟩ (fun _ : Unit => cxOf (L2.CX P w) P w K mg base ["value", "first", "second", "every", "names"] "turns_of" (defScope s_turns_of) A0.f_turns_of cdv A outer s H E) (fun cls d _ H => E cls d H) [0] (defBody s_turns_of) g_turns_of :=
  (xss_cons (xs_expr (xb_of (xe_call (fun _ => k_check_plane) (fun _ => hr.mono (by decide)) (fun _ => rfl) (fun _ => Ev.m_check_plane) (fun _ => Ev.F_check_plane.kp) (fun _ => Ev.b_check_plane) (fun _ => takes_of rfl rfl rfl rfl) (xbs_cons (xb_var fun _ => pv 0) xbs_nil (fun _ => rfl)) (len_cons (fun _ _ _ _ => len_nil)) rfl (fun _ => rfl) (fun _ => rfl))) (fun _ => rfl)) (xss_cons (xs_asg (xb_var fun _ => pv 0) (xg_tup (fun _ => rfl) (fun _ => rfl) (xgs_cons (xg_name (by decide) (fun _ => pg_name sc_turns_of.nd rfl (by first | exact .inl rfl | exact .inr rfl) (by first | exact .inl rfl | exact .inr rfl))) (xgs_cons (xg_name (by decide) (fun _ => pg_name sc_turns_of.nd rfl (by first | exact .inl rfl | exact .inr rfl) (by first | exact .inl rfl | exact .inr rfl))) xgs_nil (fun _ => rfl)) (fun _ => rfl)) (fun _ => rfl) (fun _ => rfl)) (fun _ => rfl) (fun _ => rfl) (fun _ => rfl)) (xss_cons (xs_setLc0 (own := [("names", 4)]) (N := 5) (by decide) (fun _ => rfl) (fun _ => sc_turns_of.nd) (fun _ => rfl) (fun _ => rfl) (fun _ => rfl) (xi_seq (fun _ => rfl) (xb_of (xe_call (fun _ => k_all_turns) (fun _ => hr.mono (by decide)) (fun _ => rfl) (fun _ => Ev.m_all_turns) (fun _ => Ev.F_all_turns.kp) (fun _ => Ev.b_all_turns) (fun _ => takes_of rfl rfl rfl rfl) (xbs_cons (xb_of (xe_callB (fun _ => call_lenB) prm_lenA (fun _ => rfl) (fun _ => Ev.z_len) (by decide +kernel) (xbs_cons (xb_var fun _ => pv 1) xbs_nil (fun _ => rfl)) (by decide) rfl (fun _ => rfl) (fun _ => rfl))) xbs_nil (fun _ => rfl)) (len_cons (fun _ _ _ _ => len_nil)) rfl (fun _ => rfl) (fun _ => rfl)))) (fun _ => blkB_ok rfl) (xg_name (by decide) (fun _ => pg_name sc_turns_of.nd rfl (by first | exact .inl rfl | exact .inr rfl) (by first | exact .inl rfl | exact .inr rfl))) (xb_of (xe_tup (xbs_cons (xb_of (xe_call (fun _ => k_renamed) (fun _ => hr.mono (by decide)) (fun _ => rfl) (fun _ => Ev.m_renamed) (fun _ => Ev.F_renamed.kp) (fun _ => Ev.b_renamed) (fun _ => takes0) (xbs_cons (xb_var fun _ => pv 1) (xbs_cons (xb_var fun _ => pv 4) xbs_nil (fun _ => rfl)) (fun _ => rfl)) (len_cons (len_cons (fun _ _ _ _ => len_nil))) rfl (fun _ => rfl) (fun _ => rfl))) (xbs_cons (xb_of (xe_call (fun _ => k_renamed) (fun _ => hr.mono (by decide)) (fun _ => rfl) (fun _ => Ev.m_renamed) (fun _ => Ev.F_renamed.kp) (fun _ => Ev.b_renamed) (fun _ => takes0) (xbs_cons (xb_var fun _ => pv 2) (xbs_cons (xb_var fun _ => pv 4) xbs_nil (fun _ => rfl)) (fun _ => rfl)) (len_cons (len_cons (fun _ _ _ _ => len_nil))) rfl (fun _ => rfl) (fun _ => rfl))) xbs_nil (fun _ => rfl)) (fun _ => rfl)))) (fun _ _ => rfl)) (xss_one (xs_ret (xe_mth (fun _ => rfl) (fun t h j => pe_bm PySem.F.plainAttrs_list PySem.F.slot_list_count PySem.F.type_list_count (mt_countP (u65 hr)) (pv 3) (h j)) sm_cntP (xbs_cons (xb_var fun _ => pv 0) xbs_nil (fun _ => rfl))))))))
theorem o_turns_of (Ev : Evd P w K mg base A0) (k_check_plane : FnOk P w K mg base (L2.CX P w) 4 A0.f_check_plane A0.d_check_plane ["value"] (spM ⟨K, mg⟩ 1 m_check_plane)) (k_all_turns : FnOk P w K mg base (L2.CX P w) 1 A0.f_all_turns A0.d_all_turns ["many"] (spM ⟨K, mg⟩ 1 m_all_turns)) (k_renamed : FnOk P w K mg base (L2.CX P w) 1 A0.f_renamed A0.d_renamed ["turn", "names"] (spM ⟨K, mg⟩ 2 m_renamed)) (h : ∀ cs o, m_turns_of cs = some o → ∃ n out, g_turns_of n (startR 5 cs) = some out ∧ fin [true] out = some o) : FnOk P w K mg base (L2.CX P w) 5 A0.f_turns_of A0.d_turns_of ["value"] (spM ⟨K, mg⟩ 1 m_turns_of) :=
  def_ok (fl := [true]) (Pk := [0]) Ev.F_turns_of sc_turns_of rfl (flB_ok rfl) (by decide) (fun cdv A outer s H E hr => w_turns_of Ev k_check_plane k_all_turns k_renamed cdv A outer s H E hr) h
theorem w__law_rounds (Ev : Evd P w K mg base A0) (cdv : Value) (A : Around) (outer : List Env) (s : Shared) (H : Hp) (E : XK) (hr : Room 0 (A.deeper (envOfC "_law_rounds" (defScope s__law_rounds) s.heap.objs.size A0.f__law_rounds cdv))) :
    XSs ⟨K, mg⟩ (fun _ : Unit => cxOf (L2.CX P w) P w K mg base ["_law_turn", "_law_left", "_law_found", "_law_here", "_law_lot"] "_law_rounds" (defScope s__law_rounds) A0.f__law_rounds cdv A outer s H E) (fun cls d _ H => E cls d H) [0] (defBody s__law_rounds) g__law_rounds :=
  (xss_cons (xs_parA (by decide) (by decide) (fun _ => rfl) (by first | exact .inl (fun t u h1 h2 k => ps_par rfl sc__law_rounds.nd rfl rfl (by decide) rfl rfl (pa_cons (h1 k) (pa_cons (h2 k) pa_nil)) rfl) | exact .inr (fun t u h1 h2 k => ps_asg (pe_tup (pa_cons (h1 k) (pa_cons (h2 k) pa_nil))) (pg_tup rfl (pgs_cons (pg_name sc__law_rounds.nd rfl (by first | exact .inl rfl | exact .inr rfl) (by first | exact .inl rfl | exact .inr rfl)) (pgs_cons (pg_name sc__law_rounds.nd rfl (by first | exact .inl rfl | exact .inr rfl) (by first | exact .inl rfl | exact .inr rfl)) pgs_nil))))) (xe_lstR1 (fun _ => rfl) (fun _ => rfl) (fun _ => Ev.z_list) (fun _ => rfl) (fun _ => Ev.z_range) (xb_of (xe_callB (fun _ => call_lenB) prm_lenA (fun _ => rfl) (fun _ => Ev.z_len) (by decide +kernel) (xbs_cons (xb_var fun _ => pv 0) xbs_nil (fun _ => rfl)) (by decide) rfl (fun _ => rfl) (fun _ => rfl))) (fun _ => rfl) (fun _ => rfl)) (xe_lst xbs_nil)) (xss_cons (xs_wh (fun _ => passes_of (K := fun e s'' => L2.CX P w outer H s E e s'') (E₁ := fun e' s'' => L2.CX P w outer H s E e' s'') rfl) (xt_cmp (fun _ => op_neD hr.units) prm_ne (xb_var fun _ => pv 1) (xb_of (xe_lst xbs_nil)) (nomark _)) (xss_cons (xs_parA (by decide) (by decide) (fun _ => rfl) (by first | exact .inl (fun t u h1 h2 k => ps_par rfl sc__law_rounds.nd rfl rfl (by decide) rfl rfl (pa_cons (h1 k) (pa_cons (h2 k) pa_nil)) rfl) | exact .inr (fun t u h1 h2 k => ps_asg (pe_tup (pa_cons (h1 k) (pa_cons (h2 k) pa_nil))) (pg_tup rfl (pgs_cons (pg_name sc__law_rounds.nd rfl (by first | exact .inl rfl | exact .inr rfl) (by first | exact .inl rfl | exact .inr rfl)) (pgs_cons (pg_name sc__law_rounds.nd rfl (by first | exact .inl rfl | exact .inr rfl) (by first | exact .inl rfl | exact .inr rfl)) pgs_nil))))) (xe_ix (fun _ => ix_seq) prm_ix (xb_var fun _ => pv 1) (xb_of xe_int) (fun _ _ => rfl)) (xe_lst xbs_nil)) (xss_cons (xs_wh (fun _ => passes_of (K := fun e s'' => L2.CX P w outer H s E e s'') (E₁ := fun e' s'' => L2.CX P w outer H s E e' s'') rfl) (xt_cmp (fun _ => op_inA (u65 hr)) prm_in (xb_var fun _ => pv 3) (xb_var fun _ => pv 1) rfl) (xss_cons (xs_expr (xb_of (xe_mth (fun _ => rfl) (fun t h j => pe_bm PySem.F.plainAttrs_list PySem.F.slot_list_remove PySem.F.type_list_remove mt_remove (pv 1) (h j)) sm_rem (xbs_cons (xb_var fun _ => pv 3) xbs_nil (fun _ => rfl)))) (fun _ => rfl)) (xss_cons (xs_expr (xb_of (xe_mth (fun _ => rfl) (fun t h j => pe_bm PySem.F.plainAttrs_list PySem.F.slot_list_append PySem.F.type_list_append mt_append (pv 4) (h j)) sm_app (xbs_cons (xb_var fun _ => pv 3) xbs_nil (fun _ => rfl)))) (fun _ => rfl)) (xss_one (xs_set (by decide) (fun t h j => ps_set sc__law_rounds.nd rfl (by first | exact .inl rfl | exact .inr rfl) (h j) rfl (by first | exact .inl rfl | exact .inr rfl)) (xe_ix (fun _ => ix_seq) prm_ix (xb_var fun _ => pv 0) (xb_var fun _ => pv 3) (fun _ _ => rfl))))))) (xss_one (xs_expr (xb_of (xe_mth (fun _ => rfl) (fun t h j => pe_bm PySem.F.plainAttrs_list PySem.F.slot_list_append PySem.F.type_list_append mt_append (pv 2) (h j)) sm_app (xbs_cons (xb_of (xe_callB (fun _ => call_lenB) prm_lenA (fun _ => rfl) (fun _ => Ev.z_len) (by decide +kernel) (xbs_cons (xb_var fun _ => pv 4) xbs_nil (fun _ => rfl)) (by decide) rfl (fun _ => rfl) (fun _ => rfl))) xbs_nil (fun _ => rfl)))) (fun _ => rfl)))))) (xss_one (xs_ret (xe_callTy (fun _ => call_tuple_of) prm_tuple (fun _ => rfl) (fun _ => Ev.z_tuple) (by decide +kernel) (xbs_cons (xb_of (xe_callB (fun _ => cr_sortedI) prm_sortL (fun _ => rfl) (fun _ => Ev.z_sorted) (by decide +kernel) (xbs_cons (xb_var fun _ => pv 2) xbs_nil (fun _ => rfl)) (by decide) rfl (fun _ => rfl) (fun _ => rfl))) xbs_nil (fun _ => rfl)) (by decide) rfl (fun _ => rfl) (fun _ => rfl))))))
theorem o__law_rounds (Ev : Evd P w K mg base A0) (h : ∀ cs o, m__law_rounds cs = some o → ∃ n out, g__law_rounds n (startR 5 cs) = some out ∧ fin [true] out = some o) : FnOk P w K mg base (L2.CX P w) 1 A0.f__law_rounds A0.d__law_rounds ["_law_turn"] (spM ⟨K, mg⟩ 1 m__law_rounds) :=
  def_ok (fl := [true]) (Pk := [0]) Ev.F__law_rounds sc__law_rounds rfl (flB_ok rfl) (by decide) (fun cdv A outer s H E hr => w__law_rounds Ev cdv A outer s H E hr) h
theorem w__law_is_whole (Ev : Evd P w K mg base A0) (cdv : Value) (A : Around) (outer : List Env) (s : Shared) (H : Hp) (E : XK) (hr : Room 0 (A.deeper (envOfC "_law_is_whole" (defScope s__law_is_whole) s.heap.objs.size A0.f__law_is_whole cdv))) :
    XSs ⟨K, mg⟩ (fun _ : Unit => cxOf (L2.CX P w) P w K mg base ["_law_value", "_law_low", "_law_high"] "_law_is_whole" (defScope s__law_is_whole) A0.f__law_is_whole cdv A outer s H E) (fun cls d _ H => E cls d H) [0, 1, 2] (defBody s__law_is_whole) g__law_is_whole :=
  (xss_one (xs_ret (xe_and (xe_isi (fun _ => rfl) (fun _ => rfl) (fun _ => Ev.z_isinstance) (fun _ => rfl) (fun _ => Ev.z_int) (by decide +kernel) (by decide) rfl (xb_var fun _ => pv 0) (fun _ => rfl) (fun _ => rfl) (fun _ => rfl)) (xe_and (xe_not (xe_isi (fun _ => rfl) (fun _ => rfl) (fun _ => Ev.z_isinstance) (fun _ => rfl) (fun _ => Ev.z_bool) (by decide +kernel) (by decide) rfl (xb_var fun _ => pv 0) (fun _ => rfl) (fun _ => rfl) (fun _ => rfl))) (xe_one (xe_ch (fun _ => op_le) (fun _ => op_le) prm_i prm_i (xb_var fun _ => pv 1) (xb_var fun _ => pv 0) (xb_var fun _ => pv 2) rfl))))))
theorem o__law_is_whole (Ev : Evd P w K mg base A0) (h : ∀ cs o, m__law_is_whole cs = some o → ∃ n out, g__law_is_whole n (startR 3 cs) = some out ∧ fin [true, true, true] out = some o) : FnOk P w K mg base (L2.CX P w) 1 A0.f__law_is_whole A0.d__law_is_whole ["_law_value", "_law_low", "_law_high"] (spM ⟨K, mg⟩ 3 m__law_is_whole) :=
  def_ok (fl := [true, true, true]) (Pk := [0, 1, 2]) Ev.F__law_is_whole sc__law_is_whole rfl (flB_ok rfl) (by decide) (fun cdv A outer s H E hr => w__law_is_whole Ev cdv A outer s H E hr) h
theorem w__law_is_plane (Ev : Evd P w K mg base A0) (k__law_is_whole : FnOk P w K mg base (L2.CX P w) 1 A0.f__law_is_whole A0.d__law_is_whole ["_law_value", "_law_low", "_law_high"] (spM ⟨K, mg⟩ 3 m__law_is_whole)) (k__law_rounds : FnOk P w K mg base (L2.CX P w) 1 A0.f__law_rounds A0.d__law_rounds ["_law_turn"] (spM ⟨K, mg⟩ 1 m__law_rounds)) (cdv : Value) (A : Around) (outer : List Env) (s : Shared) (H : Hp) (E : XK) (hr : Room 1 (A.deeper (envOfC "_law_is_plane" (defScope s__law_is_plane) s.heap.objs.size A0.f__law_is_plane cdv))) :
    XSs ⟨K, mg⟩ (fun _ : Unit => cxOf (L2.CX P w) P w K mg base ["_law_value", "_law_turn", "_law_one", "_law_both", "_law_k"] "_law_is_plane" (defScope s__law_is_plane) A0.f__law_is_plane cdv A outer s H E) (fun cls d _ H => E cls d H) [0] (defBody s__law_is_plane) g__law_is_plane :=
  (xss_cons (xs_if (xt_w (xw_or (xt_not (xt_val (xe_isi (fun _ => rfl) (fun _ => rfl) (fun _ => Ev.z_isinstance) (fun _ => rfl) (fun _ => Ev.z_tuple) (by decide +kernel) (by decide) rfl (xb_var fun _ => pv 0) (fun _ => rfl) (fun _ => rfl) (fun _ => rfl)) (fun _ _ => rfl))) (xw_or1 (xt_cmp (fun _ => op_neD hr.units) prm_ne (xb_of (xe_callB (fun _ => call_lenB) prm_lenA (fun _ => rfl) (fun _ => Ev.z_len) (by decide +kernel) (xbs_cons (xb_var fun _ => pv 0) xbs_nil (fun _ => rfl)) (by decide) rfl (fun _ => rfl) (fun _ => rfl))) (xb_of xe_int) (nomark _))))) (xss_one (xs_ret xe_bool)) xss_nil) (xss_cons (xs_for (fun _ => passes_of (K := fun e s'' => L2.CX P w outer H s E e s'') (E₁ := fun e' s'' => L2.CX P w outer H s E e' s'') rfl) (fun _ => rfl) (xi_seq (fun _ => rfl) (xb_var fun _ => pv 0)) (xg_name (by decide) (fun _ => pg_name sc__law_is_plane.nd rfl (by first | exact .inl rfl | exact .inr rfl) (by first | exact .inl rfl | exact .inr rfl))) (xss_cons (xs_if (xt_w (xw_or (xt_not (xt_val (xe_isi (fun _ => rfl) (fun _ => rfl) (fun _ => Ev.z_isinstance) (fun _ => rfl) (fun _ => Ev.z_tuple) (by decide +kernel) (by decide) rfl (xb_var fun _ => pv 1) (fun _ => rfl) (fun _ => rfl) (fun _ => rfl)) (fun _ _ => rfl))) (xw_or (xt_not (xt_ch (fun _ => op_le) (fun _ => op_le) prm_i prm_i (xb_of xe_int) (xb_of (xe_callB (fun _ => call_lenB) prm_lenA (fun _ => rfl) (fun _ => Ev.z_len) (by decide +kernel) (xbs_cons (xb_var fun _ => pv 1) xbs_nil (fun _ => rfl)) (by decide) rfl (fun _ => rfl) (fun _ => rfl))) (xb_of xe_int) rfl)) (xw_or1 (xt_cmp (fun _ => op_neD hr.units) prm_ne (xb_of (xe_callB (fun _ => call_lenB) prm_lenA (fun _ => rfl) (fun _ => Ev.z_len) (by decide +kernel) (xbs_cons (xb_var fun _ => pv 1) xbs_nil (fun _ => rfl)) (by decide) rfl (fun _ => rfl) (fun _ => rfl))) (xb_of (xe_callB (fun _ => call_lenB) prm_lenA (fun _ => rfl) (fun _ => Ev.z_len) (by decide +kernel) (xbs_cons (xb_of (xe_ix (fun _ => ix_seq) prm_ix (xb_var fun _ => pv 0) (xb_of xe_int) (fun _ _ => rfl))) xbs_nil (fun _ => rfl)) (by decide) rfl (fun _ => rfl) (fun _ => rfl))) (nomark _)))))) (xss_one (xs_ret xe_bool)) xss_nil) (xss_one (xs_if (xt_w (xw_or (xt_not (xt_val (xe_callB (fun _ => cr_all rfl) prm_all (fun _ => rfl) (fun _ => Ev.z_all) (by decide +kernel) (xbs_cons (xb_of (xe_lc0 (own := [("_law_one", 2)]) (N := 5) (fun _ => rfl) (fun _ => sc__law_is_plane.nd) (xi_seq (fun _ => rfl) (xb_var fun _ => pv 1)) (fun _ => blkB_ok rfl) (xg_name (by decide) (fun _ => pg_name sc__law_is_plane.nd rfl (by first | exact .inl rfl | exact .inr rfl) (by first | exact .inl rfl | exact .inr rfl))) (xb_of (xe_call (fun _ => k__law_is_whole) (fun _ => hr.mono (by decide)) (fun _ => rfl) (fun _ => Ev.m__law_is_whole) (fun _ => Ev.F__law_is_whole.kp) (fun _ => Ev.b__law_is_whole) (fun _ => takes0) (xbs_cons (xb_var fun _ => pv 2) (xbs_cons (xb_of xe_int) (xbs_cons (xb_of (xe_bin (fun _ => op_sub) prm_sub (xb_of (xe_callB (fun _ => call_lenB) prm_lenA (fun _ => rfl) (fun _ => Ev.z_len) (by decide +kernel) (xbs_cons (xb_var fun _ => pv 1) xbs_nil (fun _ => rfl)) (by decide) rfl (fun _ => rfl) (fun _ => rfl))) (xb_of xe_int))) xbs_nil (fun _ => rfl)) (fun _ => rfl)) (fun _ => rfl)) (len_cons (len_cons (len_cons (fun _ _ _ _ => len_nil)))) rfl (fun _ => rfl) (fun _ => rfl))) (fun _ _ => rfl))) xbs_nil (fun _ => rfl)) (by decide) rfl (fun _ => rfl) (fun _ => rfl)) (fun _ _ => rfl))) (xw_or1 (xt_cmp (fun _ => op_neD hr.units) prm_ne (xb_of (xe_lenSet (fun _ => rfl) (fun _ => rfl) (fun _ => rfl) (fun _ => Ev.z_len) (fun _ => rfl) (fun _ => Ev.z_set) (xb_var fun _ => pv 1) (fun _ => rfl))) (xb_of (xe_callB (fun _ => call_lenB) prm_lenA (fun _ => rfl) (fun _ => Ev.z_len) (by decide +kernel) (xbs_cons (xb_var fun _ => pv 1) xbs_nil (fun _ => rfl)) (by decide) rfl (fun _ => rfl) (fun _ => rfl))) (nomark _))))) (xss_one (xs_ret xe_bool)) xss_nil))) (fun _ _ => rfl)) (xss_cons (xs_set (by decide) (fun t h j => ps_set sc__law_is_plane.nd rfl (by first | exact .inl rfl | exact .inr rfl) (h j) rfl (by first | exact .inl rfl | exact .inr rfl)) (xe_callTy (fun _ => call_tuple_of) prm_tuple (fun _ => rfl) (fun _ => Ev.z_tuple) (by decide +kernel) (xbs_cons (xb_of (xe_lc0 (own := [("_law_k", 4)]) (N := 5) (fun _ => rfl) (fun _ => sc__law_is_plane.nd) (xi_rng1 (fun _ => rfl) (fun _ => Ev.z_range) (xb_of (xe_callB (fun _ => call_lenB) prm_lenA (fun _ => rfl) (fun _ => Ev.z_len) (by decide +kernel) (xbs_cons (xb_of (xe_ix (fun _ => ix_seq) prm_ix (xb_var fun _ => pv 0) (xb_of xe_int) (fun _ _ => rfl))) xbs_nil (fun _ => rfl)) (by decide) rfl (fun _ => rfl) (fun _ => rfl))) (fun _ => rfl)) (fun _ => blkB_ok rfl) (xg_name (by decide) (fun _ => pg_name sc__law_is_plane.nd rfl (by first | exact .inl rfl | exact .inr rfl) (by first | exact .inl rfl | exact .inr rfl))) (xb_of (xe_ix (fun _ => ix_seq) prm_ix (xb_of (xe_ix (fun _ => ix_seq) prm_ix (xb_var fun _ => pv 0) (xb_of xe_int) (fun _ _ => rfl))) (xb_of (xe_ix (fun _ => ix_seq) prm_ix (xb_of (xe_ix (fun _ => ix_seq) prm_ix (xb_var fun _ => pv 0) (xb_of xe_int) (fun _ _ => rfl))) (xb_var fun _ => pv 4) (fun _ _ => rfl))) (fun _ _ => rfl))) (fun _ _ => rfl))) xbs_nil (fun _ => rfl)) (by decide) rfl (fun _ => rfl) (fun _ => rfl))) (xss_cons (xs_if (xt_cmp (fun _ => op_neD hr.units) prm_ne (xb_of (xe_callB (fun _ => call_lenB) prm_lenA (fun _ => rfl) (fun _ => Ev.z_len) (by decide +kernel) (xbs_cons (xb_of (xe_call (fun _ => k__law_rounds) (fun _ => hr.mono (by decide)) (fun _ => rfl) (fun _ => Ev.m__law_rounds) (fun _ => Ev.F__law_rounds.kp) (fun _ => Ev.b__law_rounds) (fun _ => takes_of rfl rfl rfl rfl) (xbs_cons (xb_var fun _ => pv 3) xbs_nil (fun _ => rfl)) (len_cons (fun _ _ _ _ => len_nil)) rfl (fun _ => rfl) (fun _ => rfl))) xbs_nil (fun _ => rfl)) (by decide) rfl (fun _ => rfl) (fun _ => rfl))) (xb_of xe_int) (nomark _)) (xss_one (xs_ret xe_bool)) xss_nil) (xss_one (xs_ret (xe_cmp (fun _ => op_eqD hr.units) prm_eq (xb_of (xe_bin (fun _ => op_addA) prm_add (xb_of (xe_callB (fun _ => call_lenB) prm_lenA (fun _ => rfl) (fun _ => Ev.z_len) (by decide +kernel) (xbs_cons (xb_of (xe_call (fun _ => k__law_rounds) (fun _ => hr.mono (by decide)) (fun _ => rfl) (fun _ => Ev.m__law_rounds) (fun _ => Ev.F__law_rounds.kp) (fun _ => Ev.b__law_rounds) (fun _ => takes_of rfl rfl rfl rfl) (xbs_cons (xb_of (xe_ix (fun _ => ix_seq) prm_ix (xb_var fun _ => pv 0) (xb_of xe_int) (fun _ _ => rfl))) xbs_nil (fun _ => rfl)) (len_cons (fun _ _ _ _ => len_nil)) rfl (fun _ => rfl) (fun _ => rfl))) xbs_nil (fun _ => rfl)) (by decide) rfl (fun _ => rfl) (fun _ => rfl))) (xb_of (xe_callB (fun _ => call_lenB) prm_lenA (fun _ => rfl) (fun _ => Ev.z_len) (by decide +kernel) (xbs_cons (xb_of (xe_call (fun _ => k__law_rounds) (fun _ => hr.mono (by decide)) (fun _ => rfl) (fun _ => Ev.m__law_rounds) (fun _ => Ev.F__law_rounds.kp) (fun _ => Ev.b__law_rounds) (fun _ => takes_of rfl rfl rfl rfl) (xbs_cons (xb_of (xe_ix (fun _ => ix_seq) prm_ix (xb_var fun _ => pv 0) (xb_of xe_int) (fun _ _ => rfl))) xbs_nil (fun _ => rfl)) (len_cons (fun _ _ _ _ => len_nil)) rfl (fun _ => rfl) (fun _ => rfl))) xbs_nil (fun _ => rfl)) (by decide) rfl (fun _ => rfl) (fun _ => rfl))))) (xb_of (xe_bin (fun _ => op_addA) prm_add (xb_of (xe_callB (fun _ => call_lenB) prm_lenA (fun _ => rfl) (fun _ => Ev.z_len) (by decide +kernel) (xbs_cons (xb_var fun _ => pv 3) xbs_nil (fun _ => rfl)) (by decide) rfl (fun _ => rfl) (fun _ => rfl))) (xb_of xe_int))) (nomark _))))))))
theorem o__law_is_plane (Ev : Evd P w K mg base A0) (k__law_is_whole : FnOk P w K mg base (L2.CX P w) 1 A0.f__law_is_whole A0.d__law_is_whole ["_law_value", "_law_low", "_law_high"] (spM ⟨K, mg⟩ 3 m__law_is_whole)) (k__law_rounds : FnOk P w K mg base (L2.CX P w) 1 A0.f__law_rounds A0.d__law_rounds ["_law_turn"] (spM ⟨K, mg⟩ 1 m__law_rounds)) (h : ∀ cs o, m__law_is_plane cs = some o → ∃ n out, g__law_is_plane n (startR 5 cs) = some out ∧ fin [true] out = some o) : FnOk P w K mg base (L2.CX P w) 2 A0.f__law_is_plane A0.d__law_is_plane ["_law_value"] (spM ⟨K, mg⟩ 1 m__law_is_plane) :=
  def_ok (fl := [true]) (Pk := [0]) Ev.F__law_is_plane sc__law_is_plane rfl (flB_ok rfl) (by decide) (fun cdv A outer s H E hr => w__law_is_plane Ev k__law_is_whole k__law_rounds cdv A outer s H E hr) h
theorem w__law_named (Ev : Evd P w K mg base A0) (cdv : Value) (A : Around) (outer : List Env) (s : Shared) (H : Hp) (E : XK) (hr : Room 0 (A.deeper (envOfC "_law_named" (defScope s__law_named) s.heap.objs.size A0.f__law_named cdv))) :
    XSs ⟨K, mg⟩ (fun _ : Unit => cxOf (L2.CX P w) P w K mg base ["_law_turn", "_law_names", "_law_found", "_law_k"] "_law_named" (defScope s__law_named) A0.f__law_named cdv A outer s H E) (fun cls d _ H => E cls d H) [0, 1] (defBody s__law_named) g__law_named :=
  (xss_cons (xs_set (by decide) (fun t h j => ps_set sc__law_named.nd rfl (by first | exact .inl rfl | exact .inr rfl) (h j) rfl (by first | exact .inl rfl | exact .inr rfl)) (xe_bin (fun _ => op_mulA) prm_mul (xb_of (xe_lst (xbs_cons (xb_of xe_int) xbs_nil (fun _ => rfl)))) (xb_of (xe_callB (fun _ => call_lenB) prm_lenA (fun _ => rfl) (fun _ => Ev.z_len) (by decide +kernel) (xbs_cons (xb_var fun _ => pv 0) xbs_nil (fun _ => rfl)) (by decide) rfl (fun _ => rfl) (fun _ => rfl))))) (xss_cons (xs_for (fun _ => passes_of (K := fun e s'' => L2.CX P w outer H s E e s'') (E₁ := fun e' s'' => L2.CX P w outer H s E e' s'') rfl) (fun _ => rfl) (xi_rng1 (fun _ => rfl) (fun _ => Ev.z_range) (xb_of (xe_callB (fun _ => call_lenB) prm_lenA (fun _ => rfl) (fun _ => Ev.z_len) (by decide +kernel) (xbs_cons (xb_var fun _ => pv 0) xbs_nil (fun _ => rfl)) (by decide) rfl (fun _ => rfl) (fun _ => rfl))) (fun _ => rfl)) (xg_name (by decide) (fun _ => pg_name sc__law_named.nd rfl (by first | exact .inl rfl | exact .inr rfl) (by first | exact .inl rfl | exact .inr rfl))) (xss_one (xs_setIx (fun _ => pv 2) (xb_of (xe_ix (fun _ => ix_seq) prm_ix (xb_var fun _ => pv 1) (xb_var fun _ => pv 3) (fun _ _ => rfl))) (xb_of (xe_ix (fun _ => ix_seq) prm_ix (xb_var fun _ => pv 1) (xb_of (xe_ix (fun _ => ix_seq) prm_ix (xb_var fun _ => pv 0) (xb_var fun _ => pv 3) (fun _ _ => rfl))) (fun _ _ => rfl))) (fun _ => rfl) (fun _ => rfl) (fun _ => rfl) (fun _ _ => rfl))) (fun _ _ => rfl)) (xss_one (xs_ret (xe_callTy (fun _ => call_tuple_of) prm_tuple (fun _ => rfl) (fun _ => Ev.z_tuple) (by decide +kernel) (xbs_cons (xb_var fun _ => pv 2) xbs_nil (fun _ => rfl)) (by decide) rfl (fun _ => rfl) (fun _ => rfl))))))
theorem o__law_named (Ev : Evd P w K mg base A0) (h : ∀ cs o, m__law_named cs = some o → ∃ n out, g__law_named n (startR 4 cs) = some out ∧ fin [true, true] out = some o) : FnOk P w K mg base (L2.CX P w) 1 A0.f__law_named A0.d__law_named ["_law_turn", "_law_names"] (spM ⟨K, mg⟩ 2 m__law_named) :=
  def_ok (fl := [true, true]) (Pk := [0, 1]) Ev.F__law_named sc__law_named rfl (flB_ok rfl) (by decide) (fun cdv A outer s H E hr => w__law_named Ev cdv A outer s H E hr) h
theorem w__law_wrong (Ev : Evd P w K mg base A0) (k_degrees_of : FnOk P w K mg base (L2.CX P w) 5 A0.f_degrees_of A0.d_degrees_of ["value"] (spM ⟨K, mg⟩ 1 m_degrees_of)) (k_named : FnOk P w K mg base (L2.CX P w) 5 A0.f_named A0.d_named ["value"] (spM ⟨K, mg⟩ 1 m_named)) (k_turns_of : FnOk P w K mg base (L2.CX P w) 5 A0.f_turns_of A0.d_turns_of ["value"] (spM ⟨K, mg⟩ 1 m_turns_of)) (cdv : Value) (A : Around) (outer : List Env) (s : Shared) (H : Hp) (E : XK) (hr : Room 5 (A.deeper (envOfC "_law_wrong" (defScope s__law_wrong) s.heap.objs.size A0.f__law_wrong cdv))) :
    XSs ⟨K, mg⟩ (fun _ : Unit => cxOf (L2.CX P w) P w K mg base ["_law_value", "_law_which", "_law_told_there", "e"] "_law_wrong" (defScope s__law_wrong) A0.f__law_wrong cdv A outer s H E) (fun cls d _ H => E cls d H) [0, 1] (defBody s__law_wrong) g__law_wrong :=
  (xss_cons (xs_set (by decide) (fun t h j => ps_set sc__law_wrong.nd rfl (by first | exact .inl rfl | exact .inr rfl) (h j) rfl (by first | exact .inl rfl | exact .inr rfl)) xe_none) (xss_cons (xs_try (fun _ => rfl) (fun _ => rfl) (fun _ => rfl) (fun _ => sc__law_wrong.nd) (fun _ => rfl) (fun _ => rfl) (by decide) (fun _ => takes_of rfl rfl rfl rfl) (fun Wb => (xss_one (xs_set (by decide) (fun t h j => ps_set sc__law_wrong.nd rfl (by first | exact .inl rfl | exact .inr rfl) (h j) rfl (by first | exact .inl rfl | exact .inr rfl)) (xe_call3 (fun _ => rfl) (fun _ => k_degrees_of) (fun _ => k_named) (fun _ => k_turns_of) (fun _ => hr.mono (by decide)) (fun _ => hr.mono (by decide)) (fun _ => hr.mono (by decide)) (fun _ => rfl) (fun _ => rfl) (fun _ => rfl) (fun _ => Ev.m_degrees_of) (fun _ => Ev.m_named) (fun _ => Ev.m_turns_of) (fun _ => Ev.F_degrees_of.kp) (fun _ => Ev.F_named.kp) (fun _ => Ev.F_turns_of.kp) (fun _ => Ev.b_degrees_of) (fun _ => Ev.b_named) (fun _ => Ev.b_turns_of) rfl rfl rfl (fun _ => rfl) (fun _ => rfl) (fun _ => rfl) (fun _ => pv 1) (fun _ _ => rfl) (fun p => p.2.1) (xbs_cons (xb_var fun _ => pv 0) xbs_nil (fun _ => rfl)) (len_cons (fun _ _ _ _ => len_nil)) (fun _ => rfl) (fun _ => rfl) (fun _ => rfl))))) (HdX.cons (x := "BadPlane") (fun _ => ⟨rfl, rfl, .inl Ev.m_BadPlane⟩) (tbl_ok (tbl_c ⟨_, Ev.m_BadPlane, Ev.x_BadPlane_BadPlane⟩ (fun _ z => (List.not_mem_nil z).elim))) (su_isf (c := "RootError") (cv := A0.C_RootError) (fun _ => rfl) (fun _ _ _ _ => pv 3) (by decide) (fun _ => rfl) (fun _ => Ev.z_isinstance) (fun _ => rfl) (fun _ => Ev.m_RootError) rfl (fun _ => rfl) (fun _ => rfl) (fun _ => rfl) (fun _ _ _ _ _ h => ps_set sc__law_wrong.nd rfl (by first | exact .inl rfl | exact .inr rfl) h rfl (by first | exact .inl rfl | exact .inr rfl)) (fun _ _ _ _ _ => rfl) (tbs_ok (tbs_c ⟨_, Ev.m_BadPlane, Ev.e_BadPlane, Ev.k_BadPlane_RootError⟩ (fun _ z => (List.not_mem_nil z).elim))) se_str ⟨_, fun _ _ _ _ => pe_str⟩) HdX.nil)) (xss_one (xs_ret (xe_mv fun _ => pv 2)))))
theorem o__law_wrong (Ev : Evd P w K mg base A0) (k_degrees_of : FnOk P w K mg base (L2.CX P w) 5 A0.f_degrees_of A0.d_degrees_of ["value"] (spM ⟨K, mg⟩ 1 m_degrees_of)) (k_named : FnOk P w K mg base (L2.CX P w) 5 A0.f_named A0.d_named ["value"] (spM ⟨K, mg⟩ 1 m_named)) (k_turns_of : FnOk P w K mg base (L2.CX P w) 5 A0.f_turns_of A0.d_turns_of ["value"] (spM ⟨K, mg⟩ 1 m_turns_of)) (h : ∀ cs o, m__law_wrong cs = some o → ∃ n out, g__law_wrong n (startR 4 cs) = some out ∧ fin [true, true] out = some o) : FnOk P w K mg base (L2.CX P w) 6 A0.f__law_wrong A0.d__law_wrong ["_law_value", "_law_which"] (spM ⟨K, mg⟩ 2 m__law_wrong) :=
  def_ok (fl := [true, true]) (Pk := [0, 1]) Ev.F__law_wrong sc__law_wrong rfl (flB_ok rfl) (by decide) (fun cdv A outer s H E hr => w__law_wrong Ev k_degrees_of k_named k_turns_of cdv A outer s H E hr) h
theorem w_law (Ev : Evd P w K mg base A0) (k__law_draws : FnOk P w K mg base (L2.CX P w) 1 A0.f__law_draws A0.d__law_draws ["_law_script"] (spM ⟨K, mg⟩ 1 m__law_draws)) (k__law_grown : FnOk P w K mg base (L2.CX P w) 2 A0.f__law_grown A0.d__law_grown ["_law_row", "_law_most"] (spM ⟨K, mg⟩ 2 m__law_grown)) (k__law_orders : FnOk P w K mg base (L2.CX P w) 1 A0.f__law_orders A0.d__law_orders ["_law_many"] (spM ⟨K, mg⟩ 1 m__law_orders)) (k__law_named : FnOk P w K mg base (L2.CX P w) 1 A0.f__law_named A0.d__law_named ["_law_turn", "_law_names"] (spM ⟨K, mg⟩ 2 m__law_named)) (k_degrees_of : FnOk P w K mg base (L2.CX P w) 5 A0.f_degrees_of A0.d_degrees_of ["value"] (spM ⟨K, mg⟩ 1 m_degrees_of)) (k__law_rounds : FnOk P w K mg base (L2.CX P w) 1 A0.f__law_rounds A0.d__law_rounds ["_law_turn"] (spM ⟨K, mg⟩ 1 m__law_rounds)) (k_is_plane : FnOk P w K mg base (L2.CX P w) 3 A0.f_is_plane A0.d_is_plane ["value"] (spM ⟨K, mg⟩ 1 m_is_plane)) (k_turns_of : FnOk P w K mg base (L2.CX P w) 5 A0.f_turns_of A0.d_turns_of ["value"] (spM ⟨K, mg⟩ 1 m_turns_of)) (k_named : FnOk P w K mg base (L2.CX P w) 5 A0.f_named A0.d_named ["value"] (spM ⟨K, mg⟩ 1 m_named)) (k__law_pick : FnOk P w K mg base (L2.CX P w) 1 A0.f__law_pick A0.d__law_pick ["_law_row", "_law_many"] (spM ⟨K, mg⟩ 2 m__law_pick)) (k__law_is_plane : FnOk P w K mg base (L2.CX P w) 2 A0.f__law_is_plane A0.d__law_is_plane ["_law_value"] (spM ⟨K, mg⟩ 1 m__law_is_plane)) (k__law_wrong : FnOk P w K mg base (L2.CX P w) 6 A0.f__law_wrong A0.d__law_wrong ["_law_value", "_law_which"] (spM ⟨K, mg⟩ 2 m__law_wrong)) (cdv : Value) (A : Around) (outer : List Env) (s : Shared) (H : Hp) (E : XK) (hr : Room 6 (A.deeper (envOfC "law" (defScope s_law) s.heap.objs.size A0.f_law cdv))) :
    XSs ⟨K, mg⟩ (fun _ : Unit => cxOf (L2.CX P w) P w K mg base ["_law_script", "_law_row", "_law_value", "_law_every", "_law_names", "_law_many", "_law_some", "_law_drawn", "_law_odd", "_law_one"] "law" (defScope s_law) A0.f_law cdv A outer s H E) (fun cls d _ H => E cls d H) [0] (defBody s_law) g_law :=
  (xss_cons (xs_set (by decide) (fun t h j => ps_set sc_law.nd rfl (by first | exact .inl rfl | exact .inr rfl) (h j) rfl (by first | exact .inl rfl | exact .inr rfl)) (xe_call (fun _ => k__law_draws) (fun _ => hr.mono (by decide)) (fun _ => rfl) (fun _ => Ev.m__law_draws) (fun _ => Ev.F__law_draws.kp) (fun _ => Ev.b__law_draws) (fun _ => takes_of rfl rfl rfl rfl) (xbs_cons (xb_var fun _ => pv 0) xbs_nil (fun _ => rfl)) (len_cons (fun _ _ _ _ => len_nil)) rfl (fun _ => rfl) (fun _ => rfl))) (xss_cons (xs_set (by decide) (fun t h j => ps_set sc_law.nd rfl (by first | exact .inl rfl | exact .inr rfl) (h j) rfl (by first | exact .inl rfl | exact .inr rfl)) (xe_call (fun _ => k__law_grown) (fun _ => hr.mono (by decide)) (fun _ => rfl) (fun _ => Ev.m__law_grown) (fun _ => Ev.F__law_grown.kp) (fun _ => Ev.b__law_grown) (fun _ => takes_of rfl rfl rfl rfl) (xbs_cons (xb_var fun _ => pv 1) (xbs_cons (xb_of xe_int) xbs_nil (fun _ => rfl)) (fun _ => rfl)) (len_cons (len_cons (fun _ _ _ _ => len_nil))) rfl (fun _ => rfl) (fun _ => rfl))) (xss_cons (xs_set (by decide) (fun t h j => ps_set sc_law.nd rfl (by first | exact .inl rfl | exact .inr rfl) (h j) rfl (by first | exact .inl rfl | exact .inr rfl)) (xe_lst xbs_nil)) (xss_cons (xs_for (fun _ => passes_of (K := fun e s'' => L2.CX P w outer H s E e s'') (E₁ := fun e' s'' => L2.CX P w outer H s E e' s'') rfl) (fun _ => rfl) (xi_seq (fun _ => rfl) (xb_of (xe_call (fun _ => k__law_orders) (fun _ => hr.mono (by decide)) (fun _ => rfl) (fun _ => Ev.m__law_orders) (fun _ => Ev.F__law_orders.kp) (fun _ => Ev.b__law_orders) (fun _ => takes_of rfl rfl rfl rfl) (xbs_cons (xb_of (xe_callB (fun _ => call_lenB) prm_lenA (fun _ => rfl) (fun _ => Ev.z_len) (by decide +kernel) (xbs_cons (xb_of (xe_ix (fun _ => ix_seq) prm_ix (xb_var fun _ => pv 2) (xb_of xe_int) (fun _ _ => rfl))) xbs_nil (fun _ => rfl)) (by decide) rfl (fun _ => rfl) (fun _ => rfl))) xbs_nil (fun _ => rfl)) (len_cons (fun _ _ _ _ => len_nil)) rfl (fun _ => rfl) (fun _ => rfl)))) (xg_name (by decide) (fun _ => pg_name sc_law.nd rfl (by first | exact .inl rfl | exact .inr rfl) (by first | exact .inl rfl | exact .inr rfl))) (xss_one (xs_expr (xb_of (xe_mth (fun _ => rfl) (fun t h j => pe_bm PySem.F.plainAttrs_list PySem.F.slot_list_append PySem.F.type_list_append mt_append (pv 3) (h j)) sm_app (xbs_cons (xb_of (xe_tup (xbs_cons (xb_of (xe_call (fun _ => k__law_named) (fun _ => hr.mono (by decide)) (fun _ => rfl) (fun _ => Ev.m__law_named) (fun _ => Ev.F__law_named.kp) (fun _ => Ev.b__law_named) (fun _ => takes_of rfl rfl rfl rfl) (xbs_cons (xb_of (xe_ix (fun _ => ix_seq) prm_ix (xb_var fun _ => pv 2) (xb_of xe_int) (fun _ _ => rfl))) (xbs_cons (xb_var fun _ => pv 4) xbs_nil (fun _ => rfl)) (fun _ => rfl)) (len_cons (len_cons (fun _ _ _ _ => len_nil))) rfl (fun _ => rfl) (fun _ => rfl))) (xbs_cons (xb_of (xe_call (fun _ => k__law_named) (fun _ => hr.mono (by decide)) (fun _ => rfl) (fun _ => Ev.m__law_named) (fun _ => Ev.F__law_named.kp) (fun _ => Ev.b__law_named) (fun _ => takes_of rfl rfl rfl rfl) (xbs_cons (xb_of (xe_ix (fun _ => ix_seq) prm_ix (xb_var fun _ => pv 2) (xb_of xe_int) (fun _ _ => rfl))) (xbs_cons (xb_var fun _ => pv 4) xbs_nil (fun _ => rfl)) (fun _ => rfl)) (len_cons (len_cons (fun _ _ _ _ => len_nil))) rfl (fun _ => rfl) (fun _ => rfl))) xbs_nil (fun _ => rfl)) (fun _ => rfl)))) xbs_nil (fun _ => rfl)))) (fun _ => rfl))) (fun _ _ => rfl)) (xss_cons (xs_if (xt_w (xw_or (xt_not (xt_val (xe_call (fun _ => k_is_plane) (fun _ => hr.mono (by decide)) (fun _ => rfl) (fun _ => Ev.m_is_plane) (fun _ => Ev.F_is_plane.kp) (fun _ => Ev.b_is_plane) (fun _ => takes_of rfl rfl rfl rfl) (xbs_cons (xb_var fun _ => pv 2) xbs_nil (fun _ => rfl)) (len_cons (fun _ _ _ _ => len_nil)) rfl (fun _ => rfl) (fun _ => rfl)) (fun _ _ => rfl))) (xw_or1 (xt_cmp (fun _ => op_neD hr.units) prm_ne (xb_of (xe_call (fun _ => k_degrees_of) (fun _ => hr.mono (by decide)) (fun _ => rfl) (fun _ => Ev.m_degrees_of) (fun _ => Ev.F_degrees_of.kp) (fun _ => Ev.b_degrees_of) (fun _ => takes_of rfl rfl rfl rfl) (xbs_cons (xb_var fun _ => pv 2) xbs_nil (fun _ => rfl)) (len_cons (fun _ _ _ _ => len_nil)) rfl (fun _ => rfl) (fun _ => rfl))) (xb_of (xe_tup (xbs_cons (xb_of (xe_call (fun _ => k__law_rounds) (fun _ => hr.mono (by decide)) (fun _ => rfl) (fun _ => Ev.m__law_rounds) (fun _ => Ev.F__law_rounds.kp) (fun _ => Ev.b__law_rounds) (fun _ => takes_of rfl rfl rfl rfl) (xbs_cons (xb_of (xe_ix (fun _ => ix_seq) prm_ix (xb_var fun _ => pv 2) (xb_of xe_int) (fun _ _ => rfl))) xbs_nil (fun _ => rfl)) (len_cons (fun _ _ _ _ => len_nil)) rfl (fun _ => rfl) (fun _ => rfl))) (xbs_cons (xb_of (xe_call (fun _ => k__law_rounds) (fun _ => hr.mono (by decide)) (fun _ => rfl) (fun _ => Ev.m__law_rounds) (fun _ => Ev.F__law_rounds.kp) (fun _ => Ev.b__law_rounds) (fun _ => takes_of rfl rfl rfl rfl) (xbs_cons (xb_of (xe_ix (fun _ => ix_seq) prm_ix (xb_var fun _ => pv 2) (xb_of xe_int) (fun _ _ => rfl))) xbs_nil (fun _ => rfl)) (len_cons (fun _ _ _ _ => len_nil)) rfl (fun _ => rfl) (fun _ => rfl))) xbs_nil (fun _ => rfl)) (fun _ => rfl)))) (nomark _))))) (xss_one (xs_ret xe_bool)) xss_nil) (xss_cons (xs_if (xt_w (xw_or (xt_cmp (fun _ => op_neD hr.units) prm_ne (xb_of (xe_call (fun _ => k_named) (fun _ => hr.mono (by decide)) (fun _ => rfl) (fun _ => Ev.m_named) (fun _ => Ev.F_named.kp) (fun _ => Ev.b_named) (fun _ => takes_of rfl rfl rfl rfl) (xbs_cons (xb_var fun _ => pv 2) xbs_nil (fun _ => rfl)) (len_cons (fun _ _ _ _ => len_nil)) rfl (fun _ => rfl) (fun _ => rfl))) (xb_of (xe_callB (fun _ => cr_minP rfl (u65 hr)) prm_minP (fun _ => rfl) (fun _ => Ev.z_min) (by decide +kernel) (xbs_cons (xb_var fun _ => pv 3) xbs_nil (fun _ => rfl)) (by decide) rfl (fun _ => rfl) (fun _ => rfl))) (nomark _)) (xw_or1 (xt_cmp (fun _ => op_neD hr.units) prm_ne (xb_of (xe_call (fun _ => k_turns_of) (fun _ => hr.mono (by decide)) (fun _ => rfl) (fun _ => Ev.m_turns_of) (fun _ => Ev.F_turns_of.kp) (fun _ => Ev.b_turns_of) (fun _ => takes_of rfl rfl rfl rfl) (xbs_cons (xb_var fun _ => pv 2) xbs_nil (fun _ => rfl)) (len_cons (fun _ _ _ _ => len_nil)) rfl (fun _ => rfl) (fun _ => rfl))) (xb_of (xe_mth (fun _ => rfl) (fun t h j => pe_bm PySem.F.plainAttrs_list PySem.F.slot_list_count PySem.F.type_list_count (mt_countP (u65 hr)) (pv 3) (h j)) sm_cntP (xbs_cons (xb_var fun _ => pv 2) xbs_nil (fun _ => rfl)))) (nomark _))))) (xss_one (xs_ret xe_bool)) xss_nil) (xss_cons (xs_set (by decide) (fun t h j => ps_set sc_law.nd rfl (by first | exact .inl rfl | exact .inr rfl) (h j) rfl (by first | exact .inl rfl | exact .inr rfl)) (xe_bin (fun _ => op_addA) prm_add (xb_of xe_int) (xb_of (xe_call (fun _ => k__law_pick) (fun _ => hr.mono (by decide)) (fun _ => rfl) (fun _ => Ev.m__law_pick) (fun _ => Ev.F__law_pick.kp) (fun _ => Ev.b__law_pick) (fun _ => takes_of rfl rfl rfl rfl) (xbs_cons (xb_var fun _ => pv 1) (xbs_cons (xb_of xe_int) xbs_nil (fun _ => rfl)) (fun _ => rfl)) (len_cons (len_cons (fun _ _ _ _ => len_nil))) rfl (fun _ => rfl) (fun _ => rfl))))) (xss_cons (xs_set (by decide) (fun t h j => ps_set sc_law.nd rfl (by first | exact .inl rfl | exact .inr rfl) (h j) rfl (by first | exact .inl rfl | exact .inr rfl)) (xe_call (fun _ => k__law_orders) (fun _ => hr.mono (by decide)) (fun _ => rfl) (fun _ => Ev.m__law_orders) (fun _ => Ev.F__law_orders.kp) (fun _ => Ev.b__law_orders) (fun _ => takes_of rfl rfl rfl rfl) (xbs_cons (xb_var fun _ => pv 5) xbs_nil (fun _ => rfl)) (len_cons (fun _ _ _ _ => len_nil)) rfl (fun _ => rfl) (fun _ => rfl))) (xss_cons (xs_set (by decide) (fun t h j => ps_set sc_law.nd rfl (by first | exact .inl rfl | exact .inr rfl) (h j) rfl (by first | exact .inl rfl | exact .inr rfl)) (xe_tup (xbs_cons (xb_of (xe_ix (fun _ => ix_seq) prm_ix (xb_var fun _ => pv 6) (xb_of (xe_call (fun _ => k__law_pick) (fun _ => hr.mono (by decide)) (fun _ => rfl) (fun _ => Ev.m__law_pick) (fun _ => Ev.F__law_pick.kp) (fun _ => Ev.b__law_pick) (fun _ => takes_of rfl rfl rfl rfl) (xbs_cons (xb_var fun _ => pv 1) (xbs_cons (xb_of (xe_callB (fun _ => call_lenB) prm_lenA (fun _ => rfl) (fun _ => Ev.z_len) (by decide +kernel) (xbs_cons (xb_var fun _ => pv 6) xbs_nil (fun _ => rfl)) (by decide) rfl (fun _ => rfl) (fun _ => rfl))) xbs_nil (fun _ => rfl)) (fun _ => rfl)) (len_cons (len_cons (fun _ _ _ _ => len_nil))) rfl (fun _ => rfl) (fun _ => rfl))) (fun _ _ => rfl))) (xbs_cons (xb_of (xe_ix (fun _ => ix_seq) prm_ix (xb_var fun _ => pv 6) (xb_of (xe_call (fun _ => k__law_pick) (fun _ => hr.mono (by decide)) (fun _ => rfl) (fun _ => Ev.m__law_pick) (fun _ => Ev.F__law_pick.kp) (fun _ => Ev.b__law_pick) (fun _ => takes_of rfl rfl rfl rfl) (xbs_cons (xb_var fun _ => pv 1) (xbs_cons (xb_of (xe_callB (fun _ => call_lenB) prm_lenA (fun _ => rfl) (fun _ => Ev.z_len) (by decide +kernel) (xbs_cons (xb_var fun _ => pv 6) xbs_nil (fun _ => rfl)) (by decide) rfl (fun _ => rfl) (fun _ => rfl))) xbs_nil (fun _ => rfl)) (fun _ => rfl)) (len_cons (len_cons (fun _ _ _ _ => len_nil))) rfl (fun _ => rfl) (fun _ => rfl))) (fun _ _ => rfl))) xbs_nil (fun _ => rfl)) (fun _ => rfl)))) (xss_cons (xs_set (by decide) (fun t h j => ps_set sc_law.nd rfl (by first | exact .inl rfl | exact .inr rfl) (h j) rfl (by first | exact .inl rfl | exact .inr rfl)) (xe_lst (xbs_cons (xb_of xe_none) (xbs_cons (xb_of (xe_tup xbs_nil)) (xbs_cons (xb_of (xe_ix (fun _ => ix_seq) prm_ix (xb_var fun _ => pv 2) (xb_of xe_int) (fun _ _ => rfl))) (xbs_cons (xb_of (xe_callTy (fun _ => call_list_of) prm_list (fun _ => rfl) (fun _ => Ev.z_list) (by decide +kernel) (xbs_cons (xb_var fun _ => pv 2) xbs_nil (fun _ => rfl)) (by decide) rfl (fun _ => rfl) (fun _ => rfl))) (xbs_cons (xb_of (xe_tup (xbs_cons (xb_of (xe_ix (fun _ => ix_seq) prm_ix (xb_var fun _ => pv 2) (xb_of xe_int) (fun _ _ => rfl))) xbs_nil (fun _ => rfl)))) (xbs_cons (xb_of (xe_tup (xbs_cons (xb_of (xe_ix (fun _ => ix_seq) prm_ix (xb_var fun _ => pv 2) (xb_of xe_int) (fun _ _ => rfl))) (xbs_cons (xb_of (xe_callTy (fun _ => call_list_of) prm_list (fun _ => rfl) (fun _ => Ev.z_list) (by decide +kernel) (xbs_cons (xb_of (xe_ix (fun _ => ix_seq) prm_ix (xb_var fun _ => pv 2) (xb_of xe_int) (fun _ _ => rfl))) xbs_nil (fun _ => rfl)) (by decide) rfl (fun _ => rfl) (fun _ => rfl))) xbs_nil (fun _ => rfl)) (fun _ => rfl)))) (xbs_cons (xb_of (xe_bin (fun _ => op_mulA) prm_mul (xb_var fun _ => pv 2) (xb_of xe_int))) xbs_nil (fun _ => rfl)) (fun _ => rfl)) (fun _ => rfl)) (fun _ => rfl)) (fun _ => rfl)) (fun _ => rfl)) (fun _ => rfl)))) (xss_cons (xs_set (by decide) (fun t h j => ps_set sc_law.nd rfl (by first | exact .inl rfl | exact .inr rfl) (h j) rfl (by first | exact .inl rfl | exact .inr rfl)) (xe_bin (fun _ => op_addA) prm_add (xb_var fun _ => pv 8) (xb_of (xe_lst (xbs_cons (xb_of (xe_tup (xbs_cons (xb_of (xe_bin (fun _ => op_addA) prm_add (xb_of (xe_ix (fun _ => ix_seq) prm_ix (xb_var fun _ => pv 2) (xb_of xe_int) (fun _ _ => rfl))) (xb_of (xe_tup (xbs_cons (xb_of xe_int) xbs_nil (fun _ => rfl)))))) (xbs_cons (xb_of (xe_ix (fun _ => ix_seq) prm_ix (xb_var fun _ => pv 2) (xb_of xe_int) (fun _ _ => rfl))) xbs_nil (fun _ => rfl)) (fun _ => rfl)))) (xbs_cons (xb_of (xe_tup (xbs_cons (xb_of (xe_tup xbs_nil)) (xbs_cons (xb_of (xe_tup xbs_nil)) xbs_nil (fun _ => rfl)) (fun _ => rfl)))) (xbs_cons (xb_of (xe_tup (xbs_cons (xb_of (xe_tup (xbs_cons (xb_of xe_bool) (xbs_cons (xb_of xe_int) xbs_nil (fun _ => rfl)) (fun _ => rfl)))) (xbs_cons (xb_of (xe_tup (xbs_cons (xb_of xe_int) (xbs_cons (xb_of xe_int) xbs_nil (fun _ => rfl)) (fun _ => rfl)))) xbs_nil (fun _ => rfl)) (fun _ => rfl)))) (xbs_cons (xb_of (xe_tup (xbs_cons (xb_of (xe_tup (xbs_cons (xb_of xe_int) (xbs_cons (xb_of xe_int) xbs_nil (fun _ => rfl)) (fun _ => rfl)))) (xbs_cons (xb_of (xe_tup (xbs_cons (xb_of xe_int) (xbs_cons (xb_of xe_int) xbs_nil (fun _ => rfl)) (fun _ => rfl)))) xbs_nil (fun _ => rfl)) (fun _ => rfl)))) xbs_nil (fun _ => rfl)) (fun _ => rfl)) (fun _ => rfl)) (fun _ => rfl)))))) (xss_cons (xs_set (by decide) (fun t h j => ps_set sc_law.nd rfl (by first | exact .inl rfl | exact .inr rfl) (h j) rfl (by first | exact .inl rfl | exact .inr rfl)) (xe_bin (fun _ => op_addA) prm_add (xb_var fun _ => pv 8) (xb_of (xe_lst (xbs_cons (xb_of (xe_tup (xbs_cons (xb_of (xe_tup (xbs_cons (xb_of xe_int) (xbs_cons (xb_of xe_int) xbs_nil (fun _ => rfl)) (fun _ => rfl)))) (xbs_cons (xb_of (xe_tup (xbs_cons (xb_of xe_int) xbs_nil (fun _ => rfl)))) xbs_nil (fun _ => rfl)) (fun _ => rfl)))) (xbs_cons (xb_of (xe_tup (xbs_cons (xb_of (xe_bin (fun _ => op_mulA) prm_mul (xb_of (xe_tup (xbs_cons (xb_of xe_int) xbs_nil (fun _ => rfl)))) (xb_of xe_int))) (xbs_cons (xb_of (xe_bin (fun _ => op_mulA) prm_mul (xb_of (xe_tup (xbs_cons (xb_of xe_int) xbs_nil (fun _ => rfl)))) (xb_of xe_int))) xbs_nil (fun _ => rfl)) (fun _ => rfl)))) (xbs_cons (xb_of (xe_tup (xbs_cons (xb_of xe_str) (xbs_cons (xb_of xe_str) xbs_nil (fun _ => rfl)) (fun _ => rfl)))) (xbs_cons (xb_var fun _ => pv 7) xbs_nil (fun _ => rfl)) (fun _ => rfl)) (fun _ => rfl)) (fun _ => rfl)))))) (xss_cons (xs_expr (xb_of (xe_mth (fun _ => rfl) (fun t h j => pe_bm PySem.F.plainAttrs_list PySem.F.slot_list_append PySem.F.type_list_append mt_append (pv 8) (h j)) sm_app (xbs_cons (xb_of (xe_tup (xbs_cons (xb_of (xe_tup (xbs_cons (xb_of xe_int) (xbs_cons (xb_of xe_int) (xbs_cons (xb_of xe_int) (xbs_cons (xb_of xe_int) (xbs_cons (xb_of xe_int) (xbs_cons (xb_of xe_int) (xbs_cons (xb_of xe_int) xbs_nil (fun _ => rfl)) (fun _ => rfl)) (fun _ => rfl)) (fun _ => rfl)) (fun _ => rfl)) (fun _ => rfl)) (fun _ => rfl)))) (xbs_cons (xb_of (xe_tup (xbs_cons (xb_of xe_int) (xbs_cons (xb_of xe_int) (xbs_cons (xb_of xe_int) (xbs_cons (xb_of xe_int) (xbs_cons (xb_of xe_int) (xbs_cons (xb_of xe_int) (xbs_cons (xb_of xe_int) xbs_nil (fun _ => rfl)) (fun _ => rfl)) (fun _ => rfl)) (fun _ => rfl)) (fun _ => rfl)) (fun _ => rfl)) (fun _ => rfl)))) xbs_nil (fun _ => rfl)) (fun _ => rfl)))) xbs_nil (fun _ => rfl)))) (fun _ => rfl)) (xss_cons (xs_for (fun _ => passes_of (K := fun e s'' => L2.CX P w outer H s E e s'') (E₁ := fun e' s'' => L2.CX P w outer H s E e' s'') rfl) (fun _ => rfl) (xi_seq (fun _ => rfl) (xb_of (xe_lst (xbs_cons (xb_of (xe_ix (fun _ => ix_seq) prm_ix (xb_var fun _ => pv 8) (xb_of (xe_call (fun _ => k__law_pick) (fun _ => hr.mono (by decide)) (fun _ => rfl) (fun _ => Ev.m__law_pick) (fun _ => Ev.F__law_pick.kp) (fun _ => Ev.b__law_pick) (fun _ => takes_of rfl rfl rfl rfl) (xbs_cons (xb_var fun _ => pv 1) (xbs_cons (xb_of xe_int) xbs_nil (fun _ => rfl)) (fun _ => rfl)) (len_cons (len_cons (fun _ _ _ _ => len_nil))) rfl (fun _ => rfl) (fun _ => rfl))) (fun _ _ => rfl))) (xbs_cons (xb_var fun _ => pv 7) (xbs_cons (xb_of (xe_tup (xbs_cons (xb_of (xe_ix (fun _ => ix_seq) prm_ix (xb_var fun _ => pv 2) (xb_of xe_int) (fun _ _ => rfl))) (xbs_cons (xb_of (xe_ix (fun _ => ix_seq) prm_ix (xb_var fun _ => pv 2) (xb_of xe_int) (fun _ _ => rfl))) xbs_nil (fun _ => rfl)) (fun _ => rfl)))) xbs_nil (fun _ => rfl)) (fun _ => rfl)) (fun _ => rfl))))) (xg_name (by decide) (fun _ => pg_name sc_law.nd rfl (by first | exact .inl rfl | exact .inr rfl) (by first | exact .inl rfl | exact .inr rfl))) (xss_cons (xs_if (xt_cmp (fun _ => op_neD hr.units) prm_ne (xb_of (xe_call (fun _ => k_is_plane) (fun _ => hr.mono (by decide)) (fun _ => rfl) (fun _ => Ev.m_is_plane) (fun _ => Ev.F_is_plane.kp) (fun _ => Ev.b_is_plane) (fun _ => takes_of rfl rfl rfl rfl) (xbs_cons (xb_var fun _ => pv 9) xbs_nil (fun _ => rfl)) (len_cons (fun _ _ _ _ => len_nil)) rfl (fun _ => rfl) (fun _ => rfl))) (xb_of (xe_call (fun _ => k__law_is_plane) (fun _ => hr.mono (by decide)) (fun _ => rfl) (fun _ => Ev.m__law_is_plane) (fun _ => Ev.F__law_is_plane.kp) (fun _ => Ev.b__law_is_plane) (fun _ => takes_of rfl rfl rfl rfl) (xbs_cons (xb_var fun _ => pv 9) xbs_nil (fun _ => rfl)) (len_cons (fun _ _ _ _ => len_nil)) rfl (fun _ => rfl) (fun _ => rfl))) (nomark _)) (xss_one (xs_ret xe_bool)) xss_nil) (xss_one (xs_if (xt_w (xw_and (xt_not (xt_val (xe_call (fun _ => k__law_is_plane) (fun _ => hr.mono (by decide)) (fun _ => rfl) (fun _ => Ev.m__law_is_plane) (fun _ => Ev.F__law_is_plane.kp) (fun _ => Ev.b__law_is_plane) (fun _ => takes_of rfl rfl rfl rfl) (xbs_cons (xb_var fun _ => pv 9) xbs_nil (fun _ => rfl)) (len_cons (fun _ _ _ _ => len_nil)) rfl (fun _ => rfl) (fun _ => rfl)) (fun _ _ => rfl))) (xw_and1 (xt_cmp (fun _ => op_neD hr.units) prm_ne (xb_of (xe_call (fun _ => k__law_wrong) (fun _ => hr.mono (by decide)) (fun _ => rfl) (fun _ => Ev.m__law_wrong) (fun _ => Ev.F__law_wrong.kp) (fun _ => Ev.b__law_wrong) (fun _ => takes_of rfl rfl rfl rfl) (xbs_cons (xb_var fun _ => pv 9) (xbs_cons (xb_of (xe_call (fun _ => k__law_pick) (fun _ => hr.mono (by decide)) (fun _ => rfl) (fun _ => Ev.m__law_pick) (fun _ => Ev.F__law_pick.kp) (fun _ => Ev.b__law_pick) (fun _ => takes_of rfl rfl rfl rfl) (xbs_cons (xb_var fun _ => pv 1) (xbs_cons (xb_of xe_int) xbs_nil (fun _ => rfl)) (fun _ => rfl)) (len_cons (len_cons (fun _ _ _ _ => len_nil))) rfl (fun _ => rfl) (fun _ => rfl))) xbs_nil (fun _ => rfl)) (fun _ => rfl)) (len_cons (len_cons (fun _ _ _ _ => len_nil))) rfl (fun _ => rfl) (fun _ => rfl))) (xb_of xe_str) (nomark _))))) (xss_one (xs_ret xe_bool)) xss_nil))) (fun _ _ => rfl)) (xss_one (xs_ret xe_bool))))))))))))))))
theorem o_law (Ev : Evd P w K mg base A0) (k__law_draws : FnOk P w K mg base (L2.CX P w) 1 A0.f__law_draws A0.d__law_draws ["_law_script"] (spM ⟨K, mg⟩ 1 m__law_draws)) (k__law_grown : FnOk P w K mg base (L2.CX P w) 2 A0.f__law_grown A0.d__law_grown ["_law_row", "_law_most"] (spM ⟨K, mg⟩ 2 m__law_grown)) (k__law_orders : FnOk P w K mg base (L2.CX P w) 1 A0.f__law_orders A0.d__law_orders ["_law_many"] (spM ⟨K, mg⟩ 1 m__law_orders)) (k__law_named : FnOk P w K mg base (L2.CX P w) 1 A0.f__law_named A0.d__law_named ["_law_turn", "_law_names"] (spM ⟨K, mg⟩ 2 m__law_named)) (k_degrees_of : FnOk P w K mg base (L2.CX P w) 5 A0.f_degrees_of A0.d_degrees_of ["value"] (spM ⟨K, mg⟩ 1 m_degrees_of)) (k__law_rounds : FnOk P w K mg base (L2.CX P w) 1 A0.f__law_rounds A0.d__law_rounds ["_law_turn"] (spM ⟨K, mg⟩ 1 m__law_rounds)) (k_is_plane : FnOk P w K mg base (L2.CX P w) 3 A0.f_is_plane A0.d_is_plane ["value"] (spM ⟨K, mg⟩ 1 m_is_plane)) (k_turns_of : FnOk P w K mg base (L2.CX P w) 5 A0.f_turns_of A0.d_turns_of ["value"] (spM ⟨K, mg⟩ 1 m_turns_of)) (k_named : FnOk P w K mg base (L2.CX P w) 5 A0.f_named A0.d_named ["value"] (spM ⟨K, mg⟩ 1 m_named)) (k__law_pick : FnOk P w K mg base (L2.CX P w) 1 A0.f__law_pick A0.d__law_pick ["_law_row", "_law_many"] (spM ⟨K, mg⟩ 2 m__law_pick)) (k__law_is_plane : FnOk P w K mg base (L2.CX P w) 2 A0.f__law_is_plane A0.d__law_is_plane ["_law_value"] (spM ⟨K, mg⟩ 1 m__law_is_plane)) (k__law_wrong : FnOk P w K mg base (L2.CX P w) 6 A0.f__law_wrong A0.d__law_wrong ["_law_value", "_law_which"] (spM ⟨K, mg⟩ 2 m__law_wrong)) (h : ∀ cs o, m_law cs = some o → ∃ n out, g_law n (startR 10 cs) = some out ∧ fin [true] out = some o) : FnOk P w K mg base (L2.CX P w) 7 A0.f_law A0.d_law ["_law_script"] (spM ⟨K, mg⟩ 1 m_law) :=
  def_ok (fl := [true]) (Pk := [0]) Ev.F_law sc_law rfl (flB_ok rfl) (by decide) (fun cdv A outer s H E hr => w_law Ev k__law_draws k__law_grown k__law_orders k__law_named k_degrees_of k__law_rounds k_is_plane k_turns_of k_named k__law_pick k__law_is_plane k__law_wrong cdv A outer s H E hr) h
end
end L3

namespace L3
open PySem PySem.Spec L2 PyProof.Rows
def clsInit (s : Stmt) : Stmt := match s with
  | .ClassDef (body := b :: _) .. => b
  | _ => s
theorem mem_c {α : Type} {p : α → Prop} {x : α} {l : List α} (h : p x) (r : ∀ y ∈ l, p y) : ∀ y ∈ x :: l, p y := fun y hy => by
  rcases List.mem_cons.mp hy with e | hy
  · rw [e]; exact h
  · exact r y hy
/-- the law's promise: true for every script -/
def spLaw (K : PySem.W.Frag) : Sp := fun vs H Q _ => ∃ (a : Addr) (ns : List Int), vs = [.ref a] ∧ SqL K H a (ns.map V.int) ∧ ∀ H', Q (.bl true) H'
theorem sp_law {G : Gd} {m : Mr} {vs : List V} {H : Hp} {Q : VK} {E : XK} (h : spLaw G.K vs H Q E) (hm : ∀ ns : List Int, ∃ outs, m [.fz (.list (zs ns))] = some (.ok (.b true) outs)) : spM G 1 m vs H Q E := by
  obtain ⟨a, ns, rfl, hS, q⟩ := h
  obtain ⟨outs, e⟩ := hm ns
  refine ⟨rfl, [.fz (.list (zs ns))], H, [], _, rfl, ⟨Same.refl _, [], .nil, ?_⟩, e, fun F' H' v s hr => ?_⟩
  · exact .cons (A := []) (.fz (.lst hS (RpA.of_ints ns))) .nil
  · have r := hr.rp
    cases r
    exact q H'
theorem cx_no {P : Program} {w : World} {outer : List Env} {H : Hp} {s s' : Shared} {u : Value} (h : L2.CX P w outer H s (fun _ _ _ => False) u s') : False := by
  obtain ⟨_, _, _, _, _, _, _, _, _, _, _, _, z⟩ := h
  exact z
end L3

namespace L3
open PySem PySem.Spec L2
/-! ### the head by the kernel: facts as Bools over what the module's names reach -/
theorem fx_at {l : List Bool} (h : l.all id = true) (i : Nat) {p : Prop} [d : Decidable p] (e : l[i]? = some (decide p) := by rfl) : p :=
  of_decide_eq_true (List.all_eq_true.mp h _ (List.mem_of_getElem? e))
theorem fx_b {l : List Bool} (h : l.all id = true) (i : Nat) {b : Bool} (e : l[i]? = some b := by rfl) : b = true :=
  List.all_eq_true.mp h _ (List.mem_of_getElem? e)
/-- the sign of a constant of the module -/
def tokA (K : PySem.W.Frag) (x : Str) : Tok := match PySem.W.nsIn K mainGlobals x with
  | some (some (.int _ t)) => t
  | some (some (.str _ t)) => t
  | _ => default
def intsB : List Value → List Int → Bool
  | [], [] => true
  | .int i _ :: us, n :: ns => decide (i = n) && intsB us ns
  | _, _ => false
theorem intsB_ok : ∀ {us : List Value} {ns : List Int}, intsB us ns = true → Vals (ns.map V.int) us
  | [], [], _ => .nil
  | [], _ :: _, h => by cases h
  | .int i t :: us, n :: ns, h => by
    have ⟨h1, h2⟩ := He.ba (show (decide (i = n) && intsB us ns) = true from h)
    exact .cons ⟨t, by rw [of_decide_eq_true h1]⟩ (intsB_ok h2)
  | .int _ _ :: _, [], h => by cases h
  | .none :: _, _, h => by cases h
  | .ellipsis :: _, _, h => by cases h
  | .notImplemented :: _, _, h => by cases h
  | .bool _ :: _, _, h => by cases h
  | .float _ _ :: _, _, h => by cases h
  | .str _ _ :: _, _, h => by cases h
  | .bytes _ _ :: _, _, h => by cases h
  | .type _ :: _, _, h => by cases h
  | .builtin _ :: _, _, h => by cases h
  | .ref _ :: _, _, h => by cases h
def tupFB (K : PySem.W.Frag) (a : Addr) (ns : List Int) : Bool := match K.lookup a with
  | some ⟨.type c, _, .seq us _, _⟩ => decide (c = "tuple") && (Nat.ble us.size 1000 && intsB us.toList ns)
  | _ => false
theorem tupFB_ok {K : PySem.W.Frag} {a : Addr} {ns : List Int} (h : tupFB K a ns = true) : TupIs K a ns := by
  unfold tupFB at h
  split at h
  · rename_i c od us n sl e
    have ⟨h1, h2⟩ := He.ba h
    have ⟨h3, h4⟩ := He.ba h2
    have h1 := of_decide_eq_true h1
    subst h1
    exact tupIs_mk e (Nat.le_trans (Nat.le_of_ble_eq_true h3) (by show 1000 ≤ sizeLine; decide)) (intsB_ok h4)
  · cases h
/-- a class of errors with an own __init__ -/
def excB (K : PySem.W.Frag) (C : Addr) : Bool := match K.lookup C with
  | some ⟨.type c, _, .cls ⟨_, _, .ref C' :: bm, _, _, hd, _, _, _, _, hdel⟩, ⟨[_, _, _, _, some (.builtin b), _]⟩⟩ => decide (c = "type") && (decide (C' = C) && (PySem.HandSPX.refsVE bm && (hd && (!hdel && decide (b = "ValueError.__new__")))))
  | _ => false
theorem excB_ok {K : PySem.W.Frag} {C : Addr} (h : excB K C = true) : ∃ nm q N bs bm sn sub ab col dd k0 k1 k2 k3 k5, K.lookup C = some (excClassObj nm q C N bs bm true sn sub ab col dd k0 k1 k2 k3 k5 "ValueError.__new__") ∧ PySem.HandSPX.refsVE bm = true := by
  unfold excB at h
  split at h
  · rename_i c dd nm bs C' bm N q hd sn sub ab col hdel k0 k1 k2 k3 b k5 e
    have ⟨h1, h⟩ := He.ba h
    have ⟨h2, h⟩ := He.ba h
    have ⟨h3, h⟩ := He.ba h
    have ⟨h4, h⟩ := He.ba h
    have ⟨h5, h6⟩ := He.ba h
    have h1 := of_decide_eq_true h1
    have h2 := of_decide_eq_true h2
    have h6 := of_decide_eq_true h6
    subst h1 h2 h6 h4
    have h5 : hdel = false := by cases hdel; rfl; cases h5
    subst h5
    exact ⟨_, _, _, _, _, _, _, _, _, _, _, _, _, _, _, e, h3⟩
  · cases h
/-- the whole heap as a part -/
def allG (g : Addr → Option Obj) (n : Nat) : PySem.W.Frag := He.frG g (mainGlobals :: List.range n)
/-- the Hook -/
def hkX (ex : PySem.W.Frag → List Bool) (fn : List He.FnD) : PySem.W.Hook where
  α := Bool × He.Al
  obs := fun s => ((ex (allG s.heap.get? s.heap.objs.size)).all id, He.obsE [] fn (allG s.heap.get? s.heap.objs.size))
  val := fun _ => (true, He.valE fn)
  says := fun _ h => ∃ K : PySem.W.Frag, K.In h ∧ (ex K).all id = true ∧ He.SaysE [] fn K
  of := fun _ _ e => ⟨_, He.frG_in, congrArg Prod.fst e, congrArg Prod.snd e⟩
  keeps := fun _ _ _ ⟨K, a, b, c⟩ k => ⟨K, PySem.W.Frag.In.keeps a k, b, c⟩
/-- what stands behind the top -/
def KfX (s : PySem.W.SharedT) : PySem.W.Frag := allG (HandSHeadRun.getT s) s.n
def obX (ex : PySem.W.Frag → List Bool) (fn : List He.FnD) (s : PySem.W.SharedT) : Bool × He.Al := ((ex (KfX s)).all id, He.obsE [] fn (KfX s))
theorem obX_eq {ex : PySem.W.Frag → List Bool} {fn : List He.FnD} (s : PySem.W.SharedT) : obX ex fn s = (hkX ex fn).obs s.abs := by
  have e : HandSHeadRun.getT s = s.abs.heap.get? := funext fun a => HandSHeadRun.getT_eq s a
  have z : s.n = s.abs.heap.objs.size := (PySem.W.absHeap_size s.tree s.n s.life).symm
  unfold obX KfX
  rw [e, z]
  rfl
/-- a law's end, what is raised told by the world -/
theorem end_of {law : PySem.W.OpenLaw} {m j : Nat} {view : Program} {los : List Str} {XP : (Str → Option Value) → Heap → Prop} {YP : World → Heap → Prop} {dr : DefRec} {cx : World → CXT} {par : Str}
    (hm : law.most = some m) (hz : m ≤ sizeLine) (nod : dr.params.defaults = []) (room : Room j callerA)
    (Fd : ∀ (w : World) (g : Str → Option Value) (fa : Addr) (h : Heap), YP w h → h.Ns mainGlobals g → g dr.name = some (.ref fa) → ∃ (K : PySem.W.Frag) (fd : FuncData), K.In h ∧ (∀ (s : Shared) (u : Value), BindsTo s fd ⟨[u], []⟩ [(par, u)]) ∧ ∀ b : Heap, K.In b → b.Ns mainGlobals g → FnOk law.prog w K g b (cx w) j fa fd [par] (spLaw K))
    (no : ∀ (w : World) (H : Hp) (s : Shared) (e : Value) (s' : Shared), cx w [] H s (fun _ _ _ => False) e s' → False) : PySem.W.WalkO view los XP YP law.row.toRowW dr [] (fun f vs => PySem.call f vs) :=
  Att.attach_call hm nod fun w _ s1 g _ fa _ _ _ _ a us ks Gd Y _ _ _ at_ obj nums few bare => by
    have ⟨K, fd, inn, bi, run⟩ := Fd w g fa _ Y Gd.T.g at_
    exact law_call inn Gd.T.g Gd.T.b Gd.T.builtins Gd.T.nolimit bare obj nums (Nat.le_trans few hz) room run bi (fun H _ sq => ⟨a, ks, rfl, sq, fun _ => rfl⟩) fun H e s' => no w H s1 e s'
end L3
namespace L3
open PySem PySem.Spec L2
theorem obs_app {a b : List He.FnD} {K : PySem.W.Frag} (h1 : He.obsE [] a K = He.valE a) (h2 : He.obsE [] b K = He.valE b) : He.obsE [] (a ++ b) K = He.valE (a ++ b) := by
  have e1 := congrArg Prod.fst h1
  have e2 := congrArg Prod.fst h2
  have e3 := congrArg Prod.snd h1
  have e4 := congrArg Prod.snd h2
  simp only [He.obsE, He.valE, List.all_nil, Bool.true_and] at e1 e2 e3 e4 ⊢
  rw [List.all_append, e1, e2, List.map_append, List.map_append, e3, e4]
  rfl
theorem map_at {α β : Type} {o : Option α} {s : α} {f : α → β} {b : β} (h : o.map f = some b) (e : o = some s) : f s = b := by
  rw [e] at h
  exact Option.some.inj h
end L3

namespace L3
open PySem PySem.Spec L2 PyProof.Rows
section
variable {P : Program} {w : World} {K : PySem.W.Frag} {mg : Str → Option Value} {base : Heap} {A0 : Ad}
theorem ok_all (Ev : Evd P w K mg base A0) : FnOk P w K mg base (L2.CX P w) 7 A0.f_law A0.d_law ["_law_script"] (spM ⟨K, mg⟩ 1 m_law) := by
  have k__law_draws := o__law_draws Ev h__law_draws
  have k__law_pick := o__law_pick Ev h__law_pick
  have k__law_grown := o__law_grown Ev k__law_pick h__law_grown
  have k__law_orders := o__law_orders Ev h__law_orders
  have k_rounds_of := o_rounds_of Ev h_rounds_of
  have k_is_from := o_is_from Ev h_is_from
  have k_is_turn := o_is_turn Ev k_is_from h_is_turn
  have k_behind := o_behind Ev h_behind
  have k_is_plane := o_is_plane Ev k_is_turn k_rounds_of k_behind h_is_plane
  have k_check_plane := o_check_plane Ev k_is_plane h_check_plane
  have k_degrees_of := o_degrees_of Ev k_check_plane k_rounds_of h_degrees_of
  have k_renamed := o_renamed Ev h_renamed
  have k_all_turns := o_all_turns Ev h_all_turns
  have k_named_of := o_named_of Ev k_all_turns k_renamed h_named_of
  have k_named := o_named Ev k_check_plane k_named_of h_named
  have k_turns_of := o_turns_of Ev k_check_plane k_all_turns k_renamed h_turns_of
  have k__law_rounds := o__law_rounds Ev h__law_rounds
  have k__law_is_whole := o__law_is_whole Ev h__law_is_whole
  have k__law_is_plane := o__law_is_plane Ev k__law_is_whole k__law_rounds h__law_is_plane
  have k__law_named := o__law_named Ev h__law_named
  have k__law_wrong := o__law_wrong Ev k_degrees_of k_named k_turns_of h__law_wrong
  have k_law := o_law Ev k__law_draws k__law_grown k__law_orders k__law_named k_degrees_of k__law_rounds k_is_plane k_turns_of k_named k__law_pick k__law_is_plane k__law_wrong h_law
  exact k_law
end
set_option maxHeartbeats 0 in
theorem all_mk {P : Program} {w : World} {K : PySem.W.Frag} {h : Heap} {mg : Str → Option Value} {fa : Addr} (X : K.In h) (G : h.Ns mainGlobals mg) (hfa : mg "law" = some (.ref fa))
    {f__law_draws : Addr} {od__law_draws an__law_draws : Option Addr} {sl__law_draws : Array (Option Value)} {oc__law_draws kV__law_draws dc__law_draws pm__law_draws cd__law_draws ct__law_draws : Value}
    {f__law_pick : Addr} {od__law_pick an__law_pick : Option Addr} {sl__law_pick : Array (Option Value)} {oc__law_pick kV__law_pick dc__law_pick pm__law_pick cd__law_pick ct__law_pick : Value}
    {f__law_grown : Addr} {od__law_grown an__law_grown : Option Addr} {sl__law_grown : Array (Option Value)} {oc__law_grown kV__law_grown dc__law_grown pm__law_grown cd__law_grown ct__law_grown : Value}
    {f__law_orders : Addr} {od__law_orders an__law_orders : Option Addr} {sl__law_orders : Array (Option Value)} {oc__law_orders kV__law_orders dc__law_orders pm__law_orders cd__law_orders ct__law_orders : Value}
    {f_rounds_of : Addr} {od_rounds_of an_rounds_of : Option Addr} {sl_rounds_of : Array (Option Value)} {oc_rounds_of kV_rounds_of dc_rounds_of pm_rounds_of cd_rounds_of ct_rounds_of : Value}
    {f_is_from : Addr} {od_is_from an_is_from : Option Addr} {sl_is_from : Array (Option Value)} {oc_is_from kV_is_from dc_is_from pm_is_from cd_is_from ct_is_from : Value}
    {f_is_turn : Addr} {od_is_turn an_is_turn : Option Addr} {sl_is_turn : Array (Option Value)} {oc_is_turn kV_is_turn dc_is_turn pm_is_turn cd_is_turn ct_is_turn : Value}
    {f_behind : Addr} {od_behind an_behind : Option Addr} {sl_behind : Array (Option Value)} {oc_behind kV_behind dc_behind pm_behind cd_behind ct_behind : Value}
    {f_is_plane : Addr} {od_is_plane an_is_plane : Option Addr} {sl_is_plane : Array (Option Value)} {oc_is_plane kV_is_plane dc_is_plane pm_is_plane cd_is_plane ct_is_plane : Value}
    {f_check_plane : Addr} {od_check_plane an_check_plane : Option Addr} {sl_check_plane : Array (Option Value)} {oc_check_plane kV_check_plane dc_check_plane pm_check_plane cd_check_plane ct_check_plane : Value}
    {f_degrees_of : Addr} {od_degrees_of an_degrees_of : Option Addr} {sl_degrees_of : Array (Option Value)} {oc_degrees_of kV_degrees_of dc_degrees_of pm_degrees_of cd_degrees_of ct_degrees_of : Value}
    {f_renamed : Addr} {od_renamed an_renamed : Option Addr} {sl_renamed : Array (Option Value)} {oc_renamed kV_renamed dc_renamed pm_renamed cd_renamed ct_renamed : Value}
    {f_all_turns : Addr} {od_all_turns an_all_turns : Option Addr} {sl_all_turns : Array (Option Value)} {oc_all_turns kV_all_turns dc_all_turns pm_all_turns cd_all_turns ct_all_turns : Value}
    {f_named_of : Addr} {od_named_of an_named_of : Option Addr} {sl_named_of : Array (Option Value)} {oc_named_of kV_named_of dc_named_of pm_named_of cd_named_of ct_named_of : Value}
    {f_named : Addr} {od_named an_named : Option Addr} {sl_named : Array (Option Value)} {oc_named kV_named dc_named pm_named cd_named ct_named : Value}
    {f_turns_of : Addr} {od_turns_of an_turns_of : Option Addr} {sl_turns_of : Array (Option Value)} {oc_turns_of kV_turns_of dc_turns_of pm_turns_of cd_turns_of ct_turns_of : Value}
    {f__law_rounds : Addr} {od__law_rounds an__law_rounds : Option Addr} {sl__law_rounds : Array (Option Value)} {oc__law_rounds kV__law_rounds dc__law_rounds pm__law_rounds cd__law_rounds ct__law_rounds : Value}
    {f__law_is_whole : Addr} {od__law_is_whole an__law_is_whole : Option Addr} {sl__law_is_whole : Array (Option Value)} {oc__law_is_whole kV__law_is_whole dc__law_is_whole pm__law_is_whole cd__law_is_whole ct__law_is_whole : Value}
    {f__law_is_plane : Addr} {od__law_is_plane an__law_is_plane : Option Addr} {sl__law_is_plane : Array (Option Value)} {oc__law_is_plane kV__law_is_plane dc__law_is_plane pm__law_is_plane cd__law_is_plane ct__law_is_plane : Value}
    {f__law_named : Addr} {od__law_named an__law_named : Option Addr} {sl__law_named : Array (Option Value)} {oc__law_named kV__law_named dc__law_named pm__law_named cd__law_named ct__law_named : Value}
    {f__law_wrong : Addr} {od__law_wrong an__law_wrong : Option Addr} {sl__law_wrong : Array (Option Value)} {oc__law_wrong kV__law_wrong dc__law_wrong pm__law_wrong cd__law_wrong ct__law_wrong : Value}
    {f_law : Addr} {od_law an_law : Option Addr} {sl_law : Array (Option Value)} {oc_law kV_law dc_law pm_law cd_law ct_law : Value}
    {t_MOST_TIES : Tok}
    {C_BadPlane : Addr}
    {C_RootError : Addr}
    (a__law_draws : PySem.W.nsIn K mainGlobals "_law_draws" = some (some (.ref f__law_draws)))
    (l__law_draws : K.lookup f__law_draws = some ⟨oc__law_draws, od__law_draws, .func (PySem.W.fnOf "_law_draws" "_law_draws" (defArgs s__law_draws) (defBody s__law_draws) (defScope s__law_draws) .none kV__law_draws dc__law_draws pm__law_draws an__law_draws cd__law_draws ct__law_draws), sl__law_draws⟩)
    (c__law_draws : PySem.W.codeIn K cd__law_draws "_law_draws" = true)
    (k__law_draws : PySem.W.keepIn K (.ref f__law_draws) = true)
    (a__law_pick : PySem.W.nsIn K mainGlobals "_law_pick" = some (some (.ref f__law_pick)))
    (l__law_pick : K.lookup f__law_pick = some ⟨oc__law_pick, od__law_pick, .func (PySem.W.fnOf "_law_pick" "_law_pick" (defArgs s__law_pick) (defBody s__law_pick) (defScope s__law_pick) .none kV__law_pick dc__law_pick pm__law_pick an__law_pick cd__law_pick ct__law_pick), sl__law_pick⟩)
    (c__law_pick : PySem.W.codeIn K cd__law_pick "_law_pick" = true)
    (k__law_pick : PySem.W.keepIn K (.ref f__law_pick) = true)
    (a__law_grown : PySem.W.nsIn K mainGlobals "_law_grown" = some (some (.ref f__law_grown)))
    (l__law_grown : K.lookup f__law_grown = some ⟨oc__law_grown, od__law_grown, .func (PySem.W.fnOf "_law_grown" "_law_grown" (defArgs s__law_grown) (defBody s__law_grown) (defScope s__law_grown) .none kV__law_grown dc__law_grown pm__law_grown an__law_grown cd__law_grown ct__law_grown), sl__law_grown⟩)
    (c__law_grown : PySem.W.codeIn K cd__law_grown "_law_grown" = true)
    (k__law_grown : PySem.W.keepIn K (.ref f__law_grown) = true)
    (a__law_orders : PySem.W.nsIn K mainGlobals "_law_orders" = some (some (.ref f__law_orders)))
    (l__law_orders : K.lookup f__law_orders = some ⟨oc__law_orders, od__law_orders, .func (PySem.W.fnOf "_law_orders" "_law_orders" (defArgs s__law_orders) (defBody s__law_orders) (defScope s__law_orders) .none kV__law_orders dc__law_orders pm__law_orders an__law_orders cd__law_orders ct__law_orders), sl__law_orders⟩)
    (c__law_orders : PySem.W.codeIn K cd__law_orders "_law_orders" = true)
    (k__law_orders : PySem.W.keepIn K (.ref f__law_orders) = true)
    (a_rounds_of : PySem.W.nsIn K mainGlobals "rounds_of" = some (some (.ref f_rounds_of)))
    (l_rounds_of : K.lookup f_rounds_of = some ⟨oc_rounds_of, od_rounds_of, .func (PySem.W.fnOf "rounds_of" "rounds_of" (defArgs s_rounds_of) (defBody s_rounds_of) (defScope s_rounds_of) .none kV_rounds_of dc_rounds_of pm_rounds_of an_rounds_of cd_rounds_of ct_rounds_of), sl_rounds_of⟩)
    (c_rounds_of : PySem.W.codeIn K cd_rounds_of "rounds_of" = true)
    (k_rounds_of : PySem.W.keepIn K (.ref f_rounds_of) = true)
    (a_is_from : PySem.W.nsIn K mainGlobals "is_from" = some (some (.ref f_is_from)))
    (l_is_from : K.lookup f_is_from = some ⟨oc_is_from, od_is_from, .func (PySem.W.fnOf "is_from" "is_from" (defArgs s_is_from) (defBody s_is_from) (defScope s_is_from) .none kV_is_from dc_is_from pm_is_from an_is_from cd_is_from ct_is_from), sl_is_from⟩)
    (c_is_from : PySem.W.codeIn K cd_is_from "is_from" = true)
    (k_is_from : PySem.W.keepIn K (.ref f_is_from) = true)
    (a_is_turn : PySem.W.nsIn K mainGlobals "is_turn" = some (some (.ref f_is_turn)))
    (l_is_turn : K.lookup f_is_turn = some ⟨oc_is_turn, od_is_turn, .func (PySem.W.fnOf "is_turn" "is_turn" (defArgs s_is_turn) (defBody s_is_turn) (defScope s_is_turn) .none kV_is_turn dc_is_turn pm_is_turn an_is_turn cd_is_turn ct_is_turn), sl_is_turn⟩)
    (c_is_turn : PySem.W.codeIn K cd_is_turn "is_turn" = true)
    (k_is_turn : PySem.W.keepIn K (.ref f_is_turn) = true)
    (a_behind : PySem.W.nsIn K mainGlobals "behind" = some (some (.ref f_behind)))
    (l_behind : K.lookup f_behind = some ⟨oc_behind, od_behind, .func (PySem.W.fnOf "behind" "behind" (defArgs s_behind) (defBody s_behind) (defScope s_behind) .none kV_behind dc_behind pm_behind an_behind cd_behind ct_behind), sl_behind⟩)
    (c_behind : PySem.W.codeIn K cd_behind "behind" = true)
    (k_behind : PySem.W.keepIn K (.ref f_behind) = true)
    (a_is_plane : PySem.W.nsIn K mainGlobals "is_plane" = some (some (.ref f_is_plane)))
    (l_is_plane : K.lookup f_is_plane = some ⟨oc_is_plane, od_is_plane, .func (PySem.W.fnOf "is_plane" "is_plane" (defArgs s_is_plane) (defBody s_is_plane) (defScope s_is_plane) .none kV_is_plane dc_is_plane pm_is_plane an_is_plane cd_is_plane ct_is_plane), sl_is_plane⟩)
    (c_is_plane : PySem.W.codeIn K cd_is_plane "is_plane" = true)
    (k_is_plane : PySem.W.keepIn K (.ref f_is_plane) = true)
    (a_check_plane : PySem.W.nsIn K mainGlobals "check_plane" = some (some (.ref f_check_plane)))
    (l_check_plane : K.lookup f_check_plane = some ⟨oc_check_plane, od_check_plane, .func (PySem.W.fnOf "check_plane" "check_plane" (defArgs s_check_plane) (defBody s_check_plane) (defScope s_check_plane) .none kV_check_plane dc_check_plane pm_check_plane an_check_plane cd_check_plane ct_check_plane), sl_check_plane⟩)
    (c_check_plane : PySem.W.codeIn K cd_check_plane "check_plane" = true)
    (k_check_plane : PySem.W.keepIn K (.ref f_check_plane) = true)
    (a_degrees_of : PySem.W.nsIn K mainGlobals "degrees_of" = some (some (.ref f_degrees_of)))
    (l_degrees_of : K.lookup f_degrees_of = some ⟨oc_degrees_of, od_degrees_of, .func (PySem.W.fnOf "degrees_of" "degrees_of" (defArgs s_degrees_of) (defBody s_degrees_of) (defScope s_degrees_of) .none kV_degrees_of dc_degrees_of pm_degrees_of an_degrees_of cd_degrees_of ct_degrees_of), sl_degrees_of⟩)
    (c_degrees_of : PySem.W.codeIn K cd_degrees_of "degrees_of" = true)
    (k_degrees_of : PySem.W.keepIn K (.ref f_degrees_of) = true)
    (a_renamed : PySem.W.nsIn K mainGlobals "renamed" = some (some (.ref f_renamed)))
    (l_renamed : K.lookup f_renamed = some ⟨oc_renamed, od_renamed, .func (PySem.W.fnOf "renamed" "renamed" (defArgs s_renamed) (defBody s_renamed) (defScope s_renamed) .none kV_renamed dc_renamed pm_renamed an_renamed cd_renamed ct_renamed), sl_renamed⟩)
    (c_renamed : PySem.W.codeIn K cd_renamed "renamed" = true)
    (k_renamed : PySem.W.keepIn K (.ref f_renamed) = true)
    (a_all_turns : PySem.W.nsIn K mainGlobals "all_turns" = some (some (.ref f_all_turns)))
    (l_all_turns : K.lookup f_all_turns = some ⟨oc_all_turns, od_all_turns, .func (PySem.W.fnOf "all_turns" "all_turns" (defArgs s_all_turns) (defBody s_all_turns) (defScope s_all_turns) .none kV_all_turns dc_all_turns pm_all_turns an_all_turns cd_all_turns ct_all_turns), sl_all_turns⟩)
    (c_all_turns : PySem.W.codeIn K cd_all_turns "all_turns" = true)
    (k_all_turns : PySem.W.keepIn K (.ref f_all_turns) = true)
    (a_named_of : PySem.W.nsIn K mainGlobals "named_of" = some (some (.ref f_named_of)))
    (l_named_of : K.lookup f_named_of = some ⟨oc_named_of, od_named_of, .func (PySem.W.fnOf "named_of" "named_of" (defArgs s_named_of) (defBody s_named_of) (defScope s_named_of) .none kV_named_of dc_named_of pm_named_of an_named_of cd_named_of ct_named_of), sl_named_of⟩)
    (c_named_of : PySem.W.codeIn K cd_named_of "named_of" = true)
    (k_named_of : PySem.W.keepIn K (.ref f_named_of) = true)
    (a_named : PySem.W.nsIn K mainGlobals "named" = some (some (.ref f_named)))
    (l_named : K.lookup f_named = some ⟨oc_named, od_named, .func (PySem.W.fnOf "named" "named" (defArgs s_named) (defBody s_named) (defScope s_named) .none kV_named dc_named pm_named an_named cd_named ct_named), sl_named⟩)
    (c_named : PySem.W.codeIn K cd_named "named" = true)
    (k_named : PySem.W.keepIn K (.ref f_named) = true)
    (a_turns_of : PySem.W.nsIn K mainGlobals "turns_of" = some (some (.ref f_turns_of)))
    (l_turns_of : K.lookup f_turns_of = some ⟨oc_turns_of, od_turns_of, .func (PySem.W.fnOf "turns_of" "turns_of" (defArgs s_turns_of) (defBody s_turns_of) (defScope s_turns_of) .none kV_turns_of dc_turns_of pm_turns_of an_turns_of cd_turns_of ct_turns_of), sl_turns_of⟩)
    (c_turns_of : PySem.W.codeIn K cd_turns_of "turns_of" = true)
    (k_turns_of : PySem.W.keepIn K (.ref f_turns_of) = true)
    (a__law_rounds : PySem.W.nsIn K mainGlobals "_law_rounds" = some (some (.ref f__law_rounds)))
    (l__law_rounds : K.lookup f__law_rounds = some ⟨oc__law_rounds, od__law_rounds, .func (PySem.W.fnOf "_law_rounds" "_law_rounds" (defArgs s__law_rounds) (defBody s__law_rounds) (defScope s__law_rounds) .none kV__law_rounds dc__law_rounds pm__law_rounds an__law_rounds cd__law_rounds ct__law_rounds), sl__law_rounds⟩)
    (c__law_rounds : PySem.W.codeIn K cd__law_rounds "_law_rounds" = true)
    (k__law_rounds : PySem.W.keepIn K (.ref f__law_rounds) = true)
    (a__law_is_whole : PySem.W.nsIn K mainGlobals "_law_is_whole" = some (some (.ref f__law_is_whole)))
    (l__law_is_whole : K.lookup f__law_is_whole = some ⟨oc__law_is_whole, od__law_is_whole, .func (PySem.W.fnOf "_law_is_whole" "_law_is_whole" (defArgs s__law_is_whole) (defBody s__law_is_whole) (defScope s__law_is_whole) .none kV__law_is_whole dc__law_is_whole pm__law_is_whole an__law_is_whole cd__law_is_whole ct__law_is_whole), sl__law_is_whole⟩)
    (c__law_is_whole : PySem.W.codeIn K cd__law_is_whole "_law_is_whole" = true)
    (k__law_is_whole : PySem.W.keepIn K (.ref f__law_is_whole) = true)
    (a__law_is_plane : PySem.W.nsIn K mainGlobals "_law_is_plane" = some (some (.ref f__law_is_plane)))
    (l__law_is_plane : K.lookup f__law_is_plane = some ⟨oc__law_is_plane, od__law_is_plane, .func (PySem.W.fnOf "_law_is_plane" "_law_is_plane" (defArgs s__law_is_plane) (defBody s__law_is_plane) (defScope s__law_is_plane) .none kV__law_is_plane dc__law_is_plane pm__law_is_plane an__law_is_plane cd__law_is_plane ct__law_is_plane), sl__law_is_plane⟩)
    (c__law_is_plane : PySem.W.codeIn K cd__law_is_plane "_law_is_plane" = true)
    (k__law_is_plane : PySem.W.keepIn K (.ref f__law_is_plane) = true)
    (a__law_named : PySem.W.nsIn K mainGlobals "_law_named" = some (some (.ref f__law_named)))
    (l__law_named : K.lookup f__law_named = some ⟨oc__law_named, od__law_named, .func (PySem.W.fnOf "_law_named" "_law_named" (defArgs s__law_named) (defBody s__law_named) (defScope s__law_named) .none kV__law_named dc__law_named pm__law_named an__law_named cd__law_named ct__law_named), sl__law_named⟩)
    (c__law_named : PySem.W.codeIn K cd__law_named "_law_named" = true)
    (k__law_named : PySem.W.keepIn K (.ref f__law_named) = true)
    (a__law_wrong : PySem.W.nsIn K mainGlobals "_law_wrong" = some (some (.ref f__law_wrong)))
    (l__law_wrong : K.lookup f__law_wrong = some ⟨oc__law_wrong, od__law_wrong, .func (PySem.W.fnOf "_law_wrong" "_law_wrong" (defArgs s__law_wrong) (defBody s__law_wrong) (defScope s__law_wrong) .none kV__law_wrong dc__law_wrong pm__law_wrong an__law_wrong cd__law_wrong ct__law_wrong), sl__law_wrong⟩)
    (c__law_wrong : PySem.W.codeIn K cd__law_wrong "_law_wrong" = true)
    (k__law_wrong : PySem.W.keepIn K (.ref f__law_wrong) = true)
    (a_law : PySem.W.nsIn K mainGlobals "law" = some (some (.ref f_law)))
    (l_law : K.lookup f_law = some ⟨oc_law, od_law, .func (PySem.W.fnOf "law" "law" (defArgs s_law) (defBody s_law) (defScope s_law) .none kV_law dc_law pm_law an_law cd_law ct_law), sl_law⟩)
    (c_law : PySem.W.codeIn K cd_law "law" = true)
    (k_law : PySem.W.keepIn K (.ref f_law) = true)
    (v_MOST_TIES : PySem.W.nsIn K mainGlobals "MOST_TIES" = some (some (.int 6 t_MOST_TIES)))
    (z_all : PySem.W.nsIn K mainGlobals "all" = some none)
    (z_bool : PySem.W.nsIn K mainGlobals "bool" = some none)
    (z_enumerate : PySem.W.nsIn K mainGlobals "enumerate" = some none)
    (z_int : PySem.W.nsIn K mainGlobals "int" = some none)
    (z_isinstance : PySem.W.nsIn K mainGlobals "isinstance" = some none)
    (z_len : PySem.W.nsIn K mainGlobals "len" = some none)
    (z_list : PySem.W.nsIn K mainGlobals "list" = some none)
    (z_min : PySem.W.nsIn K mainGlobals "min" = some none)
    (z_range : PySem.W.nsIn K mainGlobals "range" = some none)
    (z_set : PySem.W.nsIn K mainGlobals "set" = some none)
    (z_sorted : PySem.W.nsIn K mainGlobals "sorted" = some none)
    (z_tuple : PySem.W.nsIn K mainGlobals "tuple" = some none)
    (gsp : PySem.W.specialIn K (.builtin "object.__class__") "__get__" = some (some (.builtin "getset_descriptor.__get__")))
    (gtk : PySem.W.takesIn K (.builtin "object.__class__") = some true)
    (aC_BadPlane : PySem.W.nsIn K mainGlobals "BadPlane" = some (some (.ref C_BadPlane)))
    (su_BadPlane : PySem.W.subIn K (.ref C_BadPlane) (.type "BaseException") = some true)
    (ty_BadPlane : PySem.W.typeIn K (.ref C_BadPlane) = some (.type "type"))
    (hd_BadPlane : PySem.W.hasDictIn K C_BadPlane = true)
    (kp_BadPlane : PySem.W.keepIn K (.ref C_BadPlane) = true)
    (cl_BadPlane : (PySem.W.clsIn K C_BadPlane).isSome = true)
    (ga_BadPlane : PySem.W.findIn K (.ref C_BadPlane) "__getattribute__" = some (some (.builtin "BaseException.__getattribute__")))
    (gg_BadPlane : PySem.W.findIn K (.ref C_BadPlane) "__getattr__" = some none)
    (ac_BadPlane : PySem.W.findIn K (.ref C_BadPlane) "__class__" = some (some (.builtin "object.__class__")))
    (mr_BadPlane : PySem.W.mroIn K C_BadPlane (.type "object") = some true)
    (ex_BadPlane : PySem.W.excIn K C_BadPlane [.type "ValueError", .type "Exception", .type "BaseException", .type "object"] "ValueError.__new__" = true)
    (aC_RootError : PySem.W.nsIn K mainGlobals "RootError" = some (some (.ref C_RootError)))
    (x_BadPlane_BadPlane : PySem.W.subIn K (.ref C_BadPlane) (.ref C_BadPlane) = some true)
    (kt_BadPlane_RootError : PySem.W.kitOne K (.ref C_BadPlane) (.ref C_RootError) = some true) :
    ∃ fd : FuncData, (∀ (s : Shared) (v : Value), BindsTo s fd ⟨[v], []⟩ [("_law_script", v)]) ∧ ∀ base : Heap, K.In base → base.Ns mainGlobals mg → FnOk P w K mg base (L2.CX P w) 7 fa fd ["_law_script"] (spLaw K) := by
  have e := hfa.symm.trans (PySem.W.mg_of X G a_law)
  cases e
  have F__law_draws := fun_mk (st := s__law_draws) l__law_draws c__law_draws k__law_draws
  have b__law_draws := F__law_draws.binds (ps := ["_law_script"]) fun _ _ _ _ _ _ us hl => match us, hl with | [_], _ => rfl
  have F__law_pick := fun_mk (st := s__law_pick) l__law_pick c__law_pick k__law_pick
  have b__law_pick := F__law_pick.binds (ps := ["_law_row", "_law_many"]) fun _ _ _ _ _ _ us hl => match us, hl with | [_, _], _ => rfl
  have F__law_grown := fun_mk (st := s__law_grown) l__law_grown c__law_grown k__law_grown
  have b__law_grown := F__law_grown.binds (ps := ["_law_row", "_law_most"]) fun _ _ _ _ _ _ us hl => match us, hl with | [_, _], _ => rfl
  have F__law_orders := fun_mk (st := s__law_orders) l__law_orders c__law_orders k__law_orders
  have b__law_orders := F__law_orders.binds (ps := ["_law_many"]) fun _ _ _ _ _ _ us hl => match us, hl with | [_], _ => rfl
  have F_rounds_of := fun_mk (st := s_rounds_of) l_rounds_of c_rounds_of k_rounds_of
  have b_rounds_of := F_rounds_of.binds (ps := ["turn"]) fun _ _ _ _ _ _ us hl => match us, hl with | [_], _ => rfl
  have F_is_from := fun_mk (st := s_is_from) l_is_from c_is_from k_is_from
  have b_is_from := F_is_from.binds (ps := ["value", "low", "high"]) fun _ _ _ _ _ _ us hl => match us, hl with | [_, _, _], _ => rfl
  have F_is_turn := fun_mk (st := s_is_turn) l_is_turn c_is_turn k_is_turn
  have b_is_turn := F_is_turn.binds (ps := ["value", "many"]) fun _ _ _ _ _ _ us hl => match us, hl with | [_, _], _ => rfl
  have F_behind := fun_mk (st := s_behind) l_behind c_behind k_behind
  have b_behind := F_behind.binds (ps := ["first", "second"]) fun _ _ _ _ _ _ us hl => match us, hl with | [_, _], _ => rfl
  have F_is_plane := fun_mk (st := s_is_plane) l_is_plane c_is_plane k_is_plane
  have b_is_plane := F_is_plane.binds (ps := ["value"]) fun _ _ _ _ _ _ us hl => match us, hl with | [_], _ => rfl
  have F_check_plane := fun_mk (st := s_check_plane) l_check_plane c_check_plane k_check_plane
  have b_check_plane := F_check_plane.binds (ps := ["value"]) fun _ _ _ _ _ _ us hl => match us, hl with | [_], _ => rfl
  have F_degrees_of := fun_mk (st := s_degrees_of) l_degrees_of c_degrees_of k_degrees_of
  have b_degrees_of := F_degrees_of.binds (ps := ["value"]) fun _ _ _ _ _ _ us hl => match us, hl with | [_], _ => rfl
  have F_renamed := fun_mk (st := s_renamed) l_renamed c_renamed k_renamed
  have b_renamed := F_renamed.binds (ps := ["turn", "names"]) fun _ _ _ _ _ _ us hl => match us, hl with | [_, _], _ => rfl
  have F_all_turns := fun_mk (st := s_all_turns) l_all_turns c_all_turns k_all_turns
  have b_all_turns := F_all_turns.binds (ps := ["many"]) fun _ _ _ _ _ _ us hl => match us, hl with | [_], _ => rfl
  have F_named_of := fun_mk (st := s_named_of) l_named_of c_named_of k_named_of
  have b_named_of := F_named_of.binds (ps := ["value"]) fun _ _ _ _ _ _ us hl => match us, hl with | [_], _ => rfl
  have F_named := fun_mk (st := s_named) l_named c_named k_named
  have b_named := F_named.binds (ps := ["value"]) fun _ _ _ _ _ _ us hl => match us, hl with | [_], _ => rfl
  have F_turns_of := fun_mk (st := s_turns_of) l_turns_of c_turns_of k_turns_of
  have b_turns_of := F_turns_of.binds (ps := ["value"]) fun _ _ _ _ _ _ us hl => match us, hl with | [_], _ => rfl
  have F__law_rounds := fun_mk (st := s__law_rounds) l__law_rounds c__law_rounds k__law_rounds
  have b__law_rounds := F__law_rounds.binds (ps := ["_law_turn"]) fun _ _ _ _ _ _ us hl => match us, hl with | [_], _ => rfl
  have F__law_is_whole := fun_mk (st := s__law_is_whole) l__law_is_whole c__law_is_whole k__law_is_whole
  have b__law_is_whole := F__law_is_whole.binds (ps := ["_law_value", "_law_low", "_law_high"]) fun _ _ _ _ _ _ us hl => match us, hl with | [_, _, _], _ => rfl
  have F__law_is_plane := fun_mk (st := s__law_is_plane) l__law_is_plane c__law_is_plane k__law_is_plane
  have b__law_is_plane := F__law_is_plane.binds (ps := ["_law_value"]) fun _ _ _ _ _ _ us hl => match us, hl with | [_], _ => rfl
  have F__law_named := fun_mk (st := s__law_named) l__law_named c__law_named k__law_named
  have b__law_named := F__law_named.binds (ps := ["_law_turn", "_law_names"]) fun _ _ _ _ _ _ us hl => match us, hl with | [_, _], _ => rfl
  have F__law_wrong := fun_mk (st := s__law_wrong) l__law_wrong c__law_wrong k__law_wrong
  have b__law_wrong := F__law_wrong.binds (ps := ["_law_value", "_law_which"]) fun _ _ _ _ _ _ us hl => match us, hl with | [_, _], _ => rfl
  have F_law := fun_mk (st := s_law) l_law c_law k_law
  have b_law := F_law.binds (ps := ["_law_script"]) fun _ _ _ _ _ _ us hl => match us, hl with | [_], _ => rfl
  have e_BadPlane : EcK K C_BadPlane := ⟨kp_BadPlane, su_BadPlane, ty_BadPlane, cl_BadPlane, hd_BadPlane, ga_BadPlane, gg_BadPlane, ac_BadPlane, gsp, gtk, mr_BadPlane⟩
  exact ⟨_, fun s v => .of_eq rfl, fun base _ _ => (ok_all (A0 := ⟨f__law_draws, _, f__law_pick, _, f__law_grown, _, f__law_orders, _, f_rounds_of, _, f_is_from, _, f_is_turn, _, f_behind, _, f_is_plane, _, f_check_plane, _, f_degrees_of, _, f_renamed, _, f_all_turns, _, f_named_of, _, f_named, _, f_turns_of, _, f__law_rounds, _, f__law_is_whole, _, f__law_is_plane, _, f__law_named, _, f__law_wrong, _, fa, _, C_BadPlane, C_RootError, t_MOST_TIES, ()⟩) ⟨F__law_draws, b__law_draws, PySem.W.mg_of X G a__law_draws, F__law_pick, b__law_pick, PySem.W.mg_of X G a__law_pick, F__law_grown, b__law_grown, PySem.W.mg_of X G a__law_grown, F__law_orders, b__law_orders, PySem.W.mg_of X G a__law_orders, F_rounds_of, b_rounds_of, PySem.W.mg_of X G a_rounds_of, F_is_from, b_is_from, PySem.W.mg_of X G a_is_from, F_is_turn, b_is_turn, PySem.W.mg_of X G a_is_turn, F_behind, b_behind, PySem.W.mg_of X G a_behind, F_is_plane, b_is_plane, PySem.W.mg_of X G a_is_plane, F_check_plane, b_check_plane, PySem.W.mg_of X G a_check_plane, F_degrees_of, b_degrees_of, PySem.W.mg_of X G a_degrees_of, F_renamed, b_renamed, PySem.W.mg_of X G a_renamed, F_all_turns, b_all_turns, PySem.W.mg_of X G a_all_turns, F_named_of, b_named_of, PySem.W.mg_of X G a_named_of, F_named, b_named, PySem.W.mg_of X G a_named, F_turns_of, b_turns_of, PySem.W.mg_of X G a_turns_of, F__law_rounds, b__law_rounds, PySem.W.mg_of X G a__law_rounds, F__law_is_whole, b__law_is_whole, PySem.W.mg_of X G a__law_is_whole, F__law_is_plane, b__law_is_plane, PySem.W.mg_of X G a__law_is_plane, F__law_named, b__law_named, PySem.W.mg_of X G a__law_named, F__law_wrong, b__law_wrong, PySem.W.mg_of X G a__law_wrong, F_law, b_law, PySem.W.mg_of X G a_law, PySem.W.mg_of X G v_MOST_TIES, PySem.W.mg_none_of X G z_all, PySem.W.mg_none_of X G z_bool, PySem.W.mg_none_of X G z_enumerate, PySem.W.mg_none_of X G z_int, PySem.W.mg_none_of X G z_isinstance, PySem.W.mg_none_of X G z_len, PySem.W.mg_none_of X G z_list, PySem.W.mg_none_of X G z_min, PySem.W.mg_none_of X G z_range, PySem.W.mg_none_of X G z_set, PySem.W.mg_none_of X G z_sorted, PySem.W.mg_none_of X G z_tuple, PySem.W.mg_of X G aC_BadPlane, e_BadPlane, ⟨e_BadPlane, ex_BadPlane⟩, PySem.W.mg_of X G aC_RootError, PySem.W.exm_ref su_BadPlane hd_BadPlane ty_BadPlane x_BadPlane_BadPlane, kt_BadPlane_RootError, trivial⟩).imp fun vs H Q E hs => sp_law hs fun ns => m_law_true ns⟩
abbrev dX__law_draws : He.FnD := ⟨("_law_draws", none), "_law_draws", "_law_draws", defArgs s__law_draws, defBody s__law_draws, defScope s__law_draws⟩
abbrev dX__law_pick : He.FnD := ⟨("_law_pick", none), "_law_pick", "_law_pick", defArgs s__law_pick, defBody s__law_pick, defScope s__law_pick⟩
abbrev dX__law_grown : He.FnD := ⟨("_law_grown", none), "_law_grown", "_law_grown", defArgs s__law_grown, defBody s__law_grown, defScope s__law_grown⟩
abbrev dX__law_orders : He.FnD := ⟨("_law_orders", none), "_law_orders", "_law_orders", defArgs s__law_orders, defBody s__law_orders, defScope s__law_orders⟩
abbrev dX_rounds_of : He.FnD := ⟨("rounds_of", none), "rounds_of", "rounds_of", defArgs s_rounds_of, defBody s_rounds_of, defScope s_rounds_of⟩
abbrev dX_is_from : He.FnD := ⟨("is_from", none), "is_from", "is_from", defArgs s_is_from, defBody s_is_from, defScope s_is_from⟩
abbrev dX_is_turn : He.FnD := ⟨("is_turn", none), "is_turn", "is_turn", defArgs s_is_turn, defBody s_is_turn, defScope s_is_turn⟩
abbrev dX_behind : He.FnD := ⟨("behind", none), "behind", "behind", defArgs s_behind, defBody s_behind, defScope s_behind⟩
abbrev dX_is_plane : He.FnD := ⟨("is_plane", none), "is_plane", "is_plane", defArgs s_is_plane, defBody s_is_plane, defScope s_is_plane⟩
abbrev dX_check_plane : He.FnD := ⟨("check_plane", none), "check_plane", "check_plane", defArgs s_check_plane, defBody s_check_plane, defScope s_check_plane⟩
abbrev dX_degrees_of : He.FnD := ⟨("degrees_of", none), "degrees_of", "degrees_of", defArgs s_degrees_of, defBody s_degrees_of, defScope s_degrees_of⟩
abbrev dX_renamed : He.FnD := ⟨("renamed", none), "renamed", "renamed", defArgs s_renamed, defBody s_renamed, defScope s_renamed⟩
abbrev dX_all_turns : He.FnD := ⟨("all_turns", none), "all_turns", "all_turns", defArgs s_all_turns, defBody s_all_turns, defScope s_all_turns⟩
abbrev dX_named_of : He.FnD := ⟨("named_of", none), "named_of", "named_of", defArgs s_named_of, defBody s_named_of, defScope s_named_of⟩
abbrev dX_named : He.FnD := ⟨("named", none), "named", "named", defArgs s_named, defBody s_named, defScope s_named⟩
abbrev dX_turns_of : He.FnD := ⟨("turns_of", none), "turns_of", "turns_of", defArgs s_turns_of, defBody s_turns_of, defScope s_turns_of⟩
abbrev dX__law_rounds : He.FnD := ⟨("_law_rounds", none), "_law_rounds", "_law_rounds", defArgs s__law_rounds, defBody s__law_rounds, defScope s__law_rounds⟩
abbrev dX__law_is_whole : He.FnD := ⟨("_law_is_whole", none), "_law_is_whole", "_law_is_whole", defArgs s__law_is_whole, defBody s__law_is_whole, defScope s__law_is_whole⟩
abbrev dX__law_is_plane : He.FnD := ⟨("_law_is_plane", none), "_law_is_plane", "_law_is_plane", defArgs s__law_is_plane, defBody s__law_is_plane, defScope s__law_is_plane⟩
abbrev dX__law_named : He.FnD := ⟨("_law_named", none), "_law_named", "_law_named", defArgs s__law_named, defBody s__law_named, defScope s__law_named⟩
abbrev dX__law_wrong : He.FnD := ⟨("_law_wrong", none), "_law_wrong", "_law_wrong", defArgs s__law_wrong, defBody s__law_wrong, defScope s__law_wrong⟩
abbrev dX_law : He.FnD := ⟨("law", none), "law", "law", defArgs s_law, defBody s_law, defScope s_law⟩
def fnX0 : List He.FnD := [dX__law_draws, dX__law_pick, dX__law_grown, dX__law_orders, dX_rounds_of, dX_is_from, dX_is_turn, dX_behind, dX_is_plane, dX_check_plane, dX_degrees_of, dX_renamed, dX_all_turns, dX_named_of, dX_named, dX_turns_of, dX__law_rounds, dX__law_is_whole, dX__law_is_plane, dX__law_named, dX__law_wrong, dX_law]
abbrev fnX : List He.FnD := fnX0
def exX0 (K : PySem.W.Frag) : List Bool := [decide (PySem.W.nsIn K mainGlobals "_law_draws" = some (some (.ref (He.ga K "_law_draws")))),
    decide (PySem.W.keepIn K (.ref (He.ga K "_law_draws")) = true),
    decide (PySem.W.nsIn K mainGlobals "_law_pick" = some (some (.ref (He.ga K "_law_pick")))),
    decide (PySem.W.keepIn K (.ref (He.ga K "_law_pick")) = true),
    decide (PySem.W.nsIn K mainGlobals "_law_grown" = some (some (.ref (He.ga K "_law_grown")))),
    decide (PySem.W.keepIn K (.ref (He.ga K "_law_grown")) = true),
    decide (PySem.W.nsIn K mainGlobals "_law_orders" = some (some (.ref (He.ga K "_law_orders")))),
    decide (PySem.W.keepIn K (.ref (He.ga K "_law_orders")) = true),
    decide (PySem.W.nsIn K mainGlobals "rounds_of" = some (some (.ref (He.ga K "rounds_of")))),
    decide (PySem.W.keepIn K (.ref (He.ga K "rounds_of")) = true),
    decide (PySem.W.nsIn K mainGlobals "is_from" = some (some (.ref (He.ga K "is_from")))),
    decide (PySem.W.keepIn K (.ref (He.ga K "is_from")) = true),
    decide (PySem.W.nsIn K mainGlobals "is_turn" = some (some (.ref (He.ga K "is_turn")))),
    decide (PySem.W.keepIn K (.ref (He.ga K "is_turn")) = true),
    decide (PySem.W.nsIn K mainGlobals "behind" = some (some (.ref (He.ga K "behind")))),
    decide (PySem.W.keepIn K (.ref (He.ga K "behind")) = true),
    decide (PySem.W.nsIn K mainGlobals "is_plane" = some (some (.ref (He.ga K "is_plane")))),
    decide (PySem.W.keepIn K (.ref (He.ga K "is_plane")) = true),
    decide (PySem.W.nsIn K mainGlobals "check_plane" = some (some (.ref (He.ga K "check_plane")))),
    decide (PySem.W.keepIn K (.ref (He.ga K "check_plane")) = true),
    decide (PySem.W.nsIn K mainGlobals "degrees_of" = some (some (.ref (He.ga K "degrees_of")))),
    decide (PySem.W.keepIn K (.ref (He.ga K "degrees_of")) = true),
    decide (PySem.W.nsIn K mainGlobals "renamed" = some (some (.ref (He.ga K "renamed")))),
    decide (PySem.W.keepIn K (.ref (He.ga K "renamed")) = true),
    decide (PySem.W.nsIn K mainGlobals "all_turns" = some (some (.ref (He.ga K "all_turns")))),
    decide (PySem.W.keepIn K (.ref (He.ga K "all_turns")) = true),
    decide (PySem.W.nsIn K mainGlobals "named_of" = some (some (.ref (He.ga K "named_of")))),
    decide (PySem.W.keepIn K (.ref (He.ga K "named_of")) = true),
    decide (PySem.W.nsIn K mainGlobals "named" = some (some (.ref (He.ga K "named")))),
    decide (PySem.W.keepIn K (.ref (He.ga K "named")) = true),
    decide (PySem.W.nsIn K mainGlobals "turns_of" = some (some (.ref (He.ga K "turns_of")))),
    decide (PySem.W.keepIn K (.ref (He.ga K "turns_of")) = true),
    decide (PySem.W.nsIn K mainGlobals "_law_rounds" = some (some (.ref (He.ga K "_law_rounds")))),
    decide (PySem.W.keepIn K (.ref (He.ga K "_law_rounds")) = true),
    decide (PySem.W.nsIn K mainGlobals "_law_is_whole" = some (some (.ref (He.ga K "_law_is_whole")))),
    decide (PySem.W.keepIn K (.ref (He.ga K "_law_is_whole")) = true),
    decide (PySem.W.nsIn K mainGlobals "_law_is_plane" = some (some (.ref (He.ga K "_law_is_plane")))),
    decide (PySem.W.keepIn K (.ref (He.ga K "_law_is_plane")) = true),
    decide (PySem.W.nsIn K mainGlobals "_law_named" = some (some (.ref (He.ga K "_law_named")))),
    decide (PySem.W.keepIn K (.ref (He.ga K "_law_named")) = true),
    decide (PySem.W.nsIn K mainGlobals "_law_wrong" = some (some (.ref (He.ga K "_law_wrong")))),
    decide (PySem.W.keepIn K (.ref (He.ga K "_law_wrong")) = true),
    decide (PySem.W.nsIn K mainGlobals "law" = some (some (.ref (He.ga K "law")))),
    decide (PySem.W.keepIn K (.ref (He.ga K "law")) = true),
    decide (PySem.W.nsIn K mainGlobals "MOST_TIES" = some (some (.int 6 (tokA K "MOST_TIES")))),
    decide (PySem.W.nsIn K mainGlobals "all" = some none),
    decide (PySem.W.nsIn K mainGlobals "bool" = some none),
    decide (PySem.W.nsIn K mainGlobals "enumerate" = some none),
    decide (PySem.W.nsIn K mainGlobals "int" = some none),
    decide (PySem.W.nsIn K mainGlobals "isinstance" = some none),
    decide (PySem.W.nsIn K mainGlobals "len" = some none),
    decide (PySem.W.nsIn K mainGlobals "list" = some none),
    decide (PySem.W.nsIn K mainGlobals "min" = some none),
    decide (PySem.W.nsIn K mainGlobals "range" = some none),
    decide (PySem.W.nsIn K mainGlobals "set" = some none),
    decide (PySem.W.nsIn K mainGlobals "sorted" = some none),
    decide (PySem.W.nsIn K mainGlobals "tuple" = some none),
    decide (PySem.W.specialIn K (.builtin "object.__class__") "__get__" = some (some (.builtin "getset_descriptor.__get__"))),
    decide (PySem.W.takesIn K (.builtin "object.__class__") = some true),
    decide (PySem.W.nsIn K mainGlobals "BadPlane" = some (some (.ref (He.ga K "BadPlane"))))]
def exX1 (K : PySem.W.Frag) : List Bool := [decide (PySem.W.subIn K (.ref (He.ga K "BadPlane")) (.type "BaseException") = some true),
    decide (PySem.W.typeIn K (.ref (He.ga K "BadPlane")) = some (.type "type")),
    decide (PySem.W.hasDictIn K (He.ga K "BadPlane") = true),
    decide (PySem.W.keepIn K (.ref (He.ga K "BadPlane")) = true),
    decide ((PySem.W.clsIn K (He.ga K "BadPlane")).isSome = true),
    decide (PySem.W.findIn K (.ref (He.ga K "BadPlane")) "__getattribute__" = some (some (.builtin "BaseException.__getattribute__"))),
    decide (PySem.W.findIn K (.ref (He.ga K "BadPlane")) "__getattr__" = some none),
    decide (PySem.W.findIn K (.ref (He.ga K "BadPlane")) "__class__" = some (some (.builtin "object.__class__"))),
    decide (PySem.W.mroIn K (He.ga K "BadPlane") (.type "object") = some true),
    decide (PySem.W.excIn K (He.ga K "BadPlane") [.type "ValueError", .type "Exception", .type "BaseException", .type "object"] "ValueError.__new__" = true),
    decide (PySem.W.nsIn K mainGlobals "RootError" = some (some (.ref (He.ga K "RootError")))),
    decide (PySem.W.subIn K (.ref (He.ga K "BadPlane")) (.ref (He.ga K "BadPlane")) = some true),
    decide (PySem.W.kitOne K (.ref (He.ga K "BadPlane")) (.ref (He.ga K "RootError")) = some true)]
def exX (K : PySem.W.Frag) : List Bool := exX0 K ++ (exX1 K)
set_option maxHeartbeats 0 in
theorem facts_mk {P : Program} {w : World} {K : PySem.W.Frag} {h : Heap} {mg : Str → Option Value} {fa : Addr} (X : K.In h) (G : h.Ns mainGlobals mg) (hfa : mg "law" = some (.ref fa)) (cx : (exX K).all id = true) (c : He.SaysE [] fnX K) :
    ∃ fd : FuncData, (∀ (s : Shared) (v : Value), BindsTo s fd ⟨[v], []⟩ [("_law_script", v)]) ∧ ∀ base : Heap, K.In base → base.Ns mainGlobals mg → FnOk P w K mg base (L2.CX P w) 7 fa fd ["_law_script"] (spLaw K) := by
  have ⟨_, _, _, _, _, _, _, _, _, l__law_draws, c__law_draws⟩ := c.def_ 0 (d := dX__law_draws) rfl
  have ⟨_, _, _, _, _, _, _, _, _, l__law_pick, c__law_pick⟩ := c.def_ 1 (d := dX__law_pick) rfl
  have ⟨_, _, _, _, _, _, _, _, _, l__law_grown, c__law_grown⟩ := c.def_ 2 (d := dX__law_grown) rfl
  have ⟨_, _, _, _, _, _, _, _, _, l__law_orders, c__law_orders⟩ := c.def_ 3 (d := dX__law_orders) rfl
  have ⟨_, _, _, _, _, _, _, _, _, l_rounds_of, c_rounds_of⟩ := c.def_ 4 (d := dX_rounds_of) rfl
  have ⟨_, _, _, _, _, _, _, _, _, l_is_from, c_is_from⟩ := c.def_ 5 (d := dX_is_from) rfl
  have ⟨_, _, _, _, _, _, _, _, _, l_is_turn, c_is_turn⟩ := c.def_ 6 (d := dX_is_turn) rfl
  have ⟨_, _, _, _, _, _, _, _, _, l_behind, c_behind⟩ := c.def_ 7 (d := dX_behind) rfl
  have ⟨_, _, _, _, _, _, _, _, _, l_is_plane, c_is_plane⟩ := c.def_ 8 (d := dX_is_plane) rfl
  have ⟨_, _, _, _, _, _, _, _, _, l_check_plane, c_check_plane⟩ := c.def_ 9 (d := dX_check_plane) rfl
  have ⟨_, _, _, _, _, _, _, _, _, l_degrees_of, c_degrees_of⟩ := c.def_ 10 (d := dX_degrees_of) rfl
  have ⟨_, _, _, _, _, _, _, _, _, l_renamed, c_renamed⟩ := c.def_ 11 (d := dX_renamed) rfl
  have ⟨_, _, _, _, _, _, _, _, _, l_all_turns, c_all_turns⟩ := c.def_ 12 (d := dX_all_turns) rfl
  have ⟨_, _, _, _, _, _, _, _, _, l_named_of, c_named_of⟩ := c.def_ 13 (d := dX_named_of) rfl
  have ⟨_, _, _, _, _, _, _, _, _, l_named, c_named⟩ := c.def_ 14 (d := dX_named) rfl
  have ⟨_, _, _, _, _, _, _, _, _, l_turns_of, c_turns_of⟩ := c.def_ 15 (d := dX_turns_of) rfl
  have ⟨_, _, _, _, _, _, _, _, _, l__law_rounds, c__law_rounds⟩ := c.def_ 16 (d := dX__law_rounds) rfl
  have ⟨_, _, _, _, _, _, _, _, _, l__law_is_whole, c__law_is_whole⟩ := c.def_ 17 (d := dX__law_is_whole) rfl
  have ⟨_, _, _, _, _, _, _, _, _, l__law_is_plane, c__law_is_plane⟩ := c.def_ 18 (d := dX__law_is_plane) rfl
  have ⟨_, _, _, _, _, _, _, _, _, l__law_named, c__law_named⟩ := c.def_ 19 (d := dX__law_named) rfl
  have ⟨_, _, _, _, _, _, _, _, _, l__law_wrong, c__law_wrong⟩ := c.def_ 20 (d := dX__law_wrong) rfl
  have ⟨_, _, _, _, _, _, _, _, _, l_law, c_law⟩ := c.def_ 21 (d := dX_law) rfl
  exact all_mk X G hfa (fx_at cx 0) l__law_draws c__law_draws (fx_at cx 1) (fx_at cx 2) l__law_pick c__law_pick (fx_at cx 3) (fx_at cx 4) l__law_grown c__law_grown (fx_at cx 5) (fx_at cx 6) l__law_orders c__law_orders (fx_at cx 7) (fx_at cx 8) l_rounds_of c_rounds_of (fx_at cx 9) (fx_at cx 10) l_is_from c_is_from (fx_at cx 11) (fx_at cx 12) l_is_turn c_is_turn (fx_at cx 13) (fx_at cx 14) l_behind c_behind (fx_at cx 15) (fx_at cx 16) l_is_plane c_is_plane (fx_at cx 17) (fx_at cx 18) l_check_plane c_check_plane (fx_at cx 19) (fx_at cx 20) l_degrees_of c_degrees_of (fx_at cx 21) (fx_at cx 22) l_renamed c_renamed (fx_at cx 23) (fx_at cx 24) l_all_turns c_all_turns (fx_at cx 25) (fx_at cx 26) l_named_of c_named_of (fx_at cx 27) (fx_at cx 28) l_named c_named (fx_at cx 29) (fx_at cx 30) l_turns_of c_turns_of (fx_at cx 31) (fx_at cx 32) l__law_rounds c__law_rounds (fx_at cx 33) (fx_at cx 34) l__law_is_whole c__law_is_whole (fx_at cx 35) (fx_at cx 36) l__law_is_plane c__law_is_plane (fx_at cx 37) (fx_at cx 38) l__law_named c__law_named (fx_at cx 39) (fx_at cx 40) l__law_wrong c__law_wrong (fx_at cx 41) (fx_at cx 42) l_law c_law (fx_at cx 43) (fx_at cx 44) (fx_at cx 45) (fx_at cx 46) (fx_at cx 47) (fx_at cx 48) (fx_at cx 49) (fx_at cx 50) (fx_at cx 51) (fx_at cx 52) (fx_at cx 53) (fx_at cx 54) (fx_at cx 55) (fx_at cx 56) (fx_at cx 57) (fx_at cx 58) (fx_at cx 59) (fx_at cx 60) (fx_at cx 61) (fx_at cx 62) (fx_at cx 63) (fx_at cx 64) (fx_at cx 65) (fx_at cx 66) (fx_at cx 67) (fx_at cx 68) (fx_at cx 69) (fx_at cx 70) (fx_at cx 71) (fx_at cx 72)
abbrev RX : PySem.W.OpenRow := PySem.W.OpenLaw.row PySem.Challenge.rw_fewroots_k20_plane_trees_judged
abbrev hk : PySem.W.Hook := hkX exX fnX
def obH (s : PySem.W.SharedT) : Bool × He.Al := obX exX fnX s
def loX0 : List Str := ["RootError", "BadPlane", "is_from", "MOST_TIES", "is_turn", "rounds_of", "behind", "is_plane", "check_plane", "degrees_of", "renamed", "all_turns", "named_of", "named", "turns_of", "_law_draws", "_law_pick", "_law_is_whole", "_law_rounds", "_law_is_plane", "_law_orders", "_law_named", "_law_grown", "_law_wrong"]
def loX : List Str := loX0
abbrev qX : Program := PySem.W.view RX.prog [28]
section
open PySem.W PySem.Calls PyProof.Rows
noncomputable abbrev endX (w : World) (os : OsState) : Option PySem.W.SharedT := HandSHeadRun.endF (HandSHeadRun.stepQ (HandSHeadRun.denQ HandSHeadRun.tabQ) RX.prog w) 9000 RX.prog w os
set_option maxHeartbeats 0 in
theorem run_l (w : World) (os : OsState) : (endX w os).map (fun s => HandSHeadRun.looksF RX.prog (boot_heap w.params) s.abs) = some true := by kernel_rfl
set_option maxHeartbeats 0 in
theorem run_s (w : World) (os : OsState) : (endX w os).map (fun s => HandSHeadRun.seenQ qX loX (importedModules RX.prog.main.body) (fun s => PySem.W.xlAt qX [] s && PySem.W.recOk RX.toRowW.records s) s.abs) = some (PySem.W.openGood qX loX) := by kernel_rfl
set_option maxHeartbeats 0 in
theorem run_e0 (w : World) (os : OsState) : (endX w os).map (fun s => (exX0 (KfX s)).all id) = some true := by kernel_rfl
set_option maxHeartbeats 0 in
theorem run_e1 (w : World) (os : OsState) : (endX w os).map (fun s => (exX1 (KfX s)).all id) = some true := by kernel_rfl
set_option maxHeartbeats 0 in
theorem run_f0 (w : World) (os : OsState) : (endX w os).map (fun s => He.obsE [] fnX0 (KfX s)) = some (He.valE fnX0) := by kernel_rfl
set_option maxHeartbeats 0 in
theorem runX (w : World) : HandSHeadRun.RunEq RX qX hk obH 9000 loX w := by
  intro os
  show (endX w os).map _ = _
  have r1 := run_l w os
  cases ho : endX w os with
  | none => rw [ho] at r1; cases r1
  | some s =>
    have e1 := map_at (run_l w os) ho
    have e2 := map_at (run_s w os) ho
    have e3 : (exX (KfX s)).all id = true := by
      unfold exX
      simp only [List.all_append, map_at (run_e0 w os) ho, map_at (run_e1 w os) ho, Bool.and_self]
    have z0 : He.obsE [] fnX0 (KfX s) = He.valE fnX0 := map_at (f := fun s => He.obsE [] fnX0 (KfX s)) (run_f0 w os) ho
    have e4 : He.obsE [] fnX (KfX s) = He.valE fnX := z0
    exact congrArg some (Prod.ext e1 (Prod.ext e2 (Prod.ext e3 e4)))
end
end L3
open PySem PySem.W PySem.Calls PyProof.Rows
set_option maxRecDepth 100000 in
set_option maxHeartbeats 0 in
theorem PySem.Challenge.cw_fewroots_k20_plane_trees_judged_holds : PySem.Challenge.rw_fewroots_k20_plane_trees_judged.Holds := by
  w_on; o_law
  refine HandSHeadRun.head_any (r := OpenLaw.row PySem.Challenge.rw_fewroots_k20_plane_trees_judged) (q := view (OpenLaw.row PySem.Challenge.rw_fewroots_k20_plane_trees_judged).prog [28]) (H := L3.hk) (ob := L3.obH) (M := 9000) (loose := L3.loX) (d := HandSHeadRun.topDef (OpenLaw.row PySem.Challenge.rw_fewroots_k20_plane_trees_judged).prog 28) (kwd := []) (fun s => L3.obX_eq s)
    (by kernel_rfl) (fun s => by kernel_rfl) L3.runX (by kernel_rfl) (by kernel_rfl) (by kernel_rfl) (by rfl) (by first | assumption | decide +kernel) (by decide +kernel) ⟨rfl, rfl, rfl, rfl, rfl, by decide +kernel⟩ ?hw ?hc
  case hw => w_witness2
  case hc =>
    refine L3.end_of (law := PySem.Challenge.rw_fewroots_k20_plane_trees_judged) (m := 63) (j := 7) (par := "_law_script") (cx := fun w => L2.CX PySem.Challenge.rw_fewroots_k20_plane_trees_judged.prog w) rfl (by decide) (by kernel_rfl) ⟨rfl, by decide, by decide⟩ ?F (fun _ _ _ _ _ h => L3.cx_no h)
    intro w mg fa h Y G hmg0
    have ⟨K, KX, cx, c⟩ := Y
    have hmg : mg ("law" : PySem.Str) = some (.ref fa) := by
      have e : (HandSHeadRun.topDef (OpenLaw.row PySem.Challenge.rw_fewroots_k20_plane_trees_judged).prog 28).name = ("law" : PySem.Str) := by kernel_rfl
      rw [← e]
      exact hmg0
    have ⟨fd, hb, hF⟩ := L3.facts_mk (P := (PySem.Challenge.rw_fewroots_k20_plane_trees_judged).prog) (w := w) KX G hmg cx c
    exact ⟨K, fd, KX, hb, hF⟩


import PyProof.Rows.All
import Wide.All
import OpenK.AllK
import Wide.FinOn
import HandS.ForMost
import HandS.ForExc
import HandS.Wide
import HandS.Zip
import KE.GoesEnum
import HandS.TupMul
import HandS.IsInst
import HandS.Deep
import HandS.ExcInit
import HandS.ExcField
import HandS.TryMany
import KE.KExcIs
import HandS.ExcIs
import HandS.Star
import HandS.Dict
import HandS.Style
import HandS.DictComp
import HandS.WordsDict
import HandS.Small
import HandS.Flt
import HandS.Text
import HandS.Steps
import PyProof.StrOps2
import HandS.SortInts
import HandS.More
import HandS.Conv
import KE.KTupSum
import KE.KDictZip
import HandS.Iter
import PyProof.EnumMake
import PyProof.LayNew
import HandS.Set
import HandS.SetFor
import HandS.Strs
import HandS.Property
import HandS.ExcValue
import KE.KExcPX
import PySem.Challenge.RW_fewroots_k17_errors_apart
set_option Elab.async false
set_option linter.all false
set_option maxRecDepth 100000
namespace L3
open PySem PySem.Spec L2

abbrev D := PyData
/-! ### what a value stands for, in the frozen part F of the heap -/
def kD : Key → D
  | .inl i => .int i
  | .inr x => .str x
/-- a tuple that stands as a tuple, or a constant of the module -/
def SqU (K : PySem.W.Frag) (F : Hp) (a : Addr) (xs : List V) : Prop := F a = some (.tup xs) ∨ SqT K (fun _ => none) a xs
theorem SqU.T {K : PySem.W.Frag} {F : Hp} {a : Addr} {xs : List V} (h : SqU K F a xs) : SqT K F a xs := by
  rcases h with h | (h | ⟨_, h⟩) | h
  · exact .inl (.inl h)
  · cases h
  · cases h
  · exact .inr h
mutual
inductive Rp (K : PySem.W.Frag) (F : Hp) : V → D → Prop
  | non : Rp K F .non .none
  | bl (b : Bool) : Rp K F (.bl b) (.bool b)
  | int (i : Int) : Rp K F (.int i) (.int i)
  | str (x : Str) : Rp K F (.str x) (.str x)
  | lst {a : Addr} {vs : List V} {ds : List D} : SqL K F a vs → RpA K F vs ds → Rp K F (.ref a) (.list ds)
  | tup {a : Addr} {vs : List V} {ds : List D} : SqU K F a vs → RpA K F vs ds → Rp K F (.ref a) (.tuple ds)
  | dct {a : Addr} {kvs : List (Key × V)} {es : List (D × D)} : F a = some (.dK kvs) → RpK K F kvs es → Rp K F (.ref a) (.dict es)
inductive RpA (K : PySem.W.Frag) (F : Hp) : List V → List D → Prop
  | nil : RpA K F [] []
  | cons {v : V} {vs : List V} {d : D} {ds : List D} : Rp K F v d → RpA K F vs ds → RpA K F (v :: vs) (d :: ds)
inductive RpK (K : PySem.W.Frag) (F : Hp) : List (Key × V) → List (D × D) → Prop
  | nil : RpK K F [] []
  | cons {k : Key} {v : V} {kvs : List (Key × V)} {d : D} {es : List (D × D)} : Rp K F v d → RpK K F kvs es → RpK K F ((k, v) :: kvs) ((kD k, d) :: es)
end
theorem sameU {K : PySem.W.Frag} {F F' : Hp} {a : Addr} {xs : List V} (e : Same F F') (h : SqU K F a xs) : SqU K F' a xs := by
  rcases h with h | h
  · exact .inl (e _ _ h)
  · exact .inr h
theorem sameT {K : PySem.W.Frag} {F F' : Hp} {a : Addr} {xs : List V} (e : Same F F') (h : SqU K F a xs) : SqT K F' a xs := (sameU e h).T
section
variable {K : PySem.W.Frag} {F F' : Hp}
mutual
theorem Rp.mono (e : Same F F') : ∀ {v : V} {d : D}, Rp K F v d → Rp K F' v d
  | _, _, .non => .non
  | _, _, .bl b => .bl b
  | _, _, .int i => .int i
  | _, _, .str x => .str x
  | _, _, .lst h r => .lst (e.seq h) (RpA.mono e r)
  | _, _, .tup h r => .tup (sameU e h) (RpA.mono e r)
  | _, _, .dct h r => .dct (e _ _ h) (RpK.mono e r)
theorem RpA.mono (e : Same F F') : ∀ {vs : List V} {ds : List D}, RpA K F vs ds → RpA K F' vs ds
  | _, _, .nil => .nil
  | _, _, .cons h r => .cons (Rp.mono e h) (RpA.mono e r)
theorem RpK.mono (e : Same F F') : ∀ {vs : List (Key × V)} {ds : List (D × D)}, RpK K F vs ds → RpK K F' vs ds
  | _, _, .nil => .nil
  | _, _, .cons h r => .cons (Rp.mono e h) (RpK.mono e r)
end
theorem RpA.length : ∀ {vs : List V} {ds : List D}, RpA K F vs ds → vs.length = ds.length
  | _, _, .nil => rfl
  | _, _, .cons _ r => by rw [List.length_cons, List.length_cons, RpA.length r]
theorem RpA.get : ∀ {vs : List V} {ds : List D} {i : Nat} {d : D}, RpA K F vs ds → ds[i]? = some d → ∃ v, vs[i]? = some v ∧ Rp K F v d
  | _, _, _, _, .nil, e => by simp at e
  | _, _, 0, _, .cons h _, e => by
    simp only [List.getElem?_cons_zero, Option.some.injEq] at e
    subst e
    exact ⟨_, rfl, h⟩
  | _, _, i + 1, _, .cons _ r, e => by
    rw [List.getElem?_cons_succ] at e
    obtain ⟨v, h1, h2⟩ := RpA.get r e
    exact ⟨v, by rw [List.getElem?_cons_succ]; exact h1, h2⟩
theorem RpA.getV : ∀ {vs : List V} {ds : List D} {i : Nat} {v : V}, RpA K F vs ds → vs[i]? = some v → ∃ d, ds[i]? = some d ∧ Rp K F v d
  | _, _, _, _, .nil, e => by simp at e
  | _, _, 0, _, .cons h _, e => by
    simp only [List.getElem?_cons_zero, Option.some.injEq] at e
    subst e
    exact ⟨_, rfl, h⟩
  | _, _, i + 1, _, .cons _ r, e => by
    rw [List.getElem?_cons_succ] at e
    obtain ⟨v, h1, h2⟩ := RpA.getV r e
    exact ⟨v, by rw [List.getElem?_cons_succ]; exact h1, h2⟩
theorem RpA.append : ∀ {vs ws : List V} {ds es : List D}, RpA K F vs ds → RpA K F ws es → RpA K F (vs ++ ws) (ds ++ es)
  | _, _, _, _, .nil, s => s
  | _, _, _, _, .cons h r, s => .cons h (RpA.append r s)
theorem RpA.take : ∀ {vs : List V} {ds : List D} (n : Nat), RpA K F vs ds → RpA K F (vs.take n) (ds.take n)
  | _, _, 0, _ => .nil
  | _, _, _ + 1, .nil => .nil
  | _, _, n + 1, .cons h r => .cons h (RpA.take n r)
theorem RpA.drop : ∀ {vs : List V} {ds : List D} (n : Nat), RpA K F vs ds → RpA K F (vs.drop n) (ds.drop n)
  | _, _, 0, r => r
  | _, _, _ + 1, .nil => .nil
  | _, _, n + 1, .cons _ r => RpA.drop n r
theorem RpA.set : ∀ {vs : List V} {ds : List D} (i : Nat) {v : V} {d : D}, Rp K F v d → RpA K F vs ds → RpA K F (vs.set i v) (ds.set i d)
  | _, _, _, _, _, _, .nil => .nil
  | _, _, 0, _, _, q, .cons _ r => .cons q r
  | _, _, i + 1, _, _, q, .cons h r => .cons h (RpA.set i q r)
theorem RpA.reverse {vs : List V} {ds : List D} (h : RpA K F vs ds) : RpA K F vs.reverse ds.reverse := by
  induction vs generalizing ds with
  | nil => cases h; exact .nil
  | cons v vs ih =>
    cases h with
    | cons h r =>
      rw [List.reverse_cons, List.reverse_cons]
      exact RpA.append (ih r) (.cons h .nil)
theorem RpA.rep {vs : List V} {ds : List D} (h : RpA K F vs ds) : ∀ k : Nat, RpA K F (List.replicate k vs).flatten (List.replicate k ds).flatten
  | 0 => .nil
  | k + 1 => by
    rw [List.replicate_succ, List.replicate_succ, List.flatten_cons, List.flatten_cons]
    exact RpA.append h (RpA.rep h k)
theorem RpA.eraseIdx : ∀ {vs : List V} {ds : List D} (i : Nat), RpA K F vs ds → RpA K F (vs.eraseIdx i) (ds.eraseIdx i)
  | _, _, _, .nil => .nil
  | _, _, 0, .cons _ r => r
  | _, _, i + 1, .cons h r => .cons h (RpA.eraseIdx i r)
theorem RpA.dropLast {vs : List V} {ds : List D} (h : RpA K F vs ds) : RpA K F vs.dropLast ds.dropLast := by
  rw [List.dropLast_eq_take, List.dropLast_eq_take, h.length]
  exact h.take _
theorem RpA.ints : ∀ {ns : List Int} {vs : List V}, RpA K F vs (ns.map PyData.int) → vs = ns.map V.int
  | [], _, h => by cases h; rfl
  | n :: ns, _, h => by
    cases h with
    | cons h r =>
      cases h
      rw [RpA.ints r]
      rfl
theorem RpA.bools : ∀ {ns : List Bool} {vs : List V}, RpA K F vs (ns.map PyData.bool) → vs = ns.map V.bl
  | [], _, h => by cases h; rfl
  | n :: ns, _, h => by
    cases h with
    | cons h r =>
      cases h
      rw [RpA.bools r]
      rfl
theorem RpA.strs : ∀ {ns : List Str} {vs : List V}, RpA K F vs (ns.map PyData.str) → vs = ns.map V.str
  | [], _, h => by cases h; rfl
  | n :: ns, _, h => by
    cases h with
    | cons h r =>
      cases h
      rw [RpA.strs r]
      rfl
theorem RpA.of_ints : ∀ (ns : List Int), RpA K F (ns.map V.int) (ns.map PyData.int)
  | [] => .nil
  | n :: ns => .cons (.int n) (RpA.of_ints ns)
theorem RpA.of_strs : ∀ (ns : List Str), RpA K F (ns.map V.str) (ns.map PyData.str)
  | [] => .nil
  | n :: ns => .cons (.str n) (RpA.of_strs ns)
mutual
theorem Rp.dp : ∀ {d : D} {v : V}, Rp K F v d → d.canLay0 = true → Dp K F v d
  | .none, _, h, _ => by cases h; exact .non
  | .bool b, _, h, _ => by cases h; exact .bl b
  | .int i, _, h, _ => by cases h; exact .int i
  | .str x, _, h, _ => by cases h; exact .str x
  | .list ds, _, h, c => by
    cases h with
    | lst h r => exact .lst h (RpA.dp r (by simpa [PyData.canLay0] using c))
  | .tuple ds, _, h, c => by
    cases h with
    | tup h r => exact .tup h.T (RpA.dp r (by simpa [PyData.canLay0] using c))
  | .dict es, _, h, c => by simp [PyData.canLay0] at c
theorem RpA.dp : ∀ {ds : List D} {vs : List V}, RpA K F vs ds → PyData.canLayAll0 ds = true → DpAll K F vs ds
  | [], _, h, _ => by cases h; exact .nil
  | d :: ds, _, h, c => by
    cases h with
    | cons h r =>
      have c' : d.canLay0 = true ∧ PyData.canLayAll0 ds = true := by simpa [PyData.canLayAll0] using c
      exact .cons (Rp.dp h c'.1) (RpA.dp r c'.2)
end
end

/-! ### cells: frozen data, or an object of one's own -/
inductive Cl where
  | fz (d : D)
  | lst (ds : List D)
  | dct (es : List (Key × D))
  | dtt (es : List (List Key × D))
  | dlk (es : List (Key × D))
  | dlt (es : List (List Key × D))
  | bx (d : D) (es : List (Key × D))
  | ins (c : Str) (fs : List (Str × D))
  | exn (c : Str) (fs : List (Str × D))
abbrev Cl.i (n : Int) : Cl := .fz (.int n)
abbrev Cl.b (n : Bool) : Cl := .fz (.bool n)
abbrev Cl.t (ns : List D) : Cl := .fz (.tuple ns)

inductive RpKs (K : PySem.W.Frag) (F : Hp) {κ : Type} : List (κ × V) → List (κ × D) → Prop
  | nil : RpKs K F [] []
  | cons {k : κ} {v : V} {kvs : List (κ × V)} {d : D} {es : List (κ × D)} : Rp K F v d → RpKs K F kvs es → RpKs K F ((k, v) :: kvs) ((k, d) :: es)
theorem RpKs.mono {K : PySem.W.Frag} {F F' : Hp} {κ : Type} (e : Same F F') : ∀ {vs : List (κ × V)} {ds : List (κ × D)}, RpKs K F vs ds → RpKs K F' vs ds
  | _, _, .nil => .nil
  | _, _, .cons h r => .cons (Rp.mono e h) (RpKs.mono e r)

/-- an exception object, kept: its class, its dict -/
def ExT (cls : Value) (d : Option Addr) (a : Addr) : HO := .ext fun h => ∃ (oe : Obj) (vs : Array Value), h.get? a = some oe ∧ Zc cls d oe ∧ oe.data = .fields vs
inductive CR (K : PySem.W.Frag) (cl : Str → Addr → Prop) (F H : Hp) : Cl → V → List Addr → Prop
  | fz {d : D} {v : V} : Rp K F v d → CR K cl F H (.fz d) v []
  | lst {a : Addr} {vs : List V} {ds : List D} : H a = some (.lst vs) → F a = none → RpA K F vs ds → CR K cl F H (.lst ds) (.ref a) [a]
  | dct {a : Addr} {kvs : List (Key × V)} {es : List (Key × D)} : H a = some (.dK kvs) → F a = none → RpKs K F kvs es → CR K cl F H (.dct es) (.ref a) [a]
  | dtt {a : Addr} {kvs : List (List Key × V)} {es : List (List Key × D)} : H a = some (.dT kvs) → F a = none → RpKs K F kvs es → CR K cl F H (.dtt es) (.ref a) [a]
  | dlk {a : Addr} {o : Obj} {kvs : List (Key × V)} {es : List (Key × D)} : F a = some (.frz o (.dK kvs)) → RpKs K F kvs es → CR K cl F H (.dlk es) (.ref a) []
  | dlt {a : Addr} {o : Obj} {kvs : List (List Key × V)} {es : List (List Key × D)} : F a = some (.frz o (.dT kvs)) → RpKs K F kvs es → CR K cl F H (.dlt es) (.ref a) []
  | bx {a b : Addr} {v : V} {d : D} {kvs : List (Key × V)} {es : List (Key × D)} : H a = some (.lst [v, .ref b]) → F a = none → Rp K F v d → H b = some (.dK kvs) → F b = none → RpKs K F kvs es → CR K cl F H (.bx d es) (.ref a) [a, b]
  | ins {a C dx : Addr} {c : Str} {kvs : List (Str × V)} {es : List (Str × D)} : cl c C → H a = some (.ins C dx kvs) → F a = none → F dx = some (.own a) → RpKs K F kvs es → CR K cl F H (.ins c es) (.ref a) [a]
  | exn {a C : Addr} {c : Str} {d : Option Addr} {es : List (Str × D)} : cl c C → F a = some (ExT (.ref C) d a) → ((es = [] ∧ d = none) ∨ ∃ dd kvs, d = some dd ∧ F dd = some (.xd kvs) ∧ RpKs K F kvs es) → CR K cl F H (.exn c es) (.ref a) []
theorem CR.mono {K : PySem.W.Frag} {cl : Str → Addr → Prop} {F F' H H' : Hp} {c : Cl} {v : V} {A : List Addr} (e : Same F F') (h : CR K cl F H c v A) (hA : ∀ a ∈ A, F' a = none ∧ H' a = H a) : CR K cl F' H' c v A := by
  cases h with
  | fz r => exact .fz (r.mono e)
  | lst h1 h2 r => exact .lst ((hA _ (List.mem_singleton.mpr rfl)).2.trans h1) (hA _ (List.mem_singleton.mpr rfl)).1 (r.mono e)
  | dct h1 h2 r => exact .dct ((hA _ (List.mem_singleton.mpr rfl)).2.trans h1) (hA _ (List.mem_singleton.mpr rfl)).1 (r.mono e)
  | dtt h1 h2 r => exact .dtt ((hA _ (List.mem_singleton.mpr rfl)).2.trans h1) (hA _ (List.mem_singleton.mpr rfl)).1 (r.mono e)
  | dlk h1 r => exact .dlk (e _ _ h1) (r.mono e)
  | dlt h1 r => exact .dlt (e _ _ h1) (r.mono e)
  | bx h1 h2 r h3 h4 rk => exact .bx ((hA _ (by simp)).2.trans h1) (hA _ (by simp)).1 (r.mono e) ((hA _ (by simp)).2.trans h3) (hA _ (by simp)).1 (rk.mono e)
  | ins hc h1 h2 h3 r => exact .ins hc ((hA _ (List.mem_singleton.mpr rfl)).2.trans h1) (hA _ (List.mem_singleton.mpr rfl)).1 (e _ _ h3) (r.mono e)
  | exn hc h1 h2 =>
    refine .exn hc (e _ _ h1) ?_
    rcases h2 with h2 | ⟨dd, kvs, h3, h4, h5⟩
    · exact .inl h2
    · exact .inr ⟨dd, kvs, h3, e _ _ h4, h5.mono e⟩
theorem CR.fr {K : PySem.W.Frag} {cl : Str → Addr → Prop} {F H : Hp} {c : Cl} {v : V} {A : List Addr} (h : CR K cl F H c v A) : ∀ a ∈ A, F a = none ∧ ∃ o, H a = some o := by
  intro a ha
  cases h with
  | fz r => cases ha
  | lst h1 h2 r => rw [List.mem_singleton.mp ha]; exact ⟨h2, _, h1⟩
  | dct h1 h2 r => rw [List.mem_singleton.mp ha]; exact ⟨h2, _, h1⟩
  | dtt h1 h2 r => rw [List.mem_singleton.mp ha]; exact ⟨h2, _, h1⟩
  | dlk h1 r => cases ha
  | dlt h1 r => cases ha
  | bx h1 h2 r h3 h4 rk =>
    rcases List.mem_cons.mp ha with z | z
    · rw [z]; exact ⟨h2, _, h1⟩
    · rw [List.mem_singleton.mp z]; exact ⟨h4, _, h3⟩
  | ins hc h1 h2 h3 r => rw [List.mem_singleton.mp ha]; exact ⟨h2, _, h1⟩
  | exn hc h1 h2 => cases ha

inductive HL (K : PySem.W.Frag) (cl : Str → Addr → Prop) (F H : Hp) : List (Cl × V) → List Addr → Prop
  | nil : HL K cl F H [] []
  | cons {c : Cl} {v : V} {L : List (Cl × V)} {A B : List Addr} : CR K cl F H c v A → HL K cl F H L B → HL K cl F H ((c, v) :: L) (A ++ B)
section
variable {K : PySem.W.Frag} {cl : Str → Addr → Prop} {F F' H H' : Hp}
theorem HL.mono (e : Same F F') : ∀ {L : List (Cl × V)} {A : List Addr}, HL K cl F H L A → (∀ a ∈ A, F' a = none ∧ H' a = H a) → HL K cl F' H' L A
  | _, _, .nil, _ => .nil
  | _, _, .cons h r, hA => .cons (h.mono e fun a ha => hA a (List.mem_append_left _ ha)) (r.mono e fun a ha => hA a (List.mem_append_right _ ha))
theorem HL.fr : ∀ {L : List (Cl × V)} {A : List Addr}, HL K cl F H L A → ∀ a ∈ A, F a = none ∧ ∃ o, H a = some o
  | _, _, .nil, _, h => by cases h
  | _, _, .cons h r, a, ha => (List.mem_append.mp ha).elim (h.fr a) (r.fr a)
theorem HL.perm {L L' : List (Cl × V)} (p : L.Perm L') : ∀ {A : List Addr}, HL K cl F H L A → ∃ A', A.Perm A' ∧ HL K cl F H L' A' := by
  induction p with
  | nil => intro A h; exact ⟨A, .refl _, h⟩
  | cons x p ih =>
    intro A h
    cases h with
    | cons h r =>
      obtain ⟨A', q, r'⟩ := ih r
      exact ⟨_, List.Perm.append_left _ q, .cons h r'⟩
  | swap x y l =>
    intro A h
    cases h with
    | cons h1 r =>
      cases r with
      | cons h2 r =>
        refine ⟨_, ?_, .cons h2 (.cons h1 r)⟩
        rw [← List.append_assoc, ← List.append_assoc]
        exact List.Perm.append_right _ List.perm_append_comm
  | trans p q ih1 ih2 =>
    intro A h
    obtain ⟨A1, q1, h1⟩ := ih1 h
    obtain ⟨A2, q2, h2⟩ := ih2 h1
    exact ⟨A2, q1.trans q2, h2⟩
theorem HL.left : ∀ {L M : List (Cl × V)} {A : List Addr}, HL K cl F H (L ++ M) A → ∃ A1 A2, A = A1 ++ A2 ∧ HL K cl F H L A1 ∧ HL K cl F H M A2
  | [], M, A, h => ⟨[], A, rfl, .nil, h⟩
  | x :: L, M, _, h => by
    cases h with
    | cons h r =>
      obtain ⟨A1, A2, e, h1, h2⟩ := HL.left r
      rw [e]
      exact ⟨_, A2, by rw [List.append_assoc], .cons h h1, h2⟩

structure HR (K : PySem.W.Frag) (cl : Str → Addr → Prop) (F H : Hp) (L : List (Cl × V)) : Prop where
  sub : Same F H
  own : ∃ A, A.Nodup ∧ HL K cl F H L A
theorem HR.perm {L L' : List (Cl × V)} (h : HR K cl F H L) (p : L.Perm L') : HR K cl F H L' := by
  obtain ⟨s, A, n, r⟩ := h
  obtain ⟨A', q, r'⟩ := r.perm p
  exact ⟨s, A', q.nodup_iff.mp n, r'⟩
theorem HR.left {L M : List (Cl × V)} (h : HR K cl F H (L ++ M)) : HR K cl F H L := by
  obtain ⟨s, A, n, r⟩ := h
  obtain ⟨A1, A2, e, h1, h2⟩ := r.left
  rw [e] at n
  exact ⟨s, A1, (List.nodup_append.mp n).1, h1⟩
theorem HR.tail {x : Cl × V} {L : List (Cl × V)} (h : HR K cl F H (x :: L)) : HR K cl F H L :=
  (h.perm (L' := L ++ [x]) (List.perm_append_comm (l₁ := [x]) (l₂ := L))).left
theorem HR.drop2 {x y : Cl × V} {L : List (Cl × V)} (h : HR K cl F H (x :: y :: L)) : HR K cl F H (x :: L) :=
  (h.perm (.swap _ _ _)).tail
theorem HR.swap {x y : Cl × V} {L : List (Cl × V)} (h : HR K cl F H (x :: y :: L)) : HR K cl F H (y :: x :: L) := h.perm (.swap _ _ _)
theorem HR.head {c : Cl} {v : V} {L : List (Cl × V)} (h : HR K cl F H ((c, v) :: L)) : ∃ A, CR K cl F H c v A := by
  obtain ⟨s, A, n, r⟩ := h
  cases r with
  | cons h r => exact ⟨_, h⟩
theorem HR.mem {c : Cl} {v : V} {L : List (Cl × V)} (h : HR K cl F H L) (m : (c, v) ∈ L) : ∃ A, CR K cl F H c v A := by
  obtain ⟨L', p⟩ : ∃ L', L.Perm ((c, v) :: L') := by
    obtain ⟨a, b, e⟩ := List.append_of_mem m
    exact ⟨a ++ b, by rw [e]; exact List.perm_middle⟩
  exact (h.perm p).head
theorem HR.rp {d : D} {v : V} {L : List (Cl × V)} (h : HR K cl F H ((.fz d, v) :: L)) : Rp K F v d := by
  obtain ⟨A, q⟩ := h.head
  cases q with
  | fz r => exact r
theorem HR.push {d : D} {v : V} {L : List (Cl × V)} (h : HR K cl F H L) (r : Rp K F v d) : HR K cl F H ((.fz d, v) :: L) := by
  obtain ⟨s, A, n, q⟩ := h
  exact ⟨s, [] ++ A, n, .cons (.fz r) q⟩
/-- a new frozen object -/
theorem HR.newF {L : List (Cl × V)} {p : Addr} {o : HO} (h : HR K cl F H L) (hp : H p = none) : Same F (upd F p o) ∧ HR K cl (upd F p o) (upd H p o) L := by
  obtain ⟨s, A, n, q⟩ := h
  have fp : F p = none := s.free hp
  have sm : Same F (upd F p o) := fun b u e => by rw [upd_ne (ne_of_none e fp)]; exact e
  refine ⟨sm, fun b u e => ?_, A, n, q.mono sm fun a ha => ?_⟩
  · by_cases hb : b = p
    · subst hb; rw [upd_same] at e ⊢; exact e
    · rw [upd_ne hb] at e ⊢; exact s _ _ e
  · obtain ⟨h1, u, h2⟩ := q.fr a ha
    have ne : a ≠ p := ne_of_none h2 hp
    rw [upd_ne ne, upd_ne ne]
    exact ⟨h1, rfl⟩
/-- a new object of one's own -/
theorem HR.newO {L : List (Cl × V)} {p : Addr} {o : HO} {c : Cl} (h : HR K cl F H L) (hp : H p = none) (hc : CR K cl F (upd H p o) c (.ref p) [p]) : HR K cl F (upd H p o) ((c, .ref p) :: L) := by
  obtain ⟨s, A, n, q⟩ := h
  have np : ∀ a ∈ A, a ≠ p := fun a ha => by
    obtain ⟨_, u, h2⟩ := q.fr a ha
    exact ne_of_none h2 hp
  refine ⟨fun b u e => ?_, [p] ++ A, List.nodup_cons.mpr ⟨fun m => np p m rfl, n⟩, .cons hc (q.mono (Same.refl _) fun a ha => ⟨(q.fr a ha).1, upd_ne (np a ha)⟩)⟩
  rw [upd_ne (ne_of_none (s _ _ e) hp)]
  exact s _ _ e
/-- an object of one's own is changed -/
theorem HR.mut {L : List (Cl × V)} {p : Addr} {o : HO} {c c' : Cl} (h : HR K cl F H ((c, .ref p) :: L)) (h1 : ∀ A, CR K cl F H c (.ref p) A → A = [p]) (hc : CR K cl F (upd H p o) c' (.ref p) [p]) : HR K cl F (upd H p o) ((c', .ref p) :: L) := by
  obtain ⟨s, A, n, q⟩ := h
  cases q with
  | cons q r =>
    have e := h1 _ q
    subst e
    have n' := List.nodup_cons.mp n
    have fp := (q.fr p (List.mem_singleton.mpr rfl)).1
    refine ⟨fun b u e => ?_, _, n, .cons hc (r.mono (Same.refl _) fun a ha => ⟨(r.fr a ha).1, upd_ne fun z => n'.1 (z ▸ ha)⟩)⟩
    rw [upd_ne (ne_of_none e fp)]
    exact s _ _ e
theorem kd_map {κ : Type} : True := trivial
theorem RpKs.rpK : ∀ {kvs : List (Key × V)} {es : List (Key × D)}, RpKs K F kvs es → RpK K F kvs (es.map fun p => (kD p.1, p.2))
  | _, _, .nil => .nil
  | _, _, .cons h r => .cons h (RpKs.rpK r)
/-- what a cell is when nobody changes it any more -/
def Cl.data : Cl → Option D
  | .fz d => some d
  | .lst ds => some (.list ds)
  | .dct es => some (.dict (es.map fun p => (kD p.1, p.2)))
  | .dtt _ => none
  | .dlk _ => none
  | .dlt _ => none
  | .bx _ _ => none
  | .ins _ _ => none
  | .exn _ _ => none
/-- .. frozen -/
theorem HR.freeze {L : List (Cl × V)} {c : Cl} {v : V} {d : D} (h : HR K cl F H ((c, v) :: L)) (e : c.data = some d) : ∃ F', Same F F' ∧ HR K cl F' H ((.fz d, v) :: L) := by
  obtain ⟨s, A, n, q⟩ := h
  cases q with
  | cons q r =>
    have go : ∀ (a : Addr) (o : HO), H a = some o → F a = none → (∀ F', Same F F' → F' a = some o → Rp K F' (.ref a) d) → v = .ref a → (∀ b, HL K cl F H L b → (([a] ++ b).Nodup → True)) → ∀ B, ([a] ++ B).Nodup → HL K cl F H L B → ∃ F', Same F F' ∧ HR K cl F' H ((.fz d, v) :: L) := by
      intro a o h1 h2 h3 ev _ B nB rB
      subst ev
      have n' := List.nodup_cons.mp nB
      have sm : Same F (upd F a o) := fun b u e => by rw [upd_ne (ne_of_none e h2)]; exact e
      refine ⟨upd F a o, sm, fun b u e => ?_, [] ++ B, n'.2, .cons (.fz (h3 _ sm upd_same)) (rB.mono sm fun b hb => ⟨?_, rfl⟩)⟩
      · by_cases hb : b = a
        · subst hb; rw [upd_same] at e; rw [h1]; exact e
        · rw [upd_ne hb] at e; exact s _ _ e
      · have hb' : b ∈ B := hb
        have nb : b ≠ a := fun z => by subst z; exact n'.1 hb'
        rw [upd_ne nb]
        exact (rB.fr b hb').1
    cases q with
    | fz r' =>
      cases e
      exact ⟨F, Same.refl _, s, _, n, .cons (.fz r') r⟩
    | lst h1 h2 r' =>
      cases e
      exact go _ _ h1 h2 (fun F' sm hF => .lst (.inl (.inl hF)) (r'.mono sm)) rfl (fun _ _ _ => trivial) _ n r
    | dct h1 h2 r' =>
      cases e
      exact go _ _ h1 h2 (fun F' sm hF => .dct hF (r'.mono sm).rpK) rfl (fun _ _ _ => trivial) _ n r
    | dtt h1 h2 r' => cases e
    | dlk h1 r' => cases e
    | dlt h1 r' => cases e
    | bx _ _ _ _ _ _ => cases e
    | ins hc h1 h2 h3 r' => cases e
    | exn hc h1 h2 => cases e
end

/-! ### the slots -/
abbrev En := List (Option Cl)
def eL : En → St → List (Cl × V)
  | some c :: ρ, some v :: σ => (c, v) :: eL ρ σ
  | some _ :: ρ, none :: σ => eL ρ σ
  | none :: ρ, _ :: σ => eL ρ σ
  | _, _ => []
def EnOk : En → St → Prop
  | [], [] => True
  | some _ :: ρ, some _ :: σ => EnOk ρ σ
  | none :: ρ, _ :: σ => EnOk ρ σ
  | _, _ => False
theorem EnOk.len : ∀ {ρ : En} {σ : St}, EnOk ρ σ → ρ.length = σ.length
  | [], [], _ => rfl
  | some _ :: ρ, some _ :: σ, h => congrArg (· + 1) (EnOk.len (ρ := ρ) (σ := σ) h)
  | none :: ρ, _ :: σ, h => congrArg (· + 1) (EnOk.len (ρ := ρ) (σ := σ) h)
  | some _ :: _, none :: _, h => h.elim
  | [], _ :: _, h => h.elim
  | some _ :: _, [], h => h.elim
  | none :: _, [], h => h.elim
theorem en_get : ∀ {ρ : En} {σ : St} {i : Nat} {c : Cl}, EnOk ρ σ → ρ[i]? = some (some c) → ∃ v, σ[i]? = some (some v) ∧ (eL ρ σ).Perm ((c, v) :: eL (ρ.set i none) σ) ∧ EnOk (ρ.set i none) σ
  | [], _, _, _, _, e => by simp at e
  | some c' :: ρ, some v :: σ, 0, c, h, e => by
    simp only [List.getElem?_cons_zero, Option.some.injEq] at e
    subst e
    exact ⟨v, rfl, .refl _, h⟩
  | some c' :: ρ, some v :: σ, i + 1, c, h, e => by
    rw [List.getElem?_cons_succ] at e
    obtain ⟨w, h1, h2, h3⟩ := en_get (ρ := ρ) (σ := σ) h e
    refine ⟨w, by rw [List.getElem?_cons_succ]; exact h1, ?_, h3⟩
    exact (List.Perm.cons _ h2).trans (.swap _ _ _)
  | none :: ρ, x :: σ, 0, c, h, e => by simp at e
  | none :: ρ, x :: σ, i + 1, c, h, e => by
    rw [List.getElem?_cons_succ] at e
    obtain ⟨w, h1, h2, h3⟩ := en_get (ρ := ρ) (σ := σ) h e
    exact ⟨w, by rw [List.getElem?_cons_succ]; exact h1, h2, h3⟩
  | some _ :: _, none :: _, _, _, h, _ => h.elim
  | some _ :: _, [], _, _, h, _ => h.elim
  | none :: _, [], _, _, h, _ => h.elim
/-- a slot is stored -/
theorem en_set : ∀ {ρ : En} {σ : St} {i : Nat} (c : Cl) (v : V), EnOk ρ σ → i < ρ.length → EnOk (ρ.set i (some c)) (σ.set i (some v)) ∧ ∃ M, ((c, v) :: eL ρ σ).Perm (eL (ρ.set i (some c)) (σ.set i (some v)) ++ M)
  | [], _, _, _, _, _, e => by simp at e
  | some c' :: ρ, some v' :: σ, 0, c, v, h, _ => ⟨h, [(c', v')], by
      show ((c, v) :: (c', v') :: eL ρ σ).Perm ((c, v) :: (eL ρ σ ++ [(c', v')]))
      exact List.Perm.cons _ (List.perm_append_comm (l₁ := [(c', v')]) (l₂ := eL ρ σ))⟩
  | none :: ρ, x :: σ, 0, c, v, h, _ => ⟨h, [], by
      rw [List.append_nil]
      exact .refl _⟩
  | some c' :: ρ, some v' :: σ, i + 1, c, v, h, e => by
    obtain ⟨h1, M, h2⟩ := en_set (ρ := ρ) (σ := σ) (i := i) c v h (Nat.lt_of_succ_lt_succ e)
    exact ⟨h1, M, (List.Perm.swap _ _ _).trans (List.Perm.cons _ h2)⟩
  | none :: ρ, x :: σ, i + 1, c, v, h, e => by
    obtain ⟨h1, M, h2⟩ := en_set (ρ := ρ) (σ := σ) (i := i) c v h (Nat.lt_of_succ_lt_succ e)
    exact ⟨h1, M, h2⟩
  | some _ :: _, none :: _, _, _, _, h, _ => h.elim
  | some _ :: _, [], _, _, _, h, _ => h.elim
  | none :: _, [], _, _, _, h, _ => h.elim
/-- a slot's cell comes back -/
theorem en_put : ∀ {ρ : En} {σ : St} {i : Nat} {v : V} (c : Cl), EnOk ρ σ → ρ[i]? = some none → σ[i]? = some (some v) → EnOk (ρ.set i (some c)) σ ∧ ((c, v) :: eL ρ σ).Perm (eL (ρ.set i (some c)) σ)
  | [], _, _, _, _, _, e, _ => by simp at e
  | some c' :: ρ, some v' :: σ, 0, v, c, h, e, _ => by simp at e
  | none :: ρ, x :: σ, 0, v, c, h, _, e => by
    simp only [List.getElem?_cons_zero, Option.some.injEq] at e
    subst e
    exact ⟨h, .refl _⟩
  | some c' :: ρ, some v' :: σ, i + 1, v, c, h, e, e2 => by
    rw [List.getElem?_cons_succ] at e e2
    obtain ⟨h1, h2⟩ := en_put (ρ := ρ) (σ := σ) c h e e2
    exact ⟨h1, (List.Perm.swap _ _ _).trans (List.Perm.cons _ h2)⟩
  | none :: ρ, x :: σ, i + 1, v, c, h, e, e2 => by
    rw [List.getElem?_cons_succ] at e e2
    obtain ⟨h1, h2⟩ := en_put (ρ := ρ) (σ := σ) c h e e2
    exact ⟨h1, h2⟩
  | some _ :: _, none :: _, _, _, _, h, _, _ => h.elim
  | some _ :: _, [], _, _, _, h, _, _ => h.elim
  | none :: _, [], _, _, _, h, _, _ => h.elim
/-- a slot is emptied -/
theorem en_none : ∀ {ρ : En} {σ : St} (i : Nat) (o : Option V), EnOk ρ σ → EnOk (ρ.set i none) (σ.set i o) ∧ ∃ M, (eL ρ σ).Perm (eL (ρ.set i none) (σ.set i o) ++ M)
  | [], [], _, _, h => ⟨h, [], .refl _⟩
  | some c' :: ρ, some v' :: σ, 0, o, h => ⟨h, [(c', v')], (List.perm_append_comm (l₁ := [(c', v')]) (l₂ := eL ρ σ))⟩
  | none :: ρ, x :: σ, 0, o, h => ⟨h, [], by rw [List.append_nil]; exact .refl _⟩
  | some c' :: ρ, some v' :: σ, i + 1, o, h => by
    obtain ⟨h1, M, h2⟩ := en_none (ρ := ρ) (σ := σ) i o h
    exact ⟨h1, M, List.Perm.cons _ h2⟩
  | none :: ρ, x :: σ, i + 1, o, h => by
    obtain ⟨h1, M, h2⟩ := en_none (ρ := ρ) (σ := σ) i o h
    exact ⟨h1, M, h2⟩
  | some _ :: _, none :: _, _, _, h => h.elim
  | some _ :: _, [], _, _, h => h.elim
  | none :: _, [], _, _, h => h.elim
  | [], _ :: _, _, _, h => h.elim

structure R (K : PySem.W.Frag) (cl : Str → Addr → Prop) (F H : Hp) (ρ : En) (σ : St) (T : List (Cl × V)) : Prop where
  hr : HR K cl F H (eL ρ σ ++ T)
  ok : EnOk ρ σ
section
variable {K : PySem.W.Frag} {cl : Str → Addr → Prop} {F F' H H' : Hp} {ρ : En} {σ : St} {T : List (Cl × V)} {c : Cl} {v : V} {d : D} {i : Nat}
theorem mid {α : Type} (x : α) (L T : List α) : (L ++ x :: T).Perm (x :: (L ++ T)) := List.perm_middle
theorem R.mk' (h : HR K cl F H ((c, v) :: (eL ρ σ ++ T))) (ok : EnOk ρ σ) : R K cl F H ρ σ ((c, v) :: T) := ⟨h.perm (mid _ _ _).symm, ok⟩
theorem R.hr' (h : R K cl F H ρ σ ((c, v) :: T)) : HR K cl F H ((c, v) :: (eL ρ σ ++ T)) := h.hr.perm (mid _ _ _)
theorem R.tail (h : R K cl F H ρ σ ((c, v) :: T)) : R K cl F H ρ σ T := ⟨h.hr'.tail, h.ok⟩
theorem R.drop2 {x : Cl × V} (h : R K cl F H ρ σ ((c, v) :: x :: T)) : R K cl F H ρ σ ((c, v) :: T) := by
  refine .mk' ?_ h.ok
  exact (h.hr'.perm (List.Perm.cons _ (mid _ _ _))).drop2
theorem R.swap {c' : Cl} {v' : V} (h : R K cl F H ρ σ ((c, v) :: (c', v') :: T)) : R K cl F H ρ σ ((c', v') :: (c, v) :: T) := ⟨h.hr.perm (List.Perm.append_left _ (.swap _ _ _)), h.ok⟩
theorem R.sub (h : R K cl F H ρ σ T) : Same F H := h.hr.sub
theorem R.rp (h : R K cl F H ρ σ ((.fz d, v) :: T)) : Rp K F v d := h.hr'.rp
theorem R.push (h : R K cl F H ρ σ T) (r : Rp K F v d) : R K cl F H ρ σ ((.fz d, v) :: T) := .mk' (h.hr.push r) h.ok
theorem R.cr (h : R K cl F H ρ σ ((c, v) :: T)) : ∃ A, CR K cl F H c v A := h.hr'.head
theorem R.at (h : R K cl F H ρ σ T) (e : ρ[i]? = some (some c)) : ∃ v, σ[i]? = some (some v) ∧ ∃ A, CR K cl F H c v A := by
  obtain ⟨v, h1, h2, _⟩ := en_get h.ok e
  exact ⟨v, h1, ((h.hr.perm (List.Perm.append_right _ h2))).head⟩
theorem R.take (h : R K cl F H ρ σ T) (e : ρ[i]? = some (some c)) : ∃ v, σ[i]? = some (some v) ∧ R K cl F H (ρ.set i none) σ ((c, v) :: T) := by
  obtain ⟨v, h1, h2, h3⟩ := en_get h.ok e
  exact ⟨v, h1, .mk' (h.hr.perm (List.Perm.append_right _ h2)) h3⟩
theorem R.set (h : R K cl F H ρ σ ((c, v) :: T)) (hi : i < ρ.length) : R K cl F H (ρ.set i (some c)) (σ.set i (some v)) T := by
  obtain ⟨h1, M, h2⟩ := en_set c v h.ok hi
  refine ⟨?_, h1⟩
  have q : HR K cl F H ((c, v) :: eL ρ σ ++ T) := h.hr'
  refine ((q.perm (List.Perm.append_right T h2)).perm (L' := eL (ρ.set i (some c)) (σ.set i (some v)) ++ T ++ M) ?_).left
  rw [List.append_assoc, List.append_assoc]
  exact List.Perm.append_left _ List.perm_append_comm
theorem R.put (h : R K cl F H ρ σ ((c, v) :: T)) (e : ρ[i]? = some none) (e2 : σ[i]? = some (some v)) : R K cl F H (ρ.set i (some c)) σ T := by
  obtain ⟨h1, h2⟩ := en_put c h.ok e e2
  refine ⟨?_, h1⟩
  have q : HR K cl F H ((c, v) :: eL ρ σ ++ T) := h.hr'
  exact q.perm (List.Perm.append_right T h2)
theorem R.gone (h : R K cl F H ρ σ T) (i : Nat) (o : Option V) : R K cl F H (ρ.set i none) (σ.set i o) T := by
  obtain ⟨h1, M, h2⟩ := en_none i o h.ok
  refine ⟨((h.hr.perm (List.Perm.append_right T h2)).perm (L' := eL (ρ.set i none) (σ.set i o) ++ T ++ M) ?_).left, h1⟩
  rw [List.append_assoc, List.append_assoc]
  exact List.Perm.append_left _ List.perm_append_comm
theorem R.freeze (h : R K cl F H ρ σ ((c, v) :: T)) (e : c.data = some d) : ∃ F', Same F F' ∧ R K cl F' H ρ σ ((.fz d, v) :: T) := by
  obtain ⟨F', s, q⟩ := h.hr'.freeze e
  exact ⟨F', s, .mk' q h.ok⟩
end
end L3

namespace L3
open PySem PySem.Spec L2

/-! ### what the written part is; errors; results -/
structure Gd where
  K : PySem.W.Frag
  mg : Str → Option Value
def clOf (mg : Str → Option Value) (c : Str) (C : Addr) : Prop := mg c = some (.ref C)
abbrev Gd.R (G : Gd) (F H : Hp) (ρ : En) (σ : L2.St) (T : List (Cl × V)) : Prop := L3.R G.K (clOf G.mg) F H ρ σ T
abbrev Gd.HR (G : Gd) (F H : Hp) (L : List (Cl × V)) : Prop := L3.HR G.K (clOf G.mg) F H L
abbrev Gd.CR (G : Gd) (F H : Hp) (c : Cl) (v : V) (A : List Addr) : Prop := L3.CR G.K (clOf G.mg) F H c v A
structure Ex where
  cls : Str
  fs : List (Str × D)
def XR (G : Gd) (F : Hp) (x : Ex) (cls : Value) (d : Option Addr) : Prop :=
  ∃ C, G.mg x.cls = some (.ref C) ∧ cls = .ref C ∧ ((x.fs = [] ∧ d = none) ∨ ∃ dd fvs, d = some dd ∧ F dd = some (.xd fvs) ∧ RpKs G.K F fvs x.fs)
inductive Rz (α : Type) where
  | ok (a : α) (ρ : En)
  | ex (x : Ex) (ρ : En)
abbrev Fn (α : Type) := Nat → En → Option (Rz α)
def bnd {α β : Type} (x : Option (Rz α)) (k : α → En → Option (Rz β)) : Option (Rz β) :=
  match x with
  | some (.ok a ρ) => k a ρ
  | some (.ex x ρ) => some (.ex x ρ)
  | none => none
@[simp] theorem bnd_ok {α β : Type} (a : α) (ρ : En) (k : α → En → Option (Rz β)) : bnd (some (.ok a ρ)) k = k a ρ := rfl
@[simp] theorem bnd_ex {α β : Type} (x : Ex) (ρ : En) (k : α → En → Option (Rz β)) : bnd (some (.ex x ρ)) k = some (.ex x ρ) := rfl
@[simp] theorem bnd_none {α β : Type} (k : α → En → Option (Rz β)) : bnd none k = none := rfl

/-- what is wanted of an exception -/
def PoX (G : Gd) (W : WX) (F : Hp) (σ : L2.St) (T : List (Cl × V)) (x : Ex) (ρ : En) : Prop :=
  ∀ F' H' cls d, Same F F' → G.R F' H' ρ σ T → XR G F' x cls d → W cls d σ H'
theorem PoX.mono {G : Gd} {W : WX} {F F1 : Hp} {σ : L2.St} {T : List (Cl × V)} {x : Ex} {ρ : En} (h : PoX G W F σ T x ρ) (s : Same F F1) : PoX G W F1 σ T x ρ :=
  fun F' H' cls d s' r q => h F' H' cls d (s.trans s') r q

/-! ### operands: a slot's cell as it stands, or a value -/
inductive Bv where
  | pl (i : Nat)
  | vl (c : Cl)
def lk (ρ : En) : Bv → Option Cl
  | .pl i => (ρ[i]?).join
  | .vl c => some c
def bvT (b : Bv) (v : V) (T : List (Cl × V)) : List (Cl × V) :=
  match b with
  | .pl _ => T
  | .vl c => (c, v) :: T
def bvV (σ : L2.St) (b : Bv) (v : V) : Prop :=
  match b with
  | .pl i => σ[i]? = some (some v)
  | .vl _ => True
def bvTs : List Bv → List V → List (Cl × V) → List (Cl × V)
  | b :: bs, v :: vs, T => bvTs bs vs (bvT b v T)
  | _, _, T => T
def bvVs (σ : L2.St) : List Bv → List V → Prop
  | [], [] => True
  | b :: bs, v :: vs => bvV σ b v ∧ bvVs σ bs vs
  | _, _ => False
def lks (ρ : En) : List Bv → Option (List Cl)
  | [] => some []
  | b :: bs => match lk ρ b, lks ρ bs with
    | some c, some cs => some (c :: cs)
    | _, _ => none
section
variable {G : Gd} {W : WX} {F F' H H' : Hp} {ρ : En} {σ : L2.St} {T : List (Cl × V)}
theorem bvT_sub (b : Bv) (v : V) : ∀ x ∈ T, x ∈ bvT b v T := fun x hx => by
  cases b with
  | pl i => exact hx
  | vl c => exact List.mem_cons_of_mem _ hx
theorem bvTs_sub : ∀ (bs : List Bv) (vs : List V) (T : List (Cl × V)), ∀ x ∈ T, x ∈ bvTs bs vs T
  | [], _, _, _, h => h
  | _ :: _, [], _, _, h => h
  | b :: bs, v :: vs, T, x, h => bvTs_sub bs vs _ x (bvT_sub b v x h)
theorem bvT_drop (b : Bv) (v : V) (h : G.R F H ρ σ (bvT b v T)) : G.R F H ρ σ T := by
  cases b with
  | pl i => exact h
  | vl c => exact h.tail
theorem bvTs_drop : ∀ (bs : List Bv) (vs : List V) (T : List (Cl × V)), G.R F H ρ σ (bvTs bs vs T) → G.R F H ρ σ T
  | [], _, _, h => h
  | _ :: _, [], _, h => h
  | b :: bs, v :: vs, T, h => bvT_drop b v (bvTs_drop bs vs _ h)
inductive CRs (G : Gd) (F H : Hp) : List Cl → List V → Prop
  | nil : CRs G F H [] []
  | cons {c : Cl} {v : V} {cs : List Cl} {vs : List V} (h : ∃ A, G.CR F H c v A) (r : CRs G F H cs vs) : CRs G F H (c :: cs) (v :: vs)
theorem bv_cr {b : Bv} {v : V} {c : Cl} (h : G.R F H ρ σ T) (m : ∀ x ∈ bvT b v [], x ∈ T) (hv : bvV σ b v) (e : lk ρ b = some c) : ∃ A, G.CR F H c v A := by
  cases b with
  | pl i =>
    have e' : ρ[i]? = some (some c) := by
      show ρ[i]? = _
      have e : (ρ[i]?).join = some c := e
      cases q : ρ[i]? with
      | none => rw [q] at e; cases e
      | some o => rw [q] at e; rw [show o = some c from e]
    obtain ⟨w, h1, A, h2⟩ := h.at e'
    have hv : σ[i]? = some (some v) := hv
    rw [hv] at h1
    cases h1
    exact ⟨A, h2⟩
  | vl c' =>
    cases e
    exact h.hr.mem (List.mem_append_right _ (m _ (List.mem_singleton.mpr rfl)))
theorem bvs_cr : ∀ {bs : List Bv} {vs : List V} {cs : List Cl} {T0 : List (Cl × V)}, G.R F H ρ σ T → (∀ x ∈ bvTs bs vs T0, x ∈ T) → bvVs σ bs vs → lks ρ bs = some cs → CRs G F H cs vs
  | [], [], cs, _, _, _, _, e => by
    cases e
    exact .nil
  | [], _ :: _, _, _, _, _, h, _ => h.elim
  | _ :: _, [], _, _, _, _, h, _ => h.elim
  | b :: bs, v :: vs, cs, T0, h, m, hv, e => by
    unfold lks at e
    cases q1 : lk ρ b with
    | none => rw [q1] at e; cases e
    | some c =>
      cases q2 : lks ρ bs with
      | none => rw [q1, q2] at e; cases e
      | some cs' =>
        rw [q1, q2] at e
        cases e
        refine .cons (bv_cr h (fun x hx => m x (bvTs_sub bs vs _ x ?_)) hv.1 q1) (bvs_cr h (T0 := bvT b v T0) m hv.2 q2)
        cases b with
        | pl i => cases hx
        | vl c =>
          rw [List.mem_singleton.mp hx]
          exact List.mem_cons_self
end

/-! ### the judgements -/
def PoE (G : Gd) (W : WX) (F : Hp) (σ : L2.St) (T : List (Cl × V)) (Q : VK) : Rz Cl → Prop
  | .ok c ρ => ∀ F' H' v, Same F F' → G.R F' H' ρ σ ((c, v) :: T) → Q v H'
  | .ex x ρ => PoX G W F σ T x ρ
def SndE (G : Gd) (W : WX) (t : TE) (f : Fn Cl) : Prop :=
  ∀ n ρ r, f n ρ = some r → ∀ F H σ T Q, G.R F H ρ σ T → PoE G W F σ T Q r → t σ H Q
def PoB (G : Gd) (W : WX) (F : Hp) (σ : L2.St) (T : List (Cl × V)) (Q : VK) : Rz Bv → Prop
  | .ok b ρ => ∀ F' H' v, Same F F' → G.R F' H' ρ σ (bvT b v T) → bvV σ b v → Q v H'
  | .ex x ρ => PoX G W F σ T x ρ
def SndB (G : Gd) (W : WX) (t : TE) (f : Fn Bv) : Prop :=
  ∀ n ρ r, f n ρ = some r → ∀ F H σ T Q, G.R F H ρ σ T → PoB G W F σ T Q r → t σ H Q
def PoBs (G : Gd) (W : WX) (F : Hp) (σ : L2.St) (T : List (Cl × V)) (Q : List V → Hp → Prop) : Rz (List Bv) → Prop
  | .ok bs ρ => ∀ F' H' vs, Same F F' → G.R F' H' ρ σ (bvTs bs vs T) → bvVs σ bs vs → Q vs H'
  | .ex x ρ => PoX G W F σ T x ρ
def SndBs (G : Gd) (W : WX) (t : TA) (f : Fn (List Bv)) : Prop :=
  ∀ n ρ r, f n ρ = some r → ∀ F H σ T Q, G.R F H ρ σ T → PoBs G W F σ T Q r → t σ H Q
def PoT (G : Gd) (W : WX) (F : Hp) (σ : L2.St) (T : List (Cl × V)) (Q : Bool → Hp → Prop) : Rz Bool → Prop
  | .ok b ρ => ∀ F' H', Same F F' → G.R F' H' ρ σ T → Q b H'
  | .ex x ρ => PoX G W F σ T x ρ
def SndT (G : Gd) (W : WX) (t : TT) (f : Fn Bool) : Prop :=
  ∀ n ρ r, f n ρ = some r → ∀ F H σ T Q, G.R F H ρ σ T → PoT G W F σ T Q r → t σ H Q

section
variable {ι : Type}
def XE (G : Gd) (X : ι → Cx) (W : WX) (e : Expr) (f : Fn Cl) : Prop := ∃ t : TE, (∀ i, PE (X i) e t) ∧ SndE G W t f
def XB (G : Gd) (X : ι → Cx) (W : WX) (e : Expr) (f : Fn Bv) : Prop := ∃ t : TE, (∀ i, PE (X i) e t) ∧ SndB G W t f
def XBs (G : Gd) (X : ι → Cx) (W : WX) (es : List Expr) (f : Fn (List Bv)) : Prop := ∃ t : TA, (∀ i, PA (X i) es t) ∧ SndBs G W t f
def XT (G : Gd) (X : ι → Cx) (W : WX) (e : Expr) (f : Fn Bool) : Prop := ∃ t : TT, (∀ i, PT (X i) e t) ∧ SndT G W t f
def XW (G : Gd) (X : ι → Cx) (W : WX) (e : Expr) (f : Fn Bool) : Prop := ∃ t : TT, (∀ i, PW (X i) e t) ∧ SndT G W t f
end

/-! ### operands and their lists -/
section
variable {ι : Type} {G : Gd} {X : ι → Cx} {W : WX} {e : Expr} {es : List Expr}
def fOf (f : Fn Cl) : Fn Bv := fun n ρ => bnd (f n ρ) fun c ρ' => some (.ok (.vl c) ρ')
theorem xb_of {f : Fn Cl} (h : XE G X W e f) : XB G X W e (fOf f) := by
  obtain ⟨t, h1, h2⟩ := h
  refine ⟨t, h1, fun n ρ r e F H σ T Q hR hP => ?_⟩
  unfold fOf at e
  cases q : f n ρ with
  | none => rw [q] at e; cases e
  | some r1 =>
    rw [q] at e
    refine h2 n ρ r1 q F H σ T Q hR ?_
    cases r1 with
    | ok c ρ' =>
      cases e
      exact fun F' H' v s r' => hP F' H' v s r' trivial
    | ex x ρ' =>
      cases e
      exact hP
def fPl (i : Nat) : Fn Bv := fun _ ρ => if ((ρ[i]?).join).isSome then some (.ok (.pl i) ρ) else none
theorem snd_pl (i : Nat) : SndB G W (tVar i) (fPl i) := fun n ρ r e F H σ T Q hR hP => by
  unfold fPl at e
  cases q : ρ[i]? with
  | none => rw [q] at e; cases e
  | some o =>
    cases o with
    | none => rw [q] at e; cases e
    | some c =>
      rw [q] at e
      cases e
      obtain ⟨v, h1, _⟩ := hR.at q
      exact ⟨v, h1, hP F H v (Same.refl _) hR h1⟩
theorem xb_var {i : Nat} {x : Str} {pos : Pos} (h : ∀ j, PE (X j) (.Name x pos) (tVar i)) : XB G X W (.Name x pos) (fPl i) := ⟨_, h, snd_pl i⟩
def fNil : Fn (List Bv) := fun _ ρ => some (.ok [] ρ)
def fCons (f : Fn Bv) (g : Fn (List Bv)) : Fn (List Bv) := fun n ρ => bnd (f n ρ) fun b ρ1 => bnd (g n ρ1) fun bs ρ2 => some (.ok (b :: bs) ρ2)
theorem snd_nil : SndBs G W tNil fNil := fun n ρ r e F H σ T Q hR hP => by
  cases e
  exact hP F H [] (Same.refl _) hR trivial
theorem PoX.dropT {F F1 : Hp} {σ : L2.St} {T : List (Cl × V)} {x : Ex} {ρ : En} {b : Bv} {v : V} (h : PoX G W F σ T x ρ) (s : Same F F1) : PoX G W F1 σ (bvT b v T) x ρ :=
  fun F' H' cls d s' r q => h F' H' cls d (s.trans s') (bvT_drop b v r) q
theorem snd_cons {ta : TE} {t : TA} {f : Fn Bv} {g : Fn (List Bv)} (ha : SndB G W ta f) (hr : SndBs G W t g) : SndBs G W (tCons ta t) (fCons f g) := fun n ρ r e F H σ T Q hR hP => by
  unfold fCons at e
  cases q : f n ρ with
  | none => rw [q] at e; cases e
  | some r1 =>
    rw [q] at e
    refine ha n ρ r1 q F H σ T _ hR ?_
    cases r1 with
    | ex x ρ' =>
      cases e
      exact hP
    | ok b ρ1 =>
      intro F1 H1 v s1 R1 v1
      rw [bnd_ok] at e
      cases q2 : g n ρ1 with
      | none => rw [q2] at e; cases e
      | some r2 =>
        rw [q2] at e
        refine hr n ρ1 r2 q2 F1 H1 σ _ _ R1 ?_
        cases r2 with
        | ex x ρ' =>
          cases e
          exact PoX.dropT hP s1
        | ok bs ρ2 =>
          cases e
          exact fun F2 H2 vs s2 R2 v2 => hP F2 H2 (v :: vs) (s1.trans s2) R2 ⟨v1, v2⟩
theorem xbs_nil : XBs G X W [] fNil := ⟨_, fun _ => pa_nil, snd_nil⟩
theorem xbs_cons {f : Fn Bv} {g : Fn (List Bv)} (ha : XB G X W e f) (hr : XBs G X W es g) (hs : ∀ i, starEach (e :: es) (X i).env = (false, eval e (X i).env) :: starEach es (X i).env) : XBs G X W (e :: es) (fCons f g) := by
  obtain ⟨t, h1, h2⟩ := ha
  obtain ⟨t', h1', h2'⟩ := hr
  exact ⟨_, fun i => pa_cons (h1 i) (h1' i) (hs i), snd_cons h2 h2'⟩

/-! ### an operation on values -/
def Prm (G : Gd) (r : List V → Hp → VK → Prop) (g : List Cl → Option Cl) : Prop :=
  ∀ F H L cs vs c Q, G.HR F H L → CRs G F H cs vs → g cs = some c → (∀ F' H' v, Same F F' → G.HR F' H' ((c, v) :: L) → Q v H') → r vs H Q
def fPr (f : Fn (List Bv)) (g : List Cl → Option Cl) : Fn Cl := fun n ρ => bnd (f n ρ) fun bs ρ1 => match lks ρ1 bs with
  | some cs => match g cs with
    | some c => some (.ok c ρ1)
    | none => none
  | none => none
theorem bvTs_mem {F H : Hp} {ρ : En} {σ : L2.St} : True := trivial
theorem snd_prm {t : TA} {f : Fn (List Bv)} {r : List V → Hp → VK → Prop} {g : List Cl → Option Cl} (ht : SndBs G W t f) (hp : Prm G r g) : SndE G W (tCB r t) (fPr f g) := fun n ρ r' e F H σ T Q hR hP => by
  unfold fPr at e
  cases q : f n ρ with
  | none => rw [q] at e; cases e
  | some r1 =>
    rw [q] at e
    refine ht n ρ r1 q F H σ T _ hR ?_
    cases r1 with
    | ex x ρ' =>
      cases e
      exact hP
    | ok bs ρ1 =>
      intro F1 H1 vs s1 R1 v1
      rw [bnd_ok] at e
      cases q2 : lks ρ1 bs with
      | none => rw [q2] at e; cases e
      | some cs =>
        rw [q2] at e
        dsimp only at e
        cases q3 : g cs with
        | none => rw [q3] at e; cases e
        | some c =>
          rw [q3] at e
          cases e
          have R0 := bvTs_drop bs vs T R1
          refine hp F1 H1 _ cs vs c _ R0.hr (bvs_cr (T0 := T) R1 (fun _ z => z) v1 q2) q3 fun F' H' v s' h' => ?_
          exact hP F' H' v (s1.trans s') (.mk' h' R0.ok)
def l1 (r : V → Hp → VK → Prop) : List V → Hp → VK → Prop := fun vs H Q => match vs with
  | [x] => r x H Q
  | _ => False
def l2 (r : R2) : List V → Hp → VK → Prop := fun vs H Q => match vs with
  | [x, y] => r x y H Q
  | _ => False
variable {a b : Expr} {fa fb : Fn Bv} {g : List Cl → Option Cl} {pos : Pos}
abbrev f2 (fa fb : Fn Bv) (g : List Cl → Option Cl) : Fn Cl := fPr (fCons fa (fCons fb fNil)) g
abbrev f1 (fa : Fn Bv) (g : List Cl → Option Cl) : Fn Cl := fPr (fCons fa fNil) g
theorem xe_bin {op : Operator} {r : R2} (ho : ∀ i, OpR (X i) (binaryOp op) r) (hp : Prm G (l2 r) g) (ha : XB G X W a fa) (hb : XB G X W b fb) : XE G X W (.BinOp a op b pos) (f2 fa fb g) := by
  obtain ⟨ta, h1, h2⟩ := ha
  obtain ⟨tb, h3, h4⟩ := hb
  exact ⟨_, fun i => pe_op (ho i) (h1 i) (h3 i), snd_prm (r := l2 r) (snd_cons h2 (snd_cons h4 snd_nil)) hp⟩
theorem xe_un {op : UnaryOp} {r : V → Hp → VK → Prop} (ho : ∀ i, UnR (X i) (unaryOp op) r) (hp : Prm G (l1 r) g) (ha : XB G X W a fa) : XE G X W (.UnaryOp op a pos) (f1 fa g) := by
  obtain ⟨ta, h1, h2⟩ := ha
  exact ⟨_, fun i => pe_un (ho i) (h1 i), snd_prm (r := l1 r) (snd_cons h2 snd_nil) hp⟩
theorem xe_cmp {op : CmpOp} {r : R2} (ho : ∀ i, OpR (X i) (compareOp op) r) (hp : Prm G (l2 r) g) (ha : XB G X W a fa) (hb : XB G X W b fb) (hm : behindInMarks op b = false) : XE G X W (.Compare a [op] [b] pos) (f2 fa fb g) := by
  obtain ⟨ta, h1, h2⟩ := ha
  obtain ⟨tb, h3, h4⟩ := hb
  exact ⟨_, fun i => pe_cmpR (ho i) (h1 i) (h3 i) hm, snd_prm (r := l2 r) (snd_cons h2 (snd_cons h4 snd_nil)) hp⟩
theorem xe_ix {r : R2} (hr : ∀ i, IxR (X i) r) (hp : Prm G (l2 r) g) (ha : XB G X W a fa) (hb : XB G X W b fb) (hs : PlainIx b) : XE G X W (.Subscript a b pos) (f2 fa fb g) := by
  obtain ⟨ta, h1, h2⟩ := ha
  obtain ⟨tb, h3, h4⟩ := hb
  exact ⟨_, fun i => pe_ix (hr i) (h1 i) (h3 i) hs, snd_prm (r := l2 r) (snd_cons h2 (snd_cons h4 snd_nil)) hp⟩
/-- a built-in function's call -/
theorem xe_callB {id : String} {x : Str} {p : Pos} {f : Fn (List Bv)} {r : List V → Hp → VK → Prop} (hc : ∀ i, CallR (X i) (.builtin id) r) (hp : Prm G r g) (hg : ∀ i, Gl (X i) x) (hm : ∀ i, (X i).mg x = none) (hv : bootBuiltins x = some (.builtin id)) (ha : XBs G X W (e :: es) f)
    (hn : x ≠ "__name__") (hdb : (x == ("__debug__" : Str)) = false) (he : ∀ i, starEach (e :: es) (X i).env = (false, eval e (X i).env) :: starEach es (X i).env) (hpl : ∀ i, (backTo pos (starEach es (X i).env)).any (·.1) = false) :
    XE G X W (.Call (.Name x p) (e :: es) [] pos) (fPr f g) := by
  obtain ⟨t, h1, h2⟩ := ha
  exact ⟨_, fun i => pe_callB (hc i) (hg i) (hm i) hv (h1 i) hn hdb (he i) (hpl i), snd_prm h2 hp⟩
theorem xe_callTy {T : String} {x : Str} {p : Pos} {f : Fn (List Bv)} {r : List V → Hp → VK → Prop} (hc : ∀ i, CallR (X i) (.type T) r) (hp : Prm G r g) (hg : ∀ i, Gl (X i) x) (hm : ∀ i, (X i).mg x = none) (hv : bootBuiltins x = some (.type T)) (ha : XBs G X W (e :: es) f)
    (hn : x ≠ "__name__") (hdb : (x == ("__debug__" : Str)) = false) (he : ∀ i, starEach (e :: es) (X i).env = (false, eval e (X i).env) :: starEach es (X i).env) (hpl : ∀ i, (backTo pos (starEach es (X i).env)).any (·.1) = false) :
    XE G X W (.Call (.Name x p) (e :: es) [] pos) (fPr f g) := by
  obtain ⟨t, h1, h2⟩ := ha
  exact ⟨_, fun i => pe_callTy (hc i) (hg i) (hm i) hv (h1 i) hn hdb (he i) (hpl i), snd_prm h2 hp⟩
end
end L3

namespace L3
open PySem PySem.Spec L2

/-! ### frozen operands -/
def fzB (ρ : En) : Bv → Option (D × En)
  | .pl i => match (ρ[i]?).join with
    | some c => match c.data with
      | some d => some (d, ρ.set i (some (.fz d)))
      | none => none
    | none => none
  | .vl c => match c.data with
    | some d => some (d, ρ)
    | none => none
def fzBs (ρ : En) : List Bv → Option (List D × En)
  | [] => some ([], ρ)
  | b :: bs => match fzBs ρ bs with
    | some (ds, ρ1) => match fzB ρ1 b with
      | some (d, ρ2) => some (d :: ds, ρ2)
      | none => none
    | none => none
section
variable {G : Gd} {W : WX} {F F' H H' : Hp} {ρ ρ' : En} {σ : L2.St} {T : List (Cl × V)}
theorem join_some {ρ : En} {i : Nat} {c : Cl} (e : (ρ[i]?).join = some c) : ρ[i]? = some (some c) := by
  cases q : ρ[i]? with
  | none => rw [q] at e; cases e
  | some o => rw [q] at e; rw [show o = some c from e]
theorem set_get_none {ρ : En} {i : Nat} {o : Option Cl} (e : ρ[i]? = some o) : (ρ.set i none)[i]? = some none := by
  obtain ⟨h, _⟩ := List.getElem?_eq_some_iff.mp e
  rw [List.getElem?_set_self h]
theorem fz_one {b : Bv} {v : V} {d : D} (hR : G.R F H ρ σ (bvT b v T)) (hv : bvV σ b v) (e : fzB ρ b = some (d, ρ')) : ∃ F', Same F F' ∧ G.R F' H ρ' σ T ∧ Rp G.K F' v d := by
  cases b with
  | pl i =>
    have hR : G.R F H ρ σ T := hR
    unfold fzB at e
    dsimp only at e
    cases q : (ρ[i]?).join with
    | none => rw [q] at e; cases e
    | some c =>
      rw [q] at e
      dsimp only at e
      cases q2 : c.data with
      | none => rw [q2] at e; cases e
      | some d' =>
        rw [q2] at e
        cases e
        have qi := join_some q
        obtain ⟨w, h1, R1⟩ := hR.take qi
        obtain ⟨F', s, R2⟩ := R1.freeze q2
        have hv : σ[i]? = some (some v) := hv
        rw [hv] at h1
        cases h1
        have r := R2.rp
        have R3 := R2.put (set_get_none qi) hv
        rw [List.set_set] at R3
        exact ⟨F', s, R3, r⟩
  | vl c =>
    unfold fzB at e
    dsimp only at e
    cases q2 : c.data with
    | none => rw [q2] at e; cases e
    | some d' =>
      rw [q2] at e
      cases e
      obtain ⟨F', s, R2⟩ := R.freeze (c := c) (v := v) hR q2
      exact ⟨F', s, R2.tail, R2.rp⟩
theorem fz_many : ∀ {bs : List Bv} {vs : List V} {ds : List D} {T : List (Cl × V)} {ρ' : En}, G.R F H ρ σ (bvTs bs vs T) → bvVs σ bs vs → fzBs ρ bs = some (ds, ρ') → ∃ F', Same F F' ∧ G.R F' H ρ' σ T ∧ RpA G.K F' vs ds
  | [], [], ds, T, ρ', hR, _, e => by
    cases e
    exact ⟨F, Same.refl _, hR, .nil⟩
  | [], _ :: _, _, _, _, _, h, _ => h.elim
  | _ :: _, [], _, _, _, _, h, _ => h.elim
  | b :: bs, v :: vs, ds, T, ρ', hR, hv, e => by
    unfold fzBs at e
    cases q : fzBs ρ bs with
    | none => rw [q] at e; cases e
    | some p =>
      obtain ⟨ds', ρ1⟩ := p
      rw [q] at e
      dsimp only at e
      cases q2 : fzB ρ1 b with
      | none => rw [q2] at e; cases e
      | some p2 =>
        obtain ⟨d, ρ2⟩ := p2
        rw [q2] at e
        cases e
        obtain ⟨F1, s1, R1, r1⟩ := fz_many (T := bvT b v T) hR hv.2 q
        obtain ⟨F2, s2, R2, r2⟩ := fz_one R1 hv.1 q2
        exact ⟨F2, s1.trans s2, R2, .cons r2 (r1.mono s2)⟩
end

section
variable {ι : Type} {G : Gd} {X : ι → Cx} {W : WX} {e : Expr} {es : List Expr}
/-- an operand as frozen data -/
def fFz (f : Fn Bv) : Fn Cl := fun n ρ => bnd (f n ρ) fun b ρ1 => match fzB ρ1 b with
  | some (d, ρ2) => some (.ok (.fz d) ρ2)
  | none => none
theorem snd_fz {t : TE} {f : Fn Bv} (h : SndB G W t f) : SndE G W t (fFz f) := fun n ρ r e F H σ T Q hR hP => by
  unfold fFz at e
  cases q : f n ρ with
  | none => rw [q] at e; cases e
  | some r1 =>
    rw [q] at e
    refine h n ρ r1 q F H σ T Q hR ?_
    cases r1 with
    | ex x ρ' => cases e; exact hP
    | ok b ρ1 =>
      rw [bnd_ok] at e
      cases q2 : fzB ρ1 b with
      | none => rw [q2] at e; cases e
      | some p =>
        obtain ⟨d, ρ2⟩ := p
        rw [q2] at e
        cases e
        intro F1 H1 v s1 R1 v1
        obtain ⟨F2, s2, R2, r2⟩ := fz_one R1 v1 q2
        exact hP F2 H1 v (s1.trans s2) (R2.push r2)
theorem xe_fz {f : Fn Bv} (h : XB G X W e f) : XE G X W e (fFz f) := by
  obtain ⟨t, h1, h2⟩ := h
  exact ⟨t, h1, snd_fz h2⟩
/-- a slot's cell moved out -/
def fMv (i : Nat) : Fn Cl := fun _ ρ => match (ρ[i]?).join with
  | some c => some (.ok c (ρ.set i none))
  | none => none
theorem xe_mv {i : Nat} {x : Str} {pos : Pos} (h : ∀ j, PE (X j) (.Name x pos) (tVar i)) : XE G X W (.Name x pos) (fMv i) := ⟨_, h, fun n ρ r e F H σ T Q hR hP => by
  unfold fMv at e
  cases q : (ρ[i]?).join with
  | none => rw [q] at e; cases e
  | some c =>
    rw [q] at e
    cases e
    obtain ⟨v, h1, R1⟩ := hR.take (join_some q)
    exact ⟨v, h1, hP F H v (Same.refl _) R1⟩⟩
/-- constants -/
def fC (d : D) : Fn Cl := fun _ ρ => some (.ok (.fz d) ρ)
theorem snd_c {v : V} {d : D} (h : ∀ F, Rp G.K F v d) : SndE G W (tC v) (fC d) := fun n ρ r e F H σ T Q hR hP => by
  cases e
  exact hP F H v (Same.refl _) (hR.push (h F))
theorem xe_int {i : Int} {j : Nat} {pos : Pos} : XE G X W (.Constant (.int i) j pos) (fC (.int i)) := ⟨_, fun _ => pe_int, snd_c fun _ => .int i⟩
theorem xe_bool {i : Bool} {j : Nat} {pos : Pos} : XE G X W (.Constant (.bool i) j pos) (fC (.bool i)) := ⟨_, fun _ => pe_bl, snd_c fun _ => .bl i⟩
theorem xe_none {j : Nat} {pos : Pos} : XE G X W (.Constant .none j pos) (fC .none) := ⟨_, fun _ => pe_non, snd_c fun _ => .non⟩
theorem xe_str {x : Str} {j : Nat} {pos : Pos} : XE G X W (.Constant (.str x) j pos) (fC (.str x)) := ⟨_, fun _ => pe_str, snd_c fun _ => .str x⟩
/-- a module's constant -/
theorem xe_glob {x : Str} {v : V} {u : Value} {d : D} {pos : Pos} (hg : ∀ i, Gl (X i) x) (hm : ∀ i, (X i).mg x = some u) (r : RelV v u) (h : ∀ F, Rp G.K F v d) (hd : (x == ("__debug__" : Str)) = false) : XE G X W (.Name x pos) (fC d) :=
  ⟨_, fun i => pe_glob (hg i) (hm i) r hd, snd_c h⟩
/-! ### displays -/
def fTup (f : Fn (List Bv)) : Fn Cl := fun n ρ => bnd (f n ρ) fun bs ρ1 => match fzBs ρ1 bs with
  | some (ds, ρ2) => if ds.length ≤ 1000 then some (.ok (.fz (.tuple ds)) ρ2) else none
  | none => none
def fLst (f : Fn (List Bv)) : Fn Cl := fun n ρ => bnd (f n ρ) fun bs ρ1 => match fzBs ρ1 bs with
  | some (ds, ρ2) => if ds.length ≤ 1000 then some (.ok (.lst ds) ρ2) else none
  | none => none
theorem line1000 {n : Nat} (h : n ≤ 1000) : n ≤ sizeLine := Nat.le_of_lt (small1000 h)
theorem R.newTup {F H : Hp} {ρ : En} {σ : L2.St} {T : List (Cl × V)} {p : Addr} {vs : List V} {ds : List D} (hR : G.R F H ρ σ T) (hp : H p = none) (r : RpA G.K F vs ds) : Same F (upd F p (.tup vs)) ∧ G.R (upd F p (.tup vs)) (upd H p (.tup vs)) ρ σ ((.fz (.tuple ds), .ref p) :: T) := by
  obtain ⟨s, q⟩ := hR.hr.newF (o := .tup vs) hp
  exact ⟨s, R.push ⟨q, hR.ok⟩ (.tup (.inl upd_same) (r.mono s))⟩
theorem R.newLst {F H : Hp} {ρ : En} {σ : L2.St} {T : List (Cl × V)} {p : Addr} {vs : List V} {ds : List D} (hR : G.R F H ρ σ T) (hp : H p = none) (r : RpA G.K F vs ds) : G.R F (upd H p (.lst vs)) ρ σ ((.lst ds, .ref p) :: T) :=
  .mk' (hR.hr.newO hp (.lst upd_same (hR.sub.free hp) r)) hR.ok
theorem snd_tup {t : TA} {f : Fn (List Bv)} (h : SndBs G W t f) : SndE G W (tTup t) (fTup f) := fun n ρ r e F H σ T Q hR hP => by
  unfold fTup at e
  cases q : f n ρ with
  | none => rw [q] at e; cases e
  | some r1 =>
    rw [q] at e
    refine h n ρ r1 q F H σ T _ hR ?_
    cases r1 with
    | ex x ρ' => cases e; exact hP
    | ok bs ρ1 =>
      rw [bnd_ok] at e
      cases q2 : fzBs ρ1 bs with
      | none => rw [q2] at e; cases e
      | some p =>
        obtain ⟨ds, ρ2⟩ := p
        rw [q2] at e
        dsimp only at e
        split at e
        · rename_i hz
          cases e
          intro F1 H1 vs s1 R1 v1
          obtain ⟨F2, s2, R2, r2⟩ := fz_many R1 v1 q2
          refine ⟨by rw [r2.length]; exact line1000 hz, fun p hp => ?_⟩
          obtain ⟨s3, R3⟩ := R.newTup R2 hp r2
          exact hP _ _ _ ((s1.trans s2).trans s3) R3
        · cases e
theorem snd_lst {t : TA} {f : Fn (List Bv)} (h : SndBs G W t f) : SndE G W (tLst t) (fLst f) := fun n ρ r e F H σ T Q hR hP => by
  unfold fLst at e
  cases q : f n ρ with
  | none => rw [q] at e; cases e
  | some r1 =>
    rw [q] at e
    refine h n ρ r1 q F H σ T _ hR ?_
    cases r1 with
    | ex x ρ' => cases e; exact hP
    | ok bs ρ1 =>
      rw [bnd_ok] at e
      cases q2 : fzBs ρ1 bs with
      | none => rw [q2] at e; cases e
      | some p =>
        obtain ⟨ds, ρ2⟩ := p
        rw [q2] at e
        dsimp only at e
        split at e
        · rename_i hz
          cases e
          intro F1 H1 vs s1 R1 v1
          obtain ⟨F2, s2, R2, r2⟩ := fz_many R1 v1 q2
          refine ⟨by rw [r2.length]; exact line1000 hz, fun p hp => ?_⟩
          exact hP _ _ _ (s1.trans s2) (R.newLst R2 hp r2)
        · cases e
theorem xe_tup {f : Fn (List Bv)} {k : Nat} {pos : Pos} (h : XBs G X W es f) : XE G X W (.Tuple es k pos) (fTup f) := by
  obtain ⟨t, h1, h2⟩ := h
  exact ⟨_, fun i => pe_tup (h1 i), snd_tup h2⟩
theorem xe_lst {f : Fn (List Bv)} {pos : Pos} (h : XBs G X W es f) : XE G X W (.List es pos) (fLst f) := by
  obtain ⟨t, h1, h2⟩ := h
  exact ⟨_, fun i => pe_lst (h1 i), snd_lst h2⟩

/-! ### tests -/
def asB (c : Cl) : Option Bool := match c with
  | .fz (.bool b) => some b
  | _ => none
def fTst (f : Fn Cl) : Fn Bool := fun n ρ => bnd (f n ρ) fun c ρ1 => match asB c with
  | some b => some (.ok b ρ1)
  | none => none
theorem asB_some {c : Cl} {b : Bool} (h : asB c = some b) : c = .fz (.bool b) := by
  unfold asB at h
  split at h
  · cases h; rfl
  · cases h
theorem snd_tB {t : TE} {f : Fn Cl} (h : SndE G W t f) : SndT G W (tB t) (fTst f) := fun n ρ r e F H σ T Q hR hP => by
  unfold fTst at e
  cases q : f n ρ with
  | none => rw [q] at e; cases e
  | some r1 =>
    rw [q] at e
    refine h n ρ r1 q F H σ T _ hR ?_
    cases r1 with
    | ex x ρ' => cases e; exact hP
    | ok c ρ1 =>
      rw [bnd_ok] at e
      cases q2 : asB c with
      | none => rw [q2] at e; cases e
      | some b =>
        rw [q2] at e
        cases e
        have ec := asB_some q2
        subst ec
        intro F1 H1 v s1 R1
        have r := R1.rp
        cases r
        exact ⟨b, rfl, hP F1 H1 s1 R1.tail⟩
theorem xt_val {f : Fn Cl} (h : XE G X W e f) (he : ∀ i, ∀ whole, isTrue e (X i).env whole = (do let v ← whole; standAt e.pos; holding [v] (truthy v))) : XT G X W e (fTst f) := by
  obtain ⟨t, h1, h2⟩ := h
  exact ⟨_, fun i => pt_val (h1 i) (he i), snd_tB h2⟩
variable {a b : Expr} {fa fb : Fn Bv} {g : List Cl → Option Cl} {pos : Pos}
theorem xt_cmp {op : CmpOp} {r : R2} (ho : ∀ i, OpR (X i) (compareOp op) r) (hp : Prm G (l2 r) g) (ha : XB G X W a fa) (hb : XB G X W b fb) (hm : behindInMarks op b = false) : XT G X W (.Compare a [op] [b] pos) (fTst (f2 fa fb g)) := by
  obtain ⟨ta, h1, h2⟩ := ha
  obtain ⟨tb, h3, h4⟩ := hb
  exact ⟨_, fun i => pt_cmpR (ho i) (h1 i) (h3 i) hm, snd_tB (snd_prm (r := l2 r) (snd_cons h2 (snd_cons h4 snd_nil)) hp)⟩
variable {tA tB' : Fn Bool} {rest : List Expr}
def fAnd (t u : Fn Bool) : Fn Bool := fun n ρ => bnd (t n ρ) fun c ρ1 => if c = true then u n ρ1 else some (.ok false ρ1)
def fOr (t u : Fn Bool) : Fn Bool := fun n ρ => bnd (t n ρ) fun c ρ1 => if c = true then some (.ok true ρ1) else u n ρ1
def fNot (t : Fn Bool) : Fn Bool := fun n ρ => bnd (t n ρ) fun c ρ1 => some (.ok (!c) ρ1)
theorem xw_and1 (h : XT G X W a tA) : XW G X W (.BoolOp .And [a] pos) tA := by
  obtain ⟨t, h1, h2⟩ := h
  exact ⟨t, fun i => pw_and1 (h1 i), h2⟩
theorem xw_or1 (h : XT G X W a tA) : XW G X W (.BoolOp .Or [a] pos) tA := by
  obtain ⟨t, h1, h2⟩ := h
  exact ⟨t, fun i => pw_or1 (h1 i), h2⟩
theorem snd_and {t u : TT} {f g : Fn Bool} (h : SndT G W t f) (k : SndT G W u g) : SndT G W (tAnd t u) (fAnd f g) := fun n ρ r e F H σ T Q hR hP => by
  unfold fAnd at e
  cases q : f n ρ with
  | none => rw [q] at e; cases e
  | some r1 =>
    rw [q] at e
    refine h n ρ r1 q F H σ T _ hR ?_
    cases r1 with
    | ex x ρ' => cases e; exact hP
    | ok c ρ1 =>
      rw [bnd_ok] at e
      intro F1 H1 s1 R1
      cases c with
      | true =>
        rw [if_pos rfl] at e
        rw [if_pos rfl]
        refine k n ρ1 r e F1 H1 σ T Q R1 ?_
        cases r with
        | ex x ρ' => exact PoX.mono hP s1
        | ok d ρ2 => exact fun F2 H2 s2 R2 => hP F2 H2 (s1.trans s2) R2
      | false =>
        rw [if_neg Bool.false_ne_true] at e
        rw [if_neg Bool.false_ne_true]
        cases e
        exact hP F1 H1 s1 R1
theorem snd_or {t u : TT} {f g : Fn Bool} (h : SndT G W t f) (k : SndT G W u g) : SndT G W (tOr t u) (fOr f g) := fun n ρ r e F H σ T Q hR hP => by
  unfold fOr at e
  cases q : f n ρ with
  | none => rw [q] at e; cases e
  | some r1 =>
    rw [q] at e
    refine h n ρ r1 q F H σ T _ hR ?_
    cases r1 with
    | ex x ρ' => cases e; exact hP
    | ok c ρ1 =>
      rw [bnd_ok] at e
      intro F1 H1 s1 R1
      cases c with
      | false =>
        rw [if_neg Bool.false_ne_true] at e
        rw [if_neg Bool.false_ne_true]
        refine k n ρ1 r e F1 H1 σ T Q R1 ?_
        cases r with
        | ex x ρ' => exact PoX.mono hP s1
        | ok d ρ2 => exact fun F2 H2 s2 R2 => hP F2 H2 (s1.trans s2) R2
      | true =>
        rw [if_pos rfl] at e
        rw [if_pos rfl]
        cases e
        exact hP F1 H1 s1 R1
theorem snd_not {t : TT} {f : Fn Bool} (h : SndT G W t f) : SndT G W (tNot t) (fNot f) := fun n ρ r e F H σ T Q hR hP => by
  unfold fNot at e
  cases q : f n ρ with
  | none => rw [q] at e; cases e
  | some r1 =>
    rw [q] at e
    refine h n ρ r1 q F H σ T _ hR ?_
    cases r1 with
    | ex x ρ' => cases e; exact hP
    | ok c ρ1 =>
      cases e
      exact fun F1 H1 s1 R1 => hP F1 H1 s1 R1
theorem xw_and (ha : XT G X W a tA) (hb : XW G X W (.BoolOp .And (b :: rest) pos) tB') : XW G X W (.BoolOp .And (a :: b :: rest) pos) (fAnd tA tB') := by
  obtain ⟨t, h1, h2⟩ := ha
  obtain ⟨u, h3, h4⟩ := hb
  exact ⟨_, fun i => pw_and (h1 i) (h3 i), snd_and h2 h4⟩
theorem xw_or (ha : XT G X W a tA) (hb : XW G X W (.BoolOp .Or (b :: rest) pos) tB') : XW G X W (.BoolOp .Or (a :: b :: rest) pos) (fOr tA tB') := by
  obtain ⟨t, h1, h2⟩ := ha
  obtain ⟨u, h3, h4⟩ := hb
  exact ⟨_, fun i => pw_or (h1 i) (h3 i), snd_or h2 h4⟩
theorem xt_w {f : Fn Bool} (h : XW G X W e f) : XT G X W e f := by
  obtain ⟨t, h1, h2⟩ := h
  exact ⟨t, fun i => (h1 i).pt, h2⟩
theorem xt_not (h : XT G X W a tA) : XT G X W (.UnaryOp .Not a pos) (fNot tA) := by
  obtain ⟨t, h1, h2⟩ := h
  exact ⟨_, fun i => pt_not (h1 i), snd_not h2⟩
/-! ### .. as values -/
def fBv (t : Fn Bool) : Fn Cl := fun n ρ => bnd (t n ρ) fun c ρ1 => some (.ok (.fz (.bool c)) ρ1)
def fAndV (f : Fn Cl) (g : Fn Cl) : Fn Cl := fun n ρ => bnd (fTst f n ρ) fun c ρ1 => if c = true then g n ρ1 else some (.ok (.fz (.bool false)) ρ1)
def fOrV (f : Fn Cl) (g : Fn Cl) : Fn Cl := fun n ρ => bnd (fTst f n ρ) fun c ρ1 => if c = true then some (.ok (.fz (.bool true)) ρ1) else g n ρ1
theorem xe_one {op : BoolOp} {f : Fn Cl} (h : XE G X W a f) : XE G X W (.BoolOp op [a] pos) f := by
  obtain ⟨t, h1, h2⟩ := h
  exact ⟨t, fun i => pe_one (h1 i), h2⟩
theorem PoE.mono {F F1 : Hp} {σ : L2.St} {T : List (Cl × V)} {Q : VK} {r : Rz Cl} (h : PoE G W F σ T Q r) (s : Same F F1) : PoE G W F1 σ T Q r := by
  cases r with
  | ok c ρ => exact fun F' H' v s' r' => h F' H' v (s.trans s') r'
  | ex x ρ => exact PoX.mono h s
theorem xe_and {f g : Fn Cl} (ha : XE G X W a f) (hb : XE G X W (.BoolOp .And (b :: rest) pos) g) : XE G X W (.BoolOp .And (a :: b :: rest) pos) (fAndV f g) := by
  obtain ⟨t, h1, h2⟩ := ha
  obtain ⟨u, h3, h4⟩ := hb
  refine ⟨_, fun i => pe_and (h1 i) (h3 i), fun n ρ r e F H σ T Q hR hP => ?_⟩
  unfold fAndV at e
  cases q : fTst f n ρ with
  | none => rw [q] at e; cases e
  | some r1 =>
    rw [q] at e
    refine snd_tB h2 n ρ r1 q F H σ T (fun c H1 => if c = true then u σ H1 Q else Q (.bl false) H1) hR ?_
    cases r1 with
    | ex x ρ' => cases e; exact hP
    | ok c ρ1 =>
      rw [bnd_ok] at e
      intro F1 H1 s1 R1
      cases c with
      | true =>
        rw [if_pos rfl] at e
        rw [if_pos rfl]
        exact h4 n ρ1 r e F1 H1 σ T Q R1 (hP.mono s1)
      | false =>
        rw [if_neg Bool.false_ne_true] at e
        rw [if_neg Bool.false_ne_true]
        cases e
        exact hP F1 H1 _ s1 (R1.push (.bl false))
theorem xe_or {f g : Fn Cl} (ha : XE G X W a f) (hb : XE G X W (.BoolOp .Or (b :: rest) pos) g) : XE G X W (.BoolOp .Or (a :: b :: rest) pos) (fOrV f g) := by
  obtain ⟨t, h1, h2⟩ := ha
  obtain ⟨u, h3, h4⟩ := hb
  refine ⟨_, fun i => pe_or (h1 i) (h3 i), fun n ρ r e F H σ T Q hR hP => ?_⟩
  unfold fOrV at e
  cases q : fTst f n ρ with
  | none => rw [q] at e; cases e
  | some r1 =>
    rw [q] at e
    refine snd_tB h2 n ρ r1 q F H σ T (fun c H1 => if c = true then Q (.bl true) H1 else u σ H1 Q) hR ?_
    cases r1 with
    | ex x ρ' => cases e; exact hP
    | ok c ρ1 =>
      rw [bnd_ok] at e
      intro F1 H1 s1 R1
      cases c with
      | false =>
        rw [if_neg Bool.false_ne_true] at e
        rw [if_neg Bool.false_ne_true]
        exact h4 n ρ1 r e F1 H1 σ T Q R1 (hP.mono s1)
      | true =>
        rw [if_pos rfl] at e
        rw [if_pos rfl]
        cases e
        exact hP F1 H1 _ s1 (R1.push (.bl true))
theorem xe_not {f : Fn Cl} (ha : XE G X W a f) : XE G X W (.UnaryOp .Not a pos) (fBv (fNot (fTst f))) := by
  obtain ⟨t, h1, h2⟩ := ha
  refine ⟨_, fun i => pe_not (h1 i), fun n ρ r e F H σ T Q hR hP => ?_⟩
  unfold fBv at e
  cases q : fNot (fTst f) n ρ with
  | none => rw [q] at e; cases e
  | some r1 =>
    rw [q] at e
    refine snd_not (snd_tB h2) n ρ r1 q F H σ T (fun c H1 => Q (.bl c) H1) hR ?_
    cases r1 with
    | ex x ρ' => cases e; exact hP
    | ok c ρ1 =>
      cases e
      exact fun F1 H1 s1 R1 => hP F1 H1 _ s1 (R1.push (.bl c))
def fIf (t : Fn Bool) (f g : Fn Cl) : Fn Cl := fun n ρ => bnd (t n ρ) fun c ρ1 => if c = true then f n ρ1 else g n ρ1
theorem xe_if {c : Expr} {f g : Fn Cl} (hc : XT G X W c tA) (ha : XE G X W a f) (hb : XE G X W b g) : XE G X W (.IfExp c a b pos) (fIf tA f g) := by
  obtain ⟨t, h1, h2⟩ := hc
  obtain ⟨ta, h3, h4⟩ := ha
  obtain ⟨tb, h5, h6⟩ := hb
  refine ⟨_, fun i => pe_ifExp (h1 i) (h3 i) (h5 i), fun n ρ r e F H σ T Q hR hP => ?_⟩
  unfold fIf at e
  cases q : tA n ρ with
  | none => rw [q] at e; cases e
  | some r1 =>
    rw [q] at e
    refine h2 n ρ r1 q F H σ T _ hR ?_
    cases r1 with
    | ex x ρ' => cases e; exact hP
    | ok c ρ1 =>
      rw [bnd_ok] at e
      intro F1 H1 s1 R1
      cases c with
      | true =>
        rw [if_pos rfl] at e
        show if true = true then _ else _
        rw [if_pos rfl]
        exact h4 n ρ1 r e F1 H1 σ T Q R1 (hP.mono s1)
      | false =>
        rw [if_neg Bool.false_ne_true] at e
        show if false = true then _ else _
        rw [if_neg Bool.false_ne_true]
        exact h6 n ρ1 r e F1 H1 σ T Q R1 (hP.mono s1)
/-- a op b op' c -/
def fCh (fa fb fc : Fn Bv) (g g' : List Cl → Option Cl) : Fn Cl := fun n ρ => bnd (fa n ρ) fun ba ρ0 => bnd (fb n ρ0) fun bb ρ1 => match lks ρ1 [ba, bb] with
  | some cs => match g cs with
    | some (.fz (.bool true)) => bnd (fc n ρ1) fun bc ρ2 => match lks ρ2 [bb, bc] with
      | some cs' => match g' cs' with
        | some c' => some (.ok c' ρ2)
        | none => none
      | none => none
    | some (.fz (.bool false)) => some (.ok (.fz (.bool false)) ρ1)
    | _ => none
  | none => none
theorem snd_ch {ta tb tc : TE} {fc : Fn Bv} {r r' : R2} {g' : List Cl → Option Cl} (h1 : SndB G W ta fa) (h2 : SndB G W tb fb) (h3 : SndB G W tc fc) (hp : Prm G (l2 r) g) (hp' : Prm G (l2 r') g') : SndE G W (tChain r r' ta tb tc) (fCh fa fb fc g g') := fun n ρ o e F H σ T Q hR hP => by
  unfold fCh at e
  cases q : fa n ρ with
  | none => rw [q] at e; cases e
  | some r1 =>
    rw [q] at e
    refine h1 n ρ r1 q F H σ T _ hR ?_
    cases r1 with
    | ex x ρ' => cases e; exact hP
    | ok ba ρ0 =>
      rw [bnd_ok] at e
      intro F1 H1 x s1 R1 v1
      cases q2 : fb n ρ0 with
      | none => rw [q2] at e; cases e
      | some r2 =>
        rw [q2] at e
        refine h2 n ρ0 r2 q2 F1 H1 σ _ _ R1 ?_
        cases r2 with
        | ex x ρ' => cases e; exact PoX.dropT hP s1
        | ok bb ρ1 =>
          rw [bnd_ok] at e
          intro F2 H2 y s2 R2 v2
          cases q3 : lks ρ1 [ba, bb] with
          | none => rw [q3] at e; cases e
          | some cs =>
            rw [q3] at e
            dsimp only at e
            have cr := bvs_cr (bs := [ba, bb]) (vs := [x, y]) (T0 := T) R2 (fun _ z => z) ⟨v1, v2, trivial⟩ q3
            have R0 : G.R F2 H2 ρ1 σ (bvT bb y T) := by
              cases bb with
              | pl j => exact bvT_drop ba x R2
              | vl c =>
                cases ba with
                | pl j => exact R2
                | vl c' => exact R.drop2 (x := (c', x)) R2
            cases q4 : g cs with
            | none => rw [q4] at e; cases e
            | some c =>
              rw [q4] at e
              refine hp F2 H2 (eL ρ1 σ ++ (bvT bb y T)) cs [x, y] c _ R0.hr cr q4 fun F3 H3 z s3 hz => ?_
              have Rz : G.R F3 H3 ρ1 σ ((c, z) :: bvT bb y T) := .mk' hz R0.ok
              split at e
              · rename_i ez
                cases ez
                have rz := Rz.rp
                cases rz
                refine ⟨true, rfl, ?_⟩
                rw [if_pos rfl]
                cases q5 : fc n ρ1 with
                | none => rw [q5] at e; cases e
                | some r3 =>
                  rw [q5] at e
                  refine h3 n ρ1 r3 q5 F3 H3 σ _ _ Rz.tail ?_
                  cases r3 with
                  | ex x ρ' => cases e; exact PoX.dropT hP ((s1.trans s2).trans s3)
                  | ok bc ρ2 =>
                    rw [bnd_ok] at e
                    intro F4 H4 w s4 R4 v4
                    cases q6 : lks ρ2 [bb, bc] with
                    | none => rw [q6] at e; cases e
                    | some cs' =>
                      rw [q6] at e
                      dsimp only at e
                      cases q7 : g' cs' with
                      | none => rw [q7] at e; cases e
                      | some c' =>
                        rw [q7] at e
                        cases e
                        have cr' := bvs_cr (bs := [bb, bc]) (vs := [y, w]) (T0 := T) R4 (fun _ z => z) ⟨v2, v4, trivial⟩ q6
                        have R5 : G.R F4 H4 ρ2 σ T := bvT_drop bb y (bvT_drop bc w R4)
                        exact hp' F4 H4 _ cs' [y, w] c' _ R5.hr cr' q7 fun F5 H5 z' s5 h5 => hP F5 H5 z' ((((s1.trans s2).trans s3).trans s4).trans s5) (.mk' h5 R5.ok)
              · rename_i ez
                cases ez
                have rz := Rz.rp
                cases rz
                refine ⟨false, rfl, ?_⟩
                rw [if_neg Bool.false_ne_true]
                cases e
                exact hP F3 H3 _ ((s1.trans s2).trans s3) ((bvT_drop bb y Rz.tail).push (.bl false))
              · cases e
theorem xe_ch {op op' : CmpOp} {r r' : R2} {c : Expr} {fc : Fn Bv} {g' : List Cl → Option Cl} (ho : ∀ i, OpR (X i) (compareOp op) r) (ho' : ∀ i, OpR (X i) (compareOp op') r') (hp : Prm G (l2 r) g) (hp' : Prm G (l2 r') g') (ha : XB G X W a fa) (hb : XB G X W b fb) (hc : XB G X W c fc)
    (hm : lastMarks [op, op'] [b, c] = false) : XE G X W (.Compare a [op, op'] [b, c] pos) (fCh fa fb fc g g') := by
  obtain ⟨ta, h1, h2⟩ := ha
  obtain ⟨tb, h3, h4⟩ := hb
  obtain ⟨tc, h5, h6⟩ := hc
  exact ⟨_, fun i => pe_chain (ho i) (ho' i) (h1 i) (h3 i) (h5 i) hm, snd_ch h2 h4 h6 hp hp'⟩
theorem xt_ch {op op' : CmpOp} {r r' : R2} {c : Expr} {fc : Fn Bv} {g' : List Cl → Option Cl} (ho : ∀ i, OpR (X i) (compareOp op) r) (ho' : ∀ i, OpR (X i) (compareOp op') r') (hp : Prm G (l2 r) g) (hp' : Prm G (l2 r') g') (ha : XB G X W a fa) (hb : XB G X W b fb) (hc : XB G X W c fc)
    (hm : lastMarks [op, op'] [b, c] = false) : XT G X W (.Compare a [op, op'] [b, c] pos) (fTst (fCh fa fb fc g g')) := by
  obtain ⟨ta, h1, h2⟩ := ha
  obtain ⟨tb, h3, h4⟩ := hb
  obtain ⟨tc, h5, h6⟩ := hc
  exact ⟨_, fun i => pt_chain (ho i) (ho' i) (h1 i) (h3 i) (h5 i) hm, snd_tB (snd_ch h2 h4 h6 hp hp')⟩
end
end L3

namespace L3
open PySem PySem.Spec L2 PyProof.Rows

/-! ### enumerate over a thing whose iterator is at hand -/
/-- v opens where H holds: its iterator, and the heap behind -/
def Opens (v : Value) (H : Heap → Prop) (it : Heap → Addr) (behind : Heap → Heap) : Prop := ∀ (prog : Program) (w : World) (A : Around) (E : Value → Shared → Prop) (s : Shared) (Q : Value → Shared → Prop), H s.heap →
  Q (.ref (it s.heap)) { s with heap := behind s.heap } → wpAny (model prog w) A (pyIter v) Q E s
/-- the record of enumerate(v) before its first turn -/
abbrev enO (it : Addr) : Obj := { cls := .type "enumerate", data := .fields #[.none, .bool false, .ref it, rawInt 0, .none, .none] }
set_option maxHeartbeats 1000000 in
theorem meets_enum {v : Value} {H : Heap → Prop} {it : Heap → Addr} {behind : Heap → Heap} (op : Opens v H it behind) :
    Meets (Builtin.«enumerate.__new__» ⟨[.type "enumerate", v], []⟩) (fun _ R s => H s.heap ∧ R (.ok (.ret (.ref (behind s.heap).objs.size))) { s with heap := (behind s.heap).push (enO (it s.heap)) }) :=
  .of_wp fun prog w A R s hyp => by
    obtain ⟨can, post⟩ := hyp
    have self := PySem.sub_enumerate
    have opened : ∀ {A' : Around} {E : Value → Shared → Prop} {Q : Value → Shared → Prop}, Q (.ref (it s.heap)) { s with heap := behind s.heap } → wpAny (model prog w) A' (pyIter v) Q E s := op prog w _ _ s _ can
    wp_walk using opened
    refine wpAny_stack_any fun _ => wpAny_pure ?_
    split <;> first | (rename_i c _ _ _ _ _; cases (c == Value.type "enumerate") <;> (wp_walk using opened; exact ⟨_, rfl, post⟩)) | (wp_walk using opened; exact ⟨_, rfl, post⟩)
theorem enum_over {prog : Program} {w : World} {A : Around} {E : Value → Shared → Prop} {s : Shared} {v : Value} {H : Heap → Prop} {it : Heap → Addr} {behind : Heap → Heap} {Q : Value → Shared → Prop} (op : Opens v H it behind) (can : H s.heap)
    (post : ∀ h', IsEnum h' (behind s.heap).objs.size (it s.heap) 0 .none → h'.objs.size = (behind s.heap).objs.size + 1 → (∀ c o, (behind s.heap).get? c = some o → h'.get? c = some o) → Q (.ref (behind s.heap).objs.size) { s with heap := h' }) :
    wpAny (model prog w) A (call (.type "enumerate") [v]) Q E s := by
  have en : IsEnum ((behind s.heap).push (enO (it s.heap))) (behind s.heap).objs.size (it s.heap) 0 .none := Heap.get?_push_size _ rfl
  exact callType_new PySem.F.called_enumerate (by decide) (PySem.F.typeCall_enumerate_1 _) (PySem.F.newCall_enumerate_1 _) (fun obj => PySem.F.args_object_init_2 obj _) PySem.F.entry_enumerate_new
    (meets_enum op) ⟨can, ⟨_, en, rfl⟩, post _ en (Heap.size_push ..) fun _ _ => Heap.get?_push_of_some _⟩
theorem enum_begins0 {prog : Program} {w : World} {A : Around} {E : Value → Shared → Prop} {s : Shared} {v : Value} {o : Obj} {H : Heap → Prop} {Q : Value → Shared → Prop} (B : Begins v o H) (can : H s.heap)
    (post : ∀ h', IsEnum h' (s.heap.objs.size + 1) s.heap.objs.size 0 .none → h'.get? s.heap.objs.size = some o → h'.objs.size = s.heap.objs.size + 2 → (∀ c o, s.heap.get? c = some o → h'.get? c = some o) → Q (.ref (s.heap.objs.size + 1)) { s with heap := h' }) :
    wpAny (model prog w) A (call (.type "enumerate") [v]) Q E s :=
  enum_over (behind := fun h => h.push o) (it := fun h => h.objs.size) (fun prog w A E s Q => B.iter prog w A E s Q) can fun h' en sz kept => by
    have one : (s.heap.push o).objs.size = s.heap.objs.size + 1 := Heap.size_push ..
    simp only [one] at en sz ⊢
    exact post h' en (kept _ _ (Heap.get?_push_size _ B.free)) sz fun c o q => kept c o (Heap.get?_push_of_some _ q)
/-! ### enumerate(tuple) -/
def IteT (K : PySem.W.Frag) (a : Addr) : It :=
  ⟨fun i H => ∃ (xs : List V) (x : V), SqT K H a xs ∧ xs[i]? = some x, fun i H v H' => ∃ T x, v = .ref T ∧ H T = none ∧ H' = upd H T (.tup [.int (i : Nat), x]) ∧ ∀ xs, SqT K H a xs → xs[i]? = some x, fun i H => ∃ xs : List V, SqT K H a xs ∧ xs.length ≤ i⟩
/-- the end of enumerate over a tuple that is used up, whatever the count is -/
theorem enum_done {prog : Program} {w : World} {A : Around} {E : Value → Shared → Prop} {s : Shared} {e it a : Addr} {i : Nat} {c : Int} {old : Value} {its : Array Value} {Q : Option Value → Shared → Prop} (hh : A.handled = none) (en : IsEnum s.heap e it c old)
    (iter : s.heap.IsTupleIter it a i) (tup : s.heap.IsTuple a its) (full : its.size ≤ i) (q : ∀ h', Heap.ExtBut it s.heap h' → Q none { s with heap := h' }) : wpAny (model prog w) A (pyNext (.ref e)) Q E s :=
  wpAny_pyNext_enum_endD (n := i) (P := fun _ _ => True) (St := fun j h => j = i ∧ h.IsTupleIter it a i ∧ h.IsTuple a its)
    { live := fun _ _ st => st.2.1.imp fun _ z => z.1
      frame := fun _ _ _ st k => ⟨st.1, st.2.1.at fun o z => k it (.head _) o z, st.2.2.at fun o z => k a (.tail _ (.head _)) o z⟩
      item := fun _ _ _ _ lt st _ => absurd st.1 (Nat.ne_of_lt lt)
      done := fun _ _ _ st h => wpAny_nextOf_tuple_end hh st.2.1 st.2.2 (Array.getElem?_eq_none full) h : Draws prog w A.in1 it [it, a] i _ _ } en ⟨rfl, iter, tup⟩ q
/-- the pair (i, x) that enumerate has laid at T: once the loop has let go of it, it stands as a tuple of ours, and the iterators have turned -/
theorem pair_laid {X : Cx} {pins : List (Addr × Obj)} {σ : L2.St} {H : Hp} {s : Shared} {h' : Heap} {tk i : Nat} {e it T : Addr} {x : V} {u : Value} {ch : List Addr} {elts : List Expr} {kk : Nat} {tpos : Pos} {E : Value → Shared → Prop}
    (I : L2.Inv X pins σ H s) (new : s.heap.objs.size ≤ T) (hf : ∀ b ∈ ch, FpOk X pins H b) (me : e ∈ ch) (lt : ∀ b ∈ ch, b < T) (ru : RelV x u) (out : IsEnumOut h' e it ((i : Int) + 1) u T)
    (laid : h'.get? T = some { cls := .type "tuple", data := .seq #[.int i tk, u] }) (kept : ∀ b o, b ∉ ch → s.heap.get? b = some o → h'.get? b = some o) :
    wpAny (model X.prog X.w) X.A (letOwnedTupleGo (.Tuple elts kk tpos) (.ref e) (.ref T)) (fun _ t => Inv X pins σ (upd H T (.tup [.int i, x])) t ∧ IsEnum t.heap e it ((i : Int) + 1) u ∧ Heap.SameBut e h' t.heap) E { s with heap := h', toks := tk + 1 } :=
  wpAny_letOwnedTupleGo_enum (s := { s with heap := h', toks := tk + 1 }) out fun h2 en same =>
    ⟨I.turnedNew (ch := ch) (fun b o nb q => (same.2 b fun z => nb (z ▸ me)).trans (kept b o nb q)) hf new ⟨by show 2 ≤ sizeLine; decide, [.int i tk, u], .cons ⟨tk, rfl⟩ (.cons ru .nil), ⟨_, (same.2 _ (Nat.ne_of_gt (lt e me))).trans laid, rfl, 0, rfl⟩⟩, en, same⟩
theorem fp_none {H : Hp} {n : Addr} {o : HO} {ch : List Addr} (lt : ∀ b ∈ ch, b < n) (hn : ∀ b ∈ ch, H b = none) : ∀ b ∈ ch, upd H n o b = none := fun b hb => (upd_ne (Nat.ne_of_lt (lt b hb))).trans (hn b hb)
theorem turn_enumT {P : Program} {w : World} {K : PySem.W.Frag} {elts : List Expr} {kk : Nat} {tpos : Pos} (a e it : Addr) :
    Turn P w K (.Tuple elts kk tpos) (IteT K a) [e, it] e (fun i h => (∃ old, IsEnum h e it ((i : Nat) : Int) old) ∧ h.IsTupleIter it a i ∧ e ≠ it ∧ a ≠ it ∧ a ≠ e) where
  mem := List.mem_cons_self
  obj _ _ st b hb := by
    have ⟨⟨_, en⟩, ⟨o, at_, _, dd⟩, _⟩ := st
    match b, hb with
    | _, .head _ => exact ⟨_, en, nofun⟩
    | _, .tail _ (.head _) => exact ⟨o, at_, fun v z => nomatch dd.symm.trans z⟩
  keep _ _ _ st k := ⟨st.1.imp fun _ en => k e (.head _) _ en, st.2.1.at fun o q => k it (.tail _ (.head _)) o q, st.2.2⟩
  item X hP hw hK calm i pins s σ H E I hf st hg := by
    cases hP; cases hw; cases hK
    have ⟨⟨_, en⟩, iter, ne, ni, nE⟩ := st
    have ⟨xs, x, hq, at_⟩ := hg
    have ⟨its, rv, tup, _⟩ := I.tuple hq
    have ⟨u, au, ru⟩ := rv.get at_
    have lt : ∀ b ∈ [e, it], b < s.heap.objs.size := fun
      | _, .head _ => Heap.lt_size en
      | _, .tail _ (.head _) => Heap.lt_size iter.choose_spec.1
    have inb : i < its.toArray.size := by
      have := (List.getElem?_eq_some_iff.mp au).1
      rwa [List.size_toArray]
    refine wpAny_pyNext_enum_itemC (Draws.tuple (A := X.A.in1) (I.ok.hd calm) it a ni its.toArray) en ⟨iter, tup⟩ inb ne (by simp [ne, Ne.symm nE]) fun y h' tk hy out st' laid _ kept => ⟨_, rfl, ?_⟩
    obtain rfl : y = u := Option.some.inj ((show its[i]? = some y by simpa using hy).symm.trans au)
    refine wpAny_mono (pair_laid (ch := [e, it]) I (Nat.le_refl _) hf (.head _) lt ru out laid fun b o nb => kept b o (fun z => nb (z ▸ .head _)) fun z => nb (z ▸ .tail _ (.head _))) (fun _ t ⟨J, en', same⟩ => ?_) fun _ _ z => z
    exact ⟨V.ref s.heap.objs.size, _, J, rfl, ⟨_, x, rfl, I.hok.fresh (Nat.le_refl _), rfl, fun ys hy => (I.tuple_inj hy hq) ▸ at_⟩, ⟨⟨y, by rw [Int.natCast_succ]; exact en'⟩, st'.1.at fun o q => (same.2 it (Ne.symm ne)).trans q, ne, ni, nE⟩, fp_none lt fun b hb => (hf b hb).1⟩
  done X hP hw hK calm i pins s σ H E I hf st hg := by
    cases hP; cases hw; cases hK
    have ⟨⟨_, en⟩, iter, _, ni, _⟩ := st
    have ⟨xs, hq, over⟩ := hg
    have ⟨its, rv, tup, _⟩ := I.tuple hq
    have ⟨f0, f1, f2, f3, f4, f5⟩ := hf it (.tail _ (.head _))
    have full : its.toArray.size ≤ i := by rw [List.size_toArray, ← rv.length]; exact over
    exact enum_done (I.ok.hd calm) en iter tup full fun h' ext => ⟨rfl, I.turned (t' := s.toks) (fun b o nb q => ext b o nb q) f0 f1 f3 f4 f5⟩
  self _ _ _ _ _ st h := st.1.elim fun _ en => wpAny_pyIter_enum en h
/-- over a list or a tuple -/
def iEnumA (K : PySem.W.Frag) (ta : TA) : TI := fun σ H R => ta σ H fun vs H1 => ∃ a, vs = [.ref a] ∧ ((∃ xs, SqL K H1 a xs ∧ R (Ite K a) H1) ∨ (∃ xs, SqT K H1 a xs ∧ R (IteT K a) H1))
/-- two objects just laid, both of the iterator -/
theorem two_new {X : Cx} {pins : List (Addr × Obj)} {σ : L2.St} {H : Hp} {s : Shared} (I : L2.Inv X pins σ H s) : ∀ b ∈ [s.heap.objs.size + 1, s.heap.objs.size], FpOk X pins H b
  | _, .head _ => I.fpOk (Nat.le_succ _) (I.hok.fresh (Nat.le_succ _))
  | _, .tail _ (.head _) => I.fpOk (Nat.le_refl _) (I.hok.fresh (Nat.le_refl _))
theorem pi_enumA {X : Cx} {e : Expr} {ta : TA} {p pos tpos : Pos} {elts : List Expr} {kk : Nat} (hg : Gl X "enumerate") (hm : X.mg "enumerate" = none) (ha : PA X [e] ta) (hs : starEach [e] X.env = [(false, eval e X.env)]) :
    PI X (.Tuple elts kk tpos) (.Call (.Name "enumerate" p) [e] [] pos) (iEnumA X.K ta) where
  run pins s σ H R I h := Call_ (ld_blt I hg hm boot_enumerate (PyProof.Rows.callWith_type1 (thn (ha.run pos pins s σ H _ I h) fun us s1 ⟨vs, H1, I1, r1, a, ex, q⟩ => by
    cases ex
    cases r1 with
    | cons r rr =>
      cases rr; cases r
      rcases q with ⟨xs, hq, q⟩ | ⟨xs, hq, q⟩
      · have ⟨its, _, pl, _⟩ := I1.list hq
        exact call_enumerate_list pl.isList fun h' en iter _ k => wpAny_pyIter_enum en ⟨_, _, _, _, H1, rfl, I1.kept (t' := s1.toks) k, turn_enum a _ _, ⟨⟨.none, en⟩, iter, Nat.succ_ne_self _⟩, two_new I1, q⟩
      · have ⟨its, _, tup, _⟩ := I1.tuple hq
        have lt : a < s1.heap.objs.size := tup.elim fun _ z => Heap.lt_size z.1
        exact enum_begins0 (begins_tuple a its.toArray) tup fun h' en iter _ k => wpAny_pyIter_enum en ⟨_, _, _, _, H1, rfl, I1.kept (t' := s1.toks) k, turn_enumT a _ _, ⟨⟨.none, en⟩, ⟨_, iter, rfl, rfl⟩, Nat.succ_ne_self _, Nat.ne_of_lt lt, Nat.ne_of_lt (Nat.lt_succ_of_lt lt)⟩, two_new I1, q⟩) hs rfl))
/-- x in a list or a tuple -/
def iSeq (K : PySem.W.Frag) (tl : TE) : TI := fun σ H R => tl σ H fun x H1 => ∃ a, x = .ref a ∧ ((∃ xs, SqL K H1 a xs ∧ R (Itl K a) H1) ∨ (∃ xs, SqT K H1 a xs ∧ R (Itt K a) H1))
theorem pi_seq {X : Cx} {tg l : Expr} {tl : TE} (hl : PE X l tl) : PI X tg l (iSeq X.K tl) where
  run pins s σ H R I h := thn (hl.run pins s σ H _ I h) fun v s1 ⟨x, H1, I1, r1, a, e, q⟩ => by
    cases e
    cases r1
    cases q with
    | inl q =>
      have ⟨xs, hq, q⟩ := q
      have ⟨its, _, p, _⟩ := I1.list hq
      exact wpAny_pyIter_list p.isList (pi_one I1 _ (turn_list a _) ⟨_, Heap.get?_push_size _ rfl, rfl, rfl⟩ q)
    | inr q =>
      have ⟨xs, hq, q⟩ := q
      have ⟨its, _, p, _⟩ := I1.tuple hq
      exact wpAny_pyIter_tuple (items := its.toArray) p (pi_one I1 _ (turn_tuple a _) ⟨_, Heap.get?_push_size _ rfl, rfl, rfl⟩ q)

/-! ### what a walk over frozen data yields -/
structure ItOk (G : Gd) (J : It) (F : Hp) (ds : List D) : Prop where
  go : ∀ F' H' L i, Same F F' → G.HR F' H' L → i < ds.length → J.go i H'
  yld : ∀ F' H' L i x H'' d, Same F F' → G.HR F' H' L → ds[i]? = some d → J.yld i H' x H'' → ∃ F'', Same F' F'' ∧ G.HR F'' H'' L ∧ Rp G.K F'' x d
  stop : ∀ F' H' L i, Same F F' → G.HR F' H' L → ds.length ≤ i → J.stop i H'
section
variable {G : Gd} {F : Hp} {a b : Addr} {vs ws : List V} {ds es : List D}
theorem itok_lst (h : SqL G.K F a vs) (r : RpA G.K F vs ds) : ItOk G (Itl G.K a) F ds where
  go := fun F' H' L i s hr hi => by
    have hi' : i < vs.length := by rw [r.length]; exact hi
    exact ⟨vs, vs[i], (s.trans hr.sub).seq h, List.getElem?_eq_getElem hi'⟩
  yld := fun F' H' L i x H'' d s hr hd hy => by
    obtain ⟨rfl, hx⟩ := hy
    obtain ⟨v, h1, h2⟩ := r.get hd
    have e := hx vs ((s.trans hr.sub).seq h)
    rw [h1] at e
    cases e
    exact ⟨F', Same.refl _, hr, h2.mono s⟩
  stop := fun F' H' L i s hr hi => ⟨vs, (s.trans hr.sub).seq h, by rw [r.length]; exact hi⟩
theorem itok_tup (h : SqU G.K F a vs) (r : RpA G.K F vs ds) : ItOk G (Itt G.K a) F ds where
  go := fun F' H' L i s hr hi => by
    have hi' : i < vs.length := by rw [r.length]; exact hi
    exact ⟨vs, vs[i], sameT (s.trans hr.sub) h, List.getElem?_eq_getElem hi'⟩
  yld := fun F' H' L i x H'' d s hr hd hy => by
    obtain ⟨rfl, hx⟩ := hy
    obtain ⟨v, h1, h2⟩ := r.get hd
    have e := hx vs (sameT (s.trans hr.sub) h)
    rw [h1] at e
    cases e
    exact ⟨F', Same.refl _, hr, h2.mono s⟩
  stop := fun F' H' L i s hr hi => ⟨vs, sameT (s.trans hr.sub) h, by rw [r.length]; exact hi⟩
theorem itok_rng (lo : Int) (n : Nat) : ItOk G (Itr lo n) F ((List.range n).map fun (i : Nat) => PyData.int (lo + (i : Int))) where
  go := fun F' H' L i s hr hi => by
    rw [List.length_map, List.length_range] at hi
    exact hi
  yld := fun F' H' L i x H'' d s hr hd hy => by
    obtain ⟨rfl, rfl⟩ := hy
    rw [List.getElem?_map] at hd
    cases q : (List.range n)[i]? with
    | none => rw [q] at hd; cases hd
    | some j =>
      rw [q] at hd
      have ej : j = i := by
        have := List.getElem?_eq_some_iff.mp q
        obtain ⟨h, e⟩ := this
        rw [List.getElem_range] at e
        exact e.symm
      subst ej
      cases hd
      exact ⟨F', Same.refl _, hr, .int _⟩
  stop := fun F' H' L i s hr hi => by
    rw [List.length_map, List.length_range] at hi
    exact hi
theorem itok_rngC (lo c : Int) (n : Nat) : ItOk G (Itc lo c n) F ((List.range n).map fun (i : Nat) => PyData.int (lo + (i : Int) * c)) where
  go := fun F' H' L i s hr hi => by
    rw [List.length_map, List.length_range] at hi
    exact hi
  yld := fun F' H' L i x H'' d s hr hd hy => by
    obtain ⟨rfl, rfl⟩ := hy
    rw [List.getElem?_map] at hd
    cases q : (List.range n)[i]? with
    | none => rw [q] at hd; cases hd
    | some j =>
      rw [q] at hd
      have ej : j = i := by
        have := List.getElem?_eq_some_iff.mp q
        obtain ⟨h, e⟩ := this
        rw [List.getElem_range] at e
        exact e.symm
      subst ej
      cases hd
      exact ⟨F', Same.refl _, hr, .int _⟩
  stop := fun F' H' L i s hr hi => by
    rw [List.length_map, List.length_range] at hi
    exact hi
def enumD : Nat → List D → List D
  | _, [] => []
  | k, d :: ds => .tuple [.int (k : Nat), d] :: enumD (k + 1) ds
theorem enumD_len : ∀ (k : Nat) (ds : List D), (enumD k ds).length = ds.length
  | _, [] => rfl
  | k, d :: ds => congrArg (· + 1) (enumD_len (k + 1) ds)
theorem enumD_get : ∀ (k : Nat) (ds : List D) (i : Nat), (enumD k ds)[i]? = (ds[i]?).map fun d => .tuple [.int ((k + i : Nat) : Int), d]
  | _, [], i => by simp [enumD]
  | k, d :: ds, 0 => rfl
  | k, d :: ds, i + 1 => by
    show (enumD (k + 1) ds)[i]? = _
    rw [enumD_get (k + 1) ds i, List.getElem?_cons_succ, show k + 1 + i = k + (i + 1) from by omega]
theorem pair_new {F' H' : Hp} {L : List (Cl × V)} {T : Addr} {x y : V} {d e : D} (hr : G.HR F' H' L) (hT : H' T = none) (h1 : Rp G.K F' x d) (h2 : Rp G.K F' y e) : ∃ F'', Same F' F'' ∧ G.HR F'' (upd H' T (.tup [x, y])) L ∧ Rp G.K F'' (.ref T) (.tuple [d, e]) := by
  obtain ⟨s, q⟩ := hr.newF (o := .tup [x, y]) hT
  exact ⟨_, s, q, .tup (.inl upd_same) (.cons (h1.mono s) (.cons (h2.mono s) .nil))⟩
theorem itok_enum (h : SqL G.K F a vs) (r : RpA G.K F vs ds) : ItOk G (Ite G.K a) F (enumD 0 ds) where
  go := fun F' H' L i s hr hi => by
    rw [enumD_len] at hi
    have hi' : i < vs.length := by rw [r.length]; exact hi
    exact ⟨vs, vs[i], (s.trans hr.sub).seq h, List.getElem?_eq_getElem hi'⟩
  yld := fun F' H' L i x H'' d s hr hd hy => by
    obtain ⟨T, y, rfl, hT, rfl, hx⟩ := hy
    rw [enumD_get] at hd
    cases q : ds[i]? with
    | none => rw [q] at hd; cases hd
    | some d' =>
      rw [q] at hd
      cases hd
      obtain ⟨v, h1, h2⟩ := r.get q
      have e := hx vs ((s.trans hr.sub).seq h)
      rw [h1] at e
      cases e
      rw [show 0 + i = i from Nat.zero_add i]
      exact pair_new hr hT (.int _) (h2.mono s)
  stop := fun F' H' L i s hr hi => ⟨vs, (s.trans hr.sub).seq h, by rw [r.length]; rw [enumD_len] at hi; exact hi⟩
theorem itok_enumT (h : SqU G.K F a vs) (r : RpA G.K F vs ds) : ItOk G (IteT G.K a) F (enumD 0 ds) where
  go := fun F' H' L i s hr hi => by
    rw [enumD_len] at hi
    have hi' : i < vs.length := by rw [r.length]; exact hi
    exact ⟨vs, vs[i], sameT (s.trans hr.sub) h, List.getElem?_eq_getElem hi'⟩
  yld := fun F' H' L i x H'' d s hr hd hy => by
    obtain ⟨T, y, rfl, hT, rfl, hx⟩ := hy
    rw [enumD_get] at hd
    cases q : ds[i]? with
    | none => rw [q] at hd; cases hd
    | some d' =>
      rw [q] at hd
      cases hd
      obtain ⟨v, h1, h2⟩ := r.get q
      have e := hx vs (sameT (s.trans hr.sub) h)
      rw [h1] at e
      cases e
      rw [show 0 + i = i from Nat.zero_add i]
      exact pair_new hr hT (.int _) (h2.mono s)
  stop := fun F' H' L i s hr hi => ⟨vs, sameT (s.trans hr.sub) h, by rw [r.length]; rw [enumD_len] at hi; exact hi⟩
def zipD : List D → List D → List D
  | d :: ds, e :: es => .tuple [d, e] :: zipD ds es
  | _, _ => []
theorem zipD_len : ∀ (ds es : List D), (zipD ds es).length = min ds.length es.length
  | [], es => by simp [zipD]
  | _ :: _, [] => by simp [zipD]
  | d :: ds, e :: es => by
    show (zipD ds es).length + 1 = min (ds.length + 1) (es.length + 1)
    rw [zipD_len ds es]; omega
theorem zipD_get : ∀ (ds es : List D) (i : Nat) (p : D), (zipD ds es)[i]? = some p → ∃ d e, ds[i]? = some d ∧ es[i]? = some e ∧ p = .tuple [d, e]
  | [], es, i, p, h => by simp [zipD] at h
  | _ :: _, [], i, p, h => by simp [zipD] at h
  | d :: ds, e :: es, 0, p, h => ⟨d, e, rfl, rfl, (Option.some.inj h).symm⟩
  | d :: ds, e :: es, i + 1, p, h => zipD_get ds es i p h
theorem itok_zip (h : SqL G.K F a vs) (r : RpA G.K F vs ds) (h' : SqL G.K F b ws) (r' : RpA G.K F ws es) : ItOk G (Itz G.K a b) F (zipD ds es) where
  go := fun F' H' L i s hr hi => by
    rw [zipD_len] at hi
    have hi1 : i < vs.length := by rw [r.length]; omega
    have hi2 : i < ws.length := by rw [r'.length]; omega
    exact ⟨vs, ws, vs[i], ws[i], (s.trans hr.sub).seq h, (s.trans hr.sub).seq h', List.getElem?_eq_getElem hi1, List.getElem?_eq_getElem hi2⟩
  yld := fun F' H' L i x H'' d s hr hd hy => by
    obtain ⟨T, y, z, rfl, hT, rfl, hx, hz⟩ := hy
    obtain ⟨d1, d2, q1, q2, rfl⟩ := zipD_get _ _ _ _ hd
    obtain ⟨v, h1, h2⟩ := r.get q1
    obtain ⟨v', h1', h2'⟩ := r'.get q2
    have e := hx vs ((s.trans hr.sub).seq h)
    rw [h1] at e
    cases e
    have e := hz ws ((s.trans hr.sub).seq h')
    rw [h1'] at e
    cases e
    exact pair_new hr hT (h2.mono s) (h2'.mono s)
  stop := fun F' H' L i s hr hi => ⟨vs, ws, (s.trans hr.sub).seq h, (s.trans hr.sub).seq h', by rw [r.length, r'.length]; rw [zipD_len] at hi; omega⟩
theorem itok_zipT (h : SqU G.K F a vs) (r : RpA G.K F vs ds) (h' : SqU G.K F b ws) (r' : RpA G.K F ws es) : ItOk G (RZ.ItzT G.K a b) F (zipD ds es) where
  go := fun F' H' L i s hr hi => by
    rw [zipD_len] at hi
    have hi1 : i < vs.length := by rw [r.length]; omega
    have hi2 : i < ws.length := by rw [r'.length]; omega
    exact ⟨vs, ws, vs[i], ws[i], sameT (s.trans hr.sub) h, sameT (s.trans hr.sub) h', List.getElem?_eq_getElem hi1, List.getElem?_eq_getElem hi2⟩
  yld := fun F' H' L i x H'' d s hr hd hy => by
    obtain ⟨T, y, z, rfl, hT, rfl, hx, hz⟩ := hy
    obtain ⟨d1, d2, q1, q2, rfl⟩ := zipD_get _ _ _ _ hd
    obtain ⟨v, h1, h2⟩ := r.get q1
    obtain ⟨v', h1', h2'⟩ := r'.get q2
    have e := hx vs (sameT (s.trans hr.sub) h)
    rw [h1] at e
    cases e
    have e := hz ws (sameT (s.trans hr.sub) h')
    rw [h1'] at e
    cases e
    exact pair_new hr hT (h2.mono s) (h2'.mono s)
  stop := fun F' H' L i s hr hi => ⟨vs, ws, sameT (s.trans hr.sub) h, sameT (s.trans hr.sub) h', by rw [r.length, r'.length]; rw [zipD_len] at hi; omega⟩
end
/-! ### the walked things -/
def PoI (G : Gd) (W : WX) (F : Hp) (σ : L2.St) (T : List (Cl × V)) (Q : It → Hp → Prop) : Rz (List D) → Prop
  | .ok ds ρ => ∀ F' H' J, Same F F' → G.R F' H' ρ σ T → ItOk G J F' ds → Q J H'
  | .ex x ρ => PoX G W F σ T x ρ
def SndI (G : Gd) (W : WX) (t : TI) (f : Fn (List D)) : Prop :=
  ∀ n ρ r, f n ρ = some r → ∀ F H σ T Q, G.R F H ρ σ T → PoI G W F σ T Q r → t σ H Q
def XI {ι : Type} (G : Gd) (X : ι → Cx) (W : WX) (tg e : Expr) (f : Fn (List D)) : Prop := ∃ t : TI, (∀ i, PI (X i) tg e t) ∧ SndI G W t f
def asSeq (d : D) : Option (List D) := match d with
  | .list ds => some ds
  | .tuple ds => some ds
  | _ => none
section
variable {ι : Type} {G : Gd} {X : ι → Cx} {W : WX} {e tg : Expr} {es : List Expr}
/-- operands as frozen data -/
def fFzs (f : Fn (List Bv)) : Fn (List D) := fun n ρ => bnd (f n ρ) fun bs ρ1 => match fzBs ρ1 bs with
  | some (ds, ρ2) => some (.ok ds ρ2)
  | none => none
def PoFs (G : Gd) (W : WX) (F : Hp) (σ : L2.St) (T : List (Cl × V)) (Q : List V → Hp → Prop) : Rz (List D) → Prop
  | .ok ds ρ => ∀ F' H' vs, Same F F' → G.R F' H' ρ σ T → RpA G.K F' vs ds → Q vs H'
  | .ex x ρ => PoX G W F σ T x ρ
theorem snd_fzs {t : TA} {f : Fn (List Bv)} (h : SndBs G W t f) : ∀ n ρ r, fFzs f n ρ = some r → ∀ F H σ T Q, G.R F H ρ σ T → PoFs G W F σ T Q r → t σ H Q := fun n ρ r e F H σ T Q hR hP => by
  unfold fFzs at e
  cases q : f n ρ with
  | none => rw [q] at e; cases e
  | some r1 =>
    rw [q] at e
    refine h n ρ r1 q F H σ T Q hR ?_
    cases r1 with
    | ex x ρ' => cases e; exact hP
    | ok bs ρ1 =>
      rw [bnd_ok] at e
      cases q2 : fzBs ρ1 bs with
      | none => rw [q2] at e; cases e
      | some p =>
        obtain ⟨ds, ρ2⟩ := p
        rw [q2] at e
        cases e
        intro F1 H1 vs s1 R1 v1
        obtain ⟨F2, s2, R2, r2⟩ := fz_many R1 v1 q2
        exact hP F2 H1 vs (s1.trans s2) R2 r2
def fISeq (f : Fn Bv) : Fn (List D) := fun n ρ => bnd (fFzs (fCons f fNil) n ρ) fun ds ρ1 => match ds with
  | [d] => match asSeq d with
    | some xs => some (.ok xs ρ1)
    | none => none
  | _ => none
theorem snd_iseq {t : TE} {f : Fn Bv} (h : SndB G W t f) : SndI G W (iSeq G.K t) (fISeq f) := fun n ρ r e F H σ T Q hR hP => by
  unfold fISeq at e
  cases q : fFzs (fCons f fNil) n ρ with
  | none => rw [q] at e; cases e
  | some r1 =>
    rw [q] at e
    refine snd_fzs (snd_cons h snd_nil) n ρ r1 q F H σ T (fun vs H1 => match vs with | [x] => ∃ a, x = .ref a ∧ ((∃ xs, SqL G.K H1 a xs ∧ Q (Itl G.K a) H1) ∨ (∃ xs, SqT G.K H1 a xs ∧ Q (Itt G.K a) H1)) | _ => False) hR ?_
    cases r1 with
    | ex x ρ' => cases e; exact hP
    | ok ds ρ1 =>
      rw [bnd_ok] at e
      intro F1 H1 vs s1 R1 v1
      cases v1 with
      | nil => cases e
      | cons hd r =>
        cases r with
        | cons _ _ => cases e
        | nil =>
          dsimp only at e
          cases hd with
          | lst h1 r1 =>
            cases e
            exact ⟨_, rfl, .inl ⟨_, R1.sub.seq h1, hP F1 H1 _ s1 R1 (itok_lst h1 r1)⟩⟩
          | tup h1 r1 =>
            cases e
            exact ⟨_, rfl, .inr ⟨_, sameT R1.sub h1, hP F1 H1 _ s1 R1 (itok_tup h1 r1)⟩⟩
          | _ => cases e
theorem xi_seq {f : Fn Bv} (hK : ∀ i, (X i).K = G.K) (h : XB G X W e f) : XI G X W tg e (fISeq f) := by
  obtain ⟨t, h1, h2⟩ := h
  exact ⟨_, fun i => by have := pi_seq (tg := tg) (h1 i); rw [hK i] at this; exact this, snd_iseq h2⟩
def fIEnum (f : Fn Bv) : Fn (List D) := fun n ρ => bnd (fISeq f n ρ) fun ds ρ1 => some (.ok (enumD 0 ds) ρ1)
theorem snd_ienum {t : TE} {f : Fn Bv} (h : SndB G W t f) : SndI G W (iEnumA G.K (tCons t tNil)) (fIEnum f) := fun n ρ r e F H σ T Q hR hP => by
  unfold fIEnum fISeq at e
  cases q : fFzs (fCons f fNil) n ρ with
  | none => rw [q] at e; cases e
  | some r1 =>
    rw [q] at e
    refine snd_fzs (snd_cons h snd_nil) n ρ r1 q F H σ T _ hR ?_
    cases r1 with
    | ex x ρ' => cases e; exact hP
    | ok ds ρ1 =>
      rw [bnd_ok] at e
      intro F1 H1 vs s1 R1 v1
      cases v1 with
      | nil => cases e
      | cons hd r =>
        cases r with
        | cons _ _ => cases e
        | nil =>
          dsimp only at e
          cases hd with
          | lst h1 r1 =>
            cases e
            exact ⟨_, rfl, .inl ⟨_, R1.sub.seq h1, hP F1 H1 _ s1 R1 (itok_enum h1 r1)⟩⟩
          | tup h1 r1 =>
            cases e
            exact ⟨_, rfl, .inr ⟨_, sameT R1.sub h1, hP F1 H1 _ s1 R1 (itok_enumT h1 r1)⟩⟩
          | _ => cases e
theorem xi_enum {f : Fn Bv} {p pos tpos : Pos} {elts : List Expr} {kk : Nat} (hK : ∀ i, (X i).K = G.K) (hg : ∀ i, Gl (X i) "enumerate") (hm : ∀ i, (X i).mg "enumerate" = none) (h : XB G X W e f) (hs : ∀ i, starEach [e] (X i).env = [(false, eval e (X i).env)]) :
    XI G X W (.Tuple elts kk tpos) (.Call (.Name "enumerate" p) [e] [] pos) (fIEnum f) := by
  obtain ⟨t, h1, h2⟩ := h
  exact ⟨_, fun i => by have := pi_enumA (elts := elts) (kk := kk) (tpos := tpos) (p := p) (pos := pos) (hg i) (hm i) (pa_cons (h1 i) pa_nil (hs i)) (hs i); rw [hK i] at this; exact this, snd_ienum h2⟩
def fIZip (f g : Fn Bv) : Fn (List D) := fun n ρ => bnd (fFzs (fCons f (fCons g fNil)) n ρ) fun ds ρ1 => match ds with
  | [.list xs, .list ys] => some (.ok (zipD xs ys) ρ1)
  | [.tuple xs, .tuple ys] => some (.ok (zipD xs ys) ρ1)
  | _ => none
theorem snd_izip {t u : TE} {f g : Fn Bv} (h : SndB G W t f) (h' : SndB G W u g) : SndI G W (RZ.iZipA G.K (tCons t (tCons u tNil))) (fIZip f g) := fun n ρ r e F H σ T Q hR hP => by
  unfold fIZip at e
  cases q : fFzs (fCons f (fCons g fNil)) n ρ with
  | none => rw [q] at e; cases e
  | some r1 =>
    rw [q] at e
    refine snd_fzs (snd_cons h (snd_cons h' snd_nil)) n ρ r1 q F H σ T _ hR ?_
    cases r1 with
    | ex x ρ' => cases e; exact hP
    | ok ds ρ1 =>
      rw [bnd_ok] at e
      intro F1 H1 vs s1 R1 v1
      split at e
      · cases e
        cases v1 with
        | cons a1 v1 =>
          cases v1 with
          | cons a2 v1 =>
            cases v1
            cases a1 with
            | lst h1 r1 =>
              cases a2 with
              | lst h2 r2 => exact ⟨_, _, _, _, rfl, .inl ⟨R1.sub.seq h1, R1.sub.seq h2, hP F1 H1 _ s1 R1 (itok_zip h1 r1 h2 r2)⟩⟩
      · cases e
        cases v1 with
        | cons a1 v1 =>
          cases v1 with
          | cons a2 v1 =>
            cases v1
            cases a1 with
            | tup h1 r1 =>
              cases a2 with
              | tup h2 r2 => exact ⟨_, _, _, _, rfl, .inr ⟨sameT R1.sub h1, sameT R1.sub h2, hP F1 H1 _ s1 R1 (itok_zipT h1 r1 h2 r2)⟩⟩
      · cases e
theorem xi_zip {e2 : Expr} {f g : Fn Bv} {p pos tpos : Pos} {elts : List Expr} {kk : Nat} (hK : ∀ i, (X i).K = G.K) (hg : ∀ i, Gl (X i) "zip") (hm : ∀ i, (X i).mg "zip" = none) (h : XB G X W e f) (h' : XB G X W e2 g)
    (hs : ∀ i, starEach [e, e2] (X i).env = (false, eval e (X i).env) :: starEach [e2] (X i).env) (hs2 : ∀ i, starEach [e2] (X i).env = (false, eval e2 (X i).env) :: starEach [] (X i).env) (hpl : ∀ i, (backTo pos (starEach [e2] (X i).env)).any (·.1) = false) :
    XI G X W (.Tuple elts kk tpos) (.Call (.Name "zip" p) [e, e2] [] pos) (fIZip f g) := by
  obtain ⟨t, h1, h2⟩ := h
  obtain ⟨t', h1', h2'⟩ := h'
  exact ⟨_, fun i => by have := RZ.pi_zipA (elts := elts) (kk := kk) (tpos := tpos) (p := p) (hg i) (hm i) (pa_cons (h1 i) (pa_cons (h1' i) pa_nil (hs2 i)) (hs i)) (hs i) (hpl i); rw [hK i] at this; exact this, snd_izip h2 h2'⟩
/-- range -/
def smI (i : Int) : Bool := Nat.ble i.natAbs 1000000000
def rngD (lo : Int) (n : Nat) : List D := (List.range n).map fun (i : Nat) => PyData.int (lo + (i : Int))
def rngCD (lo c : Int) (n : Nat) : List D := (List.range n).map fun (i : Nat) => PyData.int (lo + (i : Int) * c)
def fIR1 (f : Fn Bv) : Fn (List D) := fun n ρ => bnd (fFzs (fCons f fNil) n ρ) fun ds ρ1 => match ds with
  | [.int j] => if smI j = true then some (.ok (rngD 0 j.toNat) ρ1) else none
  | _ => none
def fIR2 (f g : Fn Bv) : Fn (List D) := fun n ρ => bnd (fFzs (fCons f (fCons g fNil)) n ρ) fun ds ρ1 => match ds with
  | [.int i, .int j] => if (smI i && smI j) = true then some (.ok (rngD i (j - i).toNat) ρ1) else none
  | _ => none
def fIR3 (f g h : Fn Bv) : Fn (List D) := fun n ρ => bnd (fFzs (fCons f (fCons g (fCons h fNil))) n ρ) fun ds ρ1 => match ds with
  | [.int i, .int j, .int c] => if (smI i && smI j && decide (c = -1)) = true then some (.ok (rngCD i (-1) (i - j).toNat) ρ1) else none
  | _ => none
theorem smI_ok {i : Int} (h : smI i = true) : -(2 ^ 62) ≤ i ∧ i < 2 ^ 62 := by
  have h : i.natAbs ≤ 1000000000 := Nat.le_of_ble_eq_true h
  omega
theorem xi_rng1 {p pos : Pos} {f : Fn Bv} (hg : ∀ i, Gl (X i) "range") (hm : ∀ i, (X i).mg "range" = none) (ha : XB G X W e f) (hs : ∀ i, starEach [e] (X i).env = [(false, eval e (X i).env)]) : XI G X W tg (.Call (.Name "range" p) [e] [] pos) (fIR1 f) := by
  obtain ⟨t, h1, h2⟩ := ha
  refine ⟨_, fun i => pi_range1 (hg i) (hm i) (pa_cons (h1 i) pa_nil (hs i)) (hs i), fun n ρ r e F H σ T Q hR hP => ?_⟩
  unfold fIR1 at e
  cases q : fFzs (fCons f fNil) n ρ with
  | none => rw [q] at e; cases e
  | some r1 =>
    rw [q] at e
    refine snd_fzs (snd_cons h2 snd_nil) n ρ r1 q F H σ T _ hR ?_
    cases r1 with
    | ex x ρ' => cases e; exact hP
    | ok ds ρ1 =>
      rw [bnd_ok] at e
      intro F1 H1 vs s1 R1 v1
      split at e
      · split at e
        · rename_i hj
          cases e
          obtain ⟨q1, q2⟩ := smI_ok hj
          cases v1 with
          | cons a1 v1 =>
            cases v1
            cases a1
            exact ⟨_, rfl, q1, q2, hP F1 H1 _ s1 R1 (itok_rng 0 _)⟩
        · cases e
      · cases e
theorem xi_rng2 {e2 : Expr} {p pos : Pos} {f g : Fn Bv} (hg : ∀ i, Gl (X i) "range") (hm : ∀ i, (X i).mg "range" = none) (ha : XB G X W e f) (hb : XB G X W e2 g) (hs : ∀ i, starEach [e, e2] (X i).env = [(false, eval e (X i).env), (false, eval e2 (X i).env)]) (hs2 : ∀ i, starEach [e2] (X i).env = [(false, eval e2 (X i).env)]) :
    XI G X W tg (.Call (.Name "range" p) [e, e2] [] pos) (fIR2 f g) := by
  obtain ⟨t, h1, h2⟩ := ha
  obtain ⟨t', h1', h2'⟩ := hb
  refine ⟨_, fun i => pi_range2 (hg i) (hm i) (pa_cons (h1 i) (pa_cons (h1' i) pa_nil (hs2 i)) (by rw [hs i, hs2 i])) (hs i) (hs2 i), fun n ρ r e F H σ T Q hR hP => ?_⟩
  unfold fIR2 at e
  cases q : fFzs (fCons f (fCons g fNil)) n ρ with
  | none => rw [q] at e; cases e
  | some r1 =>
    rw [q] at e
    refine snd_fzs (snd_cons h2 (snd_cons h2' snd_nil)) n ρ r1 q F H σ T _ hR ?_
    cases r1 with
    | ex x ρ' => cases e; exact hP
    | ok ds ρ1 =>
      rw [bnd_ok] at e
      intro F1 H1 vs s1 R1 v1
      split at e
      · split at e
        · rename_i hj
          cases e
          rw [Bool.and_eq_true] at hj
          obtain ⟨q1, q2⟩ := smI_ok hj.1
          obtain ⟨q3, q4⟩ := smI_ok hj.2
          cases v1 with
          | cons a1 v1 =>
            cases v1 with
            | cons a2 v1 =>
              cases v1
              cases a1
              cases a2
              exact ⟨_, _, rfl, ⟨q1, q2, q3, q4⟩, hP F1 H1 _ s1 R1 (itok_rng _ _)⟩
        · cases e
      · cases e
theorem xi_rng3 {e2 e3 : Expr} {p pos : Pos} {f g h : Fn Bv} (hg : ∀ i, Gl (X i) "range") (hm : ∀ i, (X i).mg "range" = none) (ha : XB G X W e f) (hb : XB G X W e2 g) (hc : XB G X W e3 h) (hs : ∀ i, starEach [e, e2, e3] (X i).env = [(false, eval e (X i).env), (false, eval e2 (X i).env), (false, eval e3 (X i).env)])
    (hs2 : ∀ i, starEach [e2, e3] (X i).env = [(false, eval e2 (X i).env), (false, eval e3 (X i).env)]) (hs3 : ∀ i, starEach [e3] (X i).env = [(false, eval e3 (X i).env)])
    (hx : ∀ i, ∀ ta : TA, PA (X i) [e, e2, e3] ta → PI (X i) tg (.Call (.Name "range" p) [e, e2, e3] [] pos) (iRng3 ta)) :
    XI G X W tg (.Call (.Name "range" p) [e, e2, e3] [] pos) (fIR3 f g h) := by
  obtain ⟨t, h1, h2⟩ := ha
  obtain ⟨t', h1', h2'⟩ := hb
  obtain ⟨t'', h1'', h2''⟩ := hc
  refine ⟨_, fun i => hx i _ (pa_cons (h1 i) (pa_cons (h1' i) (pa_cons (h1'' i) pa_nil (hs3 i)) (by rw [hs2 i, hs3 i])) (by rw [hs i, hs2 i])), fun n ρ r e F H σ T Q hR hP => ?_⟩
  unfold fIR3 at e
  cases q : fFzs (fCons f (fCons g (fCons h fNil))) n ρ with
  | none => rw [q] at e; cases e
  | some r1 =>
    rw [q] at e
    refine snd_fzs (snd_cons h2 (snd_cons h2' (snd_cons h2'' snd_nil))) n ρ r1 q F H σ T _ hR ?_
    cases r1 with
    | ex x ρ' => cases e; exact hP
    | ok ds ρ1 =>
      rw [bnd_ok] at e
      intro F1 H1 vs s1 R1 v1
      split at e
      · split at e
        · rename_i hj
          cases e
          rw [Bool.and_eq_true, Bool.and_eq_true] at hj
          obtain ⟨q1, q2⟩ := smI_ok hj.1.1
          obtain ⟨q3, q4⟩ := smI_ok hj.1.2
          have ec := of_decide_eq_true hj.2
          subst ec
          cases v1 with
          | cons a1 v1 =>
            cases v1 with
            | cons a2 v1 =>
              cases v1 with
              | cons a3 v1 =>
                cases v1
                cases a1
                cases a2
                cases a3
                exact ⟨_, _, _, _, rfl, RgC.neg q1 q2 q3 q4, hP F1 H1 _ s1 R1 (itok_rngC _ _ _)⟩
        · cases e
      · cases e
end
end L3

namespace L3
open PySem PySem.Spec L2

inductive Ot where
  | nx (ρ : En)
  | rt (c : Cl) (ρ : En)
  | bk (ρ : En)
  | ct (ρ : En)
  | ex (x : Ex) (ρ : En)
abbrev FS := Nat → En → Option Ot
def bS {α : Type} (x : Option (Rz α)) (k : α → En → Option Ot) : Option Ot :=
  match x with
  | some (.ok a ρ) => k a ρ
  | some (.ex x ρ) => some (.ex x ρ)
  | none => none
@[simp] theorem bS_ok {α : Type} (a : α) (ρ : En) (k : α → En → Option Ot) : bS (some (.ok a ρ)) k = k a ρ := rfl
@[simp] theorem bS_ex {α : Type} (x : Ex) (ρ : En) (k : α → En → Option Ot) : bS (some (.ex x ρ)) k = some (.ex x ρ) := rfl
@[simp] theorem bS_none {α : Type} (k : α → En → Option Ot) : bS none k = none := rfl

def Kp (P : List Nat) (σ σ' : L2.St) : Prop := ∀ i ∈ P, σ'[i]? = σ[i]?
theorem Kp.refl {P : List Nat} (σ : L2.St) : Kp P σ σ := fun _ _ => rfl
theorem Kp.trans {P : List Nat} {a b c : L2.St} (h : Kp P a b) (k : Kp P b c) : Kp P a c := fun i hi => (k i hi).trans (h i hi)
theorem Kp.set {P : List Nat} {σ : L2.St} {i : Nat} {o : Option V} (h : i ∉ P) : Kp P σ (σ.set i o) := fun j hj => by
  rw [List.getElem?_set_ne]
  intro z
  subst z
  exact h hj

def PoS (G : Gd) (W : WX) (P : List Nat) (F : Hp) (σ : L2.St) (T : List (Cl × V)) (D : Ends) : Ot → Prop
  | .nx ρ => ∀ F' H' σ', Same F F' → G.R F' H' ρ σ' T → Kp P σ σ' → D.nx σ' H'
  | .rt c ρ => ∀ F' H' σ' v, Same F F' → G.R F' H' ρ σ' ((c, v) :: T) → Kp P σ σ' → D.rt v H'
  | .bk ρ => ∀ F' H' σ', Same F F' → G.R F' H' ρ σ' T → Kp P σ σ' → D.bk σ' H'
  | .ct ρ => ∀ F' H' σ', Same F F' → G.R F' H' ρ σ' T → Kp P σ σ' → D.ct σ' H'
  | .ex x ρ => ∀ F' H' σ' cls d, Same F F' → G.R F' H' ρ σ' T → Kp P σ σ' → XR G F' x cls d → W cls d σ' H'
def SndS (G : Gd) (W : WX) (P : List Nat) (t : TS) (f : FS) : Prop :=
  ∀ n ρ o, f n ρ = some o → ∀ F H σ T D, G.R F H ρ σ T → PoS G W P F σ T D o → t D σ H
section
variable {ι : Type}
def XS (G : Gd) (X : ι → Cx) (W : WX) (P : List Nat) (st : Stmt) (f : FS) : Prop := ∃ t : TS, (∀ i, PS (X i) st t) ∧ SndS G W P t f
def XSs (G : Gd) (X : ι → Cx) (W : WX) (P : List Nat) (st : List Stmt) (f : FS) : Prop := ∃ t : TS, (∀ i, PSs (X i) st t) ∧ SndS G W P t f
end
theorem PoS.mono {G : Gd} {W : WX} {P : List Nat} {F F1 : Hp} {σ σ1 : L2.St} {T : List (Cl × V)} {D : Ends} {o : Ot} (h : PoS G W P F σ T D o) (s : Same F F1) (k : Kp P σ σ1) : PoS G W P F1 σ1 T D o := by
  cases o with
  | nx ρ => exact fun F' H' σ' s' r k' => h F' H' σ' (s.trans s') r (k.trans k')
  | rt c ρ => exact fun F' H' σ' v s' r k' => h F' H' σ' v (s.trans s') r (k.trans k')
  | bk ρ => exact fun F' H' σ' s' r k' => h F' H' σ' (s.trans s') r (k.trans k')
  | ct ρ => exact fun F' H' σ' s' r k' => h F' H' σ' (s.trans s') r (k.trans k')
  | ex x ρ => exact fun F' H' σ' cls d s' r k' q => h F' H' σ' cls d (s.trans s') r (k.trans k') q
theorem PoS.px {G : Gd} {W : WX} {P : List Nat} {F : Hp} {σ : L2.St} {T : List (Cl × V)} {D : Ends} {x : Ex} {ρ : En} (h : PoS G W P F σ T D (.ex x ρ)) : PoX G W F σ T x ρ :=
  fun F' H' cls d s r q => h F' H' σ cls d s r (Kp.refl _) q

section
variable {ι : Type} {G : Gd} {X : ι → Cx} {W : WX} {P : List Nat} {e : Expr} {st : Stmt} {rest : List Stmt} {pos : Pos}
def sNil : FS := fun _ ρ => some (.nx ρ)
def sSeq (f g : FS) : FS := fun n ρ => match f n ρ with
  | some (.nx ρ1) => g n ρ1
  | o => o
theorem xss_nil : XSs G X W P [] sNil := ⟨_, fun _ => pss_nil, fun n ρ o e F H σ T D hR hP => by
  cases e
  exact hP F H σ (Same.refl _) hR (Kp.refl _)⟩
theorem xss_cons {f g : FS} (h1 : XS G X W P st f) (h2 : XSs G X W P rest g) : XSs G X W P (st :: rest) (sSeq f g) := by
  obtain ⟨t, a1, a2⟩ := h1
  obtain ⟨u, b1, b2⟩ := h2
  refine ⟨_, fun i => pss_cons (a1 i) (b1 i), fun n ρ o e F H σ T D hR hP => ?_⟩
  unfold sSeq at e
  cases q : f n ρ with
  | none => rw [q] at e; cases e
  | some o1 =>
    rw [q] at e
    refine a2 n ρ o1 q F H σ T _ hR ?_
    cases o1 with
    | nx ρ1 => exact fun F1 H1 σ1 s1 R1 k1 => b2 n ρ1 o e F1 H1 σ1 T D R1 (hP.mono s1 k1)
    | rt c ρ1 => cases e; exact hP
    | bk ρ1 => cases e; exact hP
    | ct ρ1 => cases e; exact hP
    | ex x ρ1 => cases e; exact hP
theorem xss_one {f : FS} (h1 : XS G X W P st f) : XSs G X W P [st] f := by
  obtain ⟨t, a1, a2⟩ := h1
  exact ⟨_, fun i => pss_one (a1 i), a2⟩
def sPass : FS := sNil
theorem xs_pass : XS G X W P (.Pass pos) sNil := ⟨_, fun _ => ps_pass, fun n ρ o e F H σ T D hR hP => by
  cases e
  exact hP F H σ (Same.refl _) hR (Kp.refl _)⟩
theorem xs_break : XS G X W P (.Break pos) (fun _ ρ => some (.bk ρ)) := ⟨_, fun _ => ps_break, fun n ρ o e F H σ T D hR hP => by
  cases e
  exact hP F H σ (Same.refl _) hR (Kp.refl _)⟩
theorem xs_continue : XS G X W P (.Continue pos) (fun _ ρ => some (.ct ρ)) := ⟨_, fun _ => ps_continue, fun n ρ o e F H σ T D hR hP => by
  cases e
  exact hP F H σ (Same.refl _) hR (Kp.refl _)⟩
def sExpr (f : Fn Bv) : FS := fun n ρ => bS (f n ρ) fun _ ρ1 => some (.nx ρ1)
theorem xs_expr {f : Fn Bv} (h : XB G X W e f) (hs : ∀ i, swapsWith e none pos.line (X i).env = pure false) : XS G X W P (.Expr e pos) (sExpr f) := by
  obtain ⟨t, h1, h2⟩ := h
  refine ⟨_, fun i => ps_expr (h1 i) (hs i), fun n ρ o e F H σ T D hR hP => ?_⟩
  unfold sExpr at e
  cases q : f n ρ with
  | none => rw [q] at e; cases e
  | some r1 =>
    rw [q] at e
    refine h2 n ρ r1 q F H σ T _ hR ?_
    cases r1 with
    | ex x ρ' => cases e; exact hP.px
    | ok b ρ1 =>
      cases e
      exact fun F1 H1 v s1 R1 v1 => hP F1 H1 σ s1 (bvT_drop b v R1) (Kp.refl _)
def sRet (f : Fn Cl) : FS := fun n ρ => bS (f n ρ) fun c ρ1 => some (.rt c ρ1)
theorem xs_ret {f : Fn Cl} (h : XE G X W e f) : XS G X W P (.Return (some e) pos) (sRet f) := by
  obtain ⟨t, h1, h2⟩ := h
  refine ⟨_, fun i => ps_ret (h1 i), fun n ρ o e F H σ T D hR hP => ?_⟩
  unfold sRet at e
  cases q : f n ρ with
  | none => rw [q] at e; cases e
  | some r1 =>
    rw [q] at e
    refine h2 n ρ r1 q F H σ T _ hR ?_
    cases r1 with
    | ex x ρ' => cases e; exact hP.px
    | ok b ρ1 =>
      cases e
      exact fun F1 H1 v s1 R1 => hP F1 H1 σ v s1 R1 (Kp.refl _)
theorem xs_retN : XS G X W P (.Return none pos) (fun _ ρ => some (.rt (.fz .none) ρ)) := ⟨_, fun _ => ps_retN, fun n ρ o e F H σ T D hR hP => by
  cases e
  exact hP F H σ .non (Same.refl _) (hR.push .non) (Kp.refl _)⟩
def sIf (t : Fn Bool) (f g : FS) : FS := fun n ρ => bS (t n ρ) fun c ρ1 => if c = true then f n ρ1 else g n ρ1
theorem xs_if {c : Expr} {a b : List Stmt} {t : Fn Bool} {f g : FS} (hc : XT G X W c t) (ha : XSs G X W P a f) (hb : XSs G X W P b g) : XS G X W P (.If c a b pos) (sIf t f g) := by
  obtain ⟨t', h1, h2⟩ := hc
  obtain ⟨ta, h3, h4⟩ := ha
  obtain ⟨tb, h5, h6⟩ := hb
  refine ⟨_, fun i => ps_if (h1 i) (h3 i) (h5 i), fun n ρ o e F H σ T D hR hP => ?_⟩
  unfold sIf at e
  cases q : t n ρ with
  | none => rw [q] at e; cases e
  | some r1 =>
    rw [q] at e
    refine h2 n ρ r1 q F H σ T _ hR ?_
    cases r1 with
    | ex x ρ' => cases e; exact hP.px
    | ok b ρ1 =>
      rw [bS_ok] at e
      intro F1 H1 s1 R1
      cases b with
      | true =>
        rw [if_pos rfl] at e
        show if true = true then _ else _
        rw [if_pos rfl]
        exact h4 n ρ1 o e F1 H1 σ T D R1 (hP.mono s1 (Kp.refl _))
      | false =>
        rw [if_neg Bool.false_ne_true] at e
        show if false = true then _ else _
        rw [if_neg Bool.false_ne_true]
        exact h6 n ρ1 o e F1 H1 σ T D R1 (hP.mono s1 (Kp.refl _))

/-! ### stores -/
def sSet (i : Nat) (f : Fn Cl) : FS := fun n ρ => bS (f n ρ) fun c ρ1 => if i < ρ1.length then some (.nx (ρ1.set i (some c))) else none
theorem snd_set {i : Nat} {t : TE} {f : Fn Cl} (hi : i ∉ P) (h : SndE G W t f) : SndS G W P (tAsg t (gName i)) (sSet i f) := fun n ρ o e F H σ T D hR hP => by
  unfold sSet at e
  cases q : f n ρ with
  | none => rw [q] at e; cases e
  | some r1 =>
    rw [q] at e
    refine h n ρ r1 q F H σ T _ hR ?_
    cases r1 with
    | ex x ρ' => cases e; exact hP.px
    | ok b ρ1 =>
      rw [bS_ok] at e
      split at e
      · rename_i hl
        cases e
        exact fun F1 H1 v s1 R1 => hP F1 H1 _ s1 (R1.set hl) (Kp.set hi)
      · cases e
theorem xs_set {i : Nat} {x : Str} {pos' : Pos} {f : Fn Cl} (hi : i ∉ P) (hp : ∀ t, (∀ j, PE (X j) e t) → ∀ j, PS (X j) (.Assign [.Name x pos'] e pos) (tAsg t (gName i))) (h : XE G X W e f) : XS G X W P (.Assign [.Name x pos'] e pos) (sSet i f) := by
  obtain ⟨t, h1, h2⟩ := h
  exact ⟨_, hp t h1, snd_set hi h2⟩
/-- a, b = e1, e2 into plain local names -/
def sPar (i j : Nat) (f g : Fn Cl) : FS := fun n ρ => bS (f n ρ) fun c ρ1 => bS (g n ρ1) fun d ρ2 => if i < ρ2.length ∧ j < ρ2.length then some (.nx ((ρ2.set i (some c)).set j (some d))) else none
theorem xs_par {i j : Nat} {a b : Expr} {f g : Fn Cl} {st : Stmt} (hi : i ∉ P) (hj : j ∉ P) (hp : ∀ t u, (∀ j, PE (X j) a t) → (∀ j, PE (X j) b u) → ∀ k, PS (X k) st (tPar i j (tCons t (tCons u tNil)))) (h : XE G X W a f) (h' : XE G X W b g) : XS G X W P st (sPar i j f g) := by
  obtain ⟨t, h1, h2⟩ := h
  obtain ⟨u, h3, h4⟩ := h'
  refine ⟨_, hp t u h1 h3, fun n ρ o e F H σ T D hR hP => ?_⟩
  unfold sPar at e
  cases q : f n ρ with
  | none => rw [q] at e; cases e
  | some r1 =>
    rw [q] at e
    refine h2 n ρ r1 q F H σ T _ hR ?_
    cases r1 with
    | ex x ρ' => cases e; exact hP.px
    | ok c ρ1 =>
      rw [bS_ok] at e
      intro F1 H1 v s1 R1
      cases q2 : g n ρ1 with
      | none => rw [q2] at e; cases e
      | some r2 =>
        rw [q2] at e
        refine h4 n ρ1 r2 q2 F1 H1 σ _ _ R1 ?_
        cases r2 with
        | ex x ρ' =>
          cases e
          exact fun F' H' cls d s r q => hP.px F' H' cls d (s1.trans s) r.tail q
        | ok d ρ2 =>
          rw [bS_ok] at e
          intro F2 H2 w s2 R2
          split at e
          · rename_i hl
            cases e
            refine ⟨v, w, rfl, hP F2 H2 _ (s1.trans s2) ?_ ((Kp.set hi).trans (Kp.set hj))⟩
            have R3 := R2.swap.set (i := i) hl.1
            exact R3.set (by rw [List.length_set]; exact hl.2)
          · cases e

/-! ### targets -/
abbrev FG := D → En → Option En
abbrev FGs := List D → En → Option En
def SndG (G : Gd) (P : List Nat) (t : TG) (f : FG) : Prop :=
  ∀ d ρ ρ', f d ρ = some ρ' → ∀ F H σ T v Q, G.R F H ρ σ T → Rp G.K F v d → (∀ σ', G.R F H ρ' σ' T → Kp P σ σ' → Q σ' H) → t v σ H Q
def SndGs (G : Gd) (P : List Nat) (t : TGs) (f : FGs) : Prop :=
  ∀ ds ρ ρ', f ds ρ = some ρ' → ∀ F H σ T vs Q, G.R F H ρ σ T → RpA G.K F vs ds → (∀ σ', G.R F H ρ' σ' T → Kp P σ σ' → Q σ' H) → t vs σ H Q
def XG (G : Gd) (X : ι → Cx) (P : List Nat) (tg : Expr) (f : FG) : Prop := ∃ t : TG, (∀ i, PG (X i) tg t) ∧ SndG G P t f
def XGs (G : Gd) (X : ι → Cx) (P : List Nat) (tg : List Expr) (f : FGs) : Prop := ∃ t : TGs, (∀ i, PGs (X i) tg t) ∧ SndGs G P t f
def gN (i : Nat) : FG := fun d ρ => if i < ρ.length then some (ρ.set i (some (.fz d))) else none
theorem snd_gn {i : Nat} (hi : i ∉ P) : SndG G P (gName i) (gN i) := fun d ρ ρ' e F H σ T v Q hR r hQ => by
  unfold gN at e
  split at e
  · rename_i hl
    cases e
    exact hQ _ ((hR.push r).set hl) (Kp.set hi)
  · cases e
theorem xg_name {i : Nat} {x : Str} (hi : i ∉ P) (h : ∀ j, PG (X j) (.Name x pos) (gName i)) : XG G X P (.Name x pos) (gN i) := ⟨_, h, snd_gn hi⟩
def gsNil : FGs := fun ds ρ => match ds with
  | [] => some ρ
  | _ => none
def gsCons (f : FG) (g : FGs) : FGs := fun ds ρ => match ds with
  | d :: ds => match f d ρ with
    | some ρ1 => g ds ρ1
    | none => none
  | [] => none
theorem snd_gsnil : SndGs G P gNil gsNil := fun ds ρ ρ' e F H σ T vs Q hR r hQ => by
  cases r with
  | nil => cases e; exact ⟨rfl, hQ σ hR (Kp.refl _)⟩
  | cons _ _ => cases e
theorem snd_gscons {t : TG} {u : TGs} {f : FG} {g : FGs} (h : SndG G P t f) (h' : SndGs G P u g) : SndGs G P (gCons t u) (gsCons f g) := fun ds ρ ρ' e F H σ T vs Q hR r hQ => by
  cases r with
  | nil => cases e
  | cons r1 r2 =>
    unfold gsCons at e
    dsimp only at e
    rename_i v vs' d ds'
    cases q : f d ρ with
    | none => rw [q] at e; cases e
    | some ρ1 =>
      rw [q] at e
      refine ⟨v, vs', rfl, h d ρ ρ1 q F H σ T v _ hR r1 fun σ1 R1 k1 => ?_⟩
      exact h' ds' ρ1 ρ' e F H σ1 T vs' Q R1 r2 fun σ2 R2 k2 => hQ σ2 R2 (k1.trans k2)
theorem xgs_nil : XGs G X P [] gsNil := ⟨_, fun _ => pgs_nil, snd_gsnil⟩
theorem xgs_cons {e : Expr} {es : List Expr} {f : FG} {g : FGs} (h : XG G X P e f) (h' : XGs G X P es g) (hs : ∀ i, (assignEach (e :: es) (X i).env).map (·.2) = assign e (X i).env :: (assignEach es (X i).env).map (·.2)) : XGs G X P (e :: es) (gsCons f g) := by
  obtain ⟨t, h1, h2⟩ := h
  obtain ⟨u, h3, h4⟩ := h'
  exact ⟨_, fun i => pgs_cons (h1 i) (h3 i) (hs i), snd_gscons h2 h4⟩
/-- (a, b, ..): the value a tuple -/
def gTp (n : Nat) (f : FGs) : FG := fun d ρ => match d with
  | .tuple ds => if ds.length = n then f ds ρ else none
  | _ => none
def gLs (n : Nat) (f : FGs) : FG := fun d ρ => match d with
  | .list ds => if ds.length = n then f ds ρ else none
  | _ => none
theorem snd_gtp {n : Nat} {t : TGs} {f : FGs} (h : SndGs G P t f) : SndG G P (gTup G.K n t) (gTp n f) := fun d ρ ρ' e F H σ T v Q hR r hQ => by
  unfold gTp at e
  split at e
  · split at e
    · rename_i hl
      cases r with
      | tup h1 r1 => exact ⟨_, _, rfl, sameT hR.sub h1, by rw [r1.length]; exact hl, h _ ρ ρ' e F H σ T _ Q hR r1 hQ⟩
    · cases e
  · cases e
theorem snd_gls {n : Nat} {t : TGs} {f : FGs} (h : SndGs G P t f) : SndG G P (gLst G.K n t) (gLs n f) := fun d ρ ρ' e F H σ T v Q hR r hQ => by
  unfold gLs at e
  split at e
  · split at e
    · rename_i hl
      cases r with
      | lst h1 r1 => exact ⟨_, _, rfl, hR.sub.seq h1, by rw [r1.length]; exact hl, h _ ρ ρ' e F H σ T _ Q hR r1 hQ⟩
    · cases e
  · cases e
theorem xg_tup {es : List Expr} {k n : Nat} {f : FGs} (hK : ∀ i, (X i).K = G.K) (hc : ∀ i, (X i).calm = true) (h : XGs G X P es f) (hn : ∀ i, (assignEach es (X i).env).length = n) (hst : ∀ i, (assignEach es (X i).env).findIdx? (·.1) = none) : XG G X P (.Tuple es k pos) (gTp n f) := by
  obtain ⟨t, h1, h2⟩ := h
  exact ⟨_, fun i => by have := pg_tup (k := k) (pos := pos) (hc i) (h1 i) (hn i) (hst i); rw [hK i] at this; exact this, snd_gtp h2⟩
theorem xg_lst {es : List Expr} {k n : Nat} {f : FGs} (hK : ∀ i, (X i).K = G.K) (hc : ∀ i, (X i).calm = true) (h : XGs G X P es f) (hn : ∀ i, (assignEach es (X i).env).length = n) (hst : ∀ i, (assignEach es (X i).env).findIdx? (·.1) = none) : XG G X P (.Tuple es k pos) (gLs n f) := by
  obtain ⟨t, h1, h2⟩ := h
  exact ⟨_, fun i => by have := pg_lst (k := k) (pos := pos) (hc i) (h1 i) (hn i) (hst i); rw [hK i] at this; exact this, snd_gls h2⟩
/-- target = value, by targets -/
def sAsg (g : FG) (f : Fn Bv) : FS := fun n ρ => bS (fFz f n ρ) fun c ρ1 => match c with
  | .fz d => match g d ρ1 with
    | some ρ2 => some (.nx ρ2)
    | none => none
  | _ => none
theorem xs_asg {tg : Expr} {f : Fn Bv} {g : FG} (h : XB G X W e f) (hg : XG G X P tg g) (hs : ∀ i, swapsWithSole [tg] e pos.line (X i).env = pure false) (hw : ∀ i, swappedStores [tg] e (X i).env = pure none)
    (h1 : ∀ i, (assignEach [tg] (X i).env).map (·.2) = [assign tg (X i).env]) : XS G X W P (.Assign [tg] e pos) (sAsg g f) := by
  obtain ⟨t, a1, a2⟩ := h
  obtain ⟨u, b1, b2⟩ := hg
  refine ⟨_, fun i => ps_asg (a1 i) (b1 i) (hs i) (hw i) (h1 i), fun n ρ o e F H σ T D hR hP => ?_⟩
  unfold sAsg at e
  cases q : fFz f n ρ with
  | none => rw [q] at e; cases e
  | some r1 =>
    rw [q] at e
    refine snd_fz a2 n ρ r1 q F H σ T _ hR ?_
    cases r1 with
    | ex x ρ' => cases e; exact hP.px
    | ok c ρ1 =>
      rw [bS_ok] at e
      intro F1 H1 v s1 R1
      split at e
      · rename_i d
        cases q2 : g d ρ1 with
        | none => rw [q2] at e; cases e
        | some ρ2 =>
          rw [q2] at e
          cases e
          exact b2 d ρ1 ρ2 q2 F1 H1 σ T v _ R1.tail R1.rp fun σ' R2 k => hP F1 H1 σ' s1 R2 k
      · cases e

/-! ### for -/
def forF (g : FG) (f : FS) (n : Nat) : List D → En → Option Ot
  | [], ρ => some (.nx ρ)
  | d :: ds, ρ => match g d ρ with
    | some ρ1 => match f n ρ1 with
      | some (.nx ρ2) => forF g f n ds ρ2
      | some (.ct ρ2) => forF g f n ds ρ2
      | some (.bk ρ2) => some (.nx ρ2)
      | some (.rt c ρ2) => some (.rt c ρ2)
      | some (.ex x ρ2) => some (.ex x ρ2)
      | none => none
    | none => none
def sFor (i : Fn (List D)) (g : FG) (f : FS) : FS := fun n ρ => bS (i n ρ) fun ds ρ1 => forF g f n ds ρ1
theorem snd_for {wi : TI} {tg : TG} {tb : TS} {i : Fn (List D)} {g : FG} {f : FS} (hi : SndI G W wi i) (hg : SndG G P tg g) (hb : SndS G W P tb f) : SndS G W P (tFor wi tg tb) (sFor i g f) := fun n ρ o e F H σ T D hR hP => by
  unfold sFor at e
  cases q : i n ρ with
  | none => rw [q] at e; cases e
  | some r1 =>
    rw [q] at e
    refine hi n ρ r1 q F H σ T _ hR ?_
    cases r1 with
    | ex x ρ' => cases e; exact hP.px
    | ok ds ρ1 =>
      rw [bS_ok] at e
      intro F1 H1 J s1 R1 ok
      have hP1 := hP.mono s1 (Kp.refl σ)
      refine ⟨fun k m σ' H' => ∃ ρ' F', m = ds.length - k ∧ k ≤ ds.length ∧ Same F1 F' ∧ G.R F' H' ρ' σ' T ∧ Kp P σ σ' ∧ forF g f n (ds.drop k) ρ' = some o, ⟨ds.length, ρ1, F1, by simp, Nat.zero_le _, Same.refl _, R1, Kp.refl _, by rw [List.drop_zero]; exact e⟩, ?_⟩
      rintro k m σ' H' ⟨ρ', F', rfl, hk, s', R', kp, eo⟩
      by_cases hlt : k < ds.length
      · rw [List.drop_eq_getElem_cons hlt] at eo
        unfold forF at eo
        cases q1 : g ds[k] ρ' with
        | none => rw [q1] at eo; cases eo
        | some ρ2 =>
          rw [q1] at eo
          dsimp only at eo
          refine .inr ⟨ok.go F' H' _ k s' R'.hr hlt, fun σ3 H3 => ∃ ρ3 F3, Same F1 F3 ∧ G.R F3 H3 ρ3 σ3 T ∧ Kp P σ σ3 ∧ forF g f n (ds.drop (k + 1)) ρ3 = some o, ?_, ?_⟩
          · rintro σ3 H3 ⟨ρ3, F3, s3, R3, k3, e3⟩
            exact ⟨ds.length - (k + 1), by omega, ρ3, F3, rfl, hlt, s3, R3, k3, e3⟩
          · intro x H2 hy
            obtain ⟨F2, s2, hr2, rx⟩ := ok.yld F' H' _ k x H2 ds[k] s' R'.hr (List.getElem?_eq_getElem hlt) hy
            refine hg ds[k] ρ' ρ2 q1 F2 H2 σ' T x _ ⟨hr2, R'.ok⟩ rx fun σ4 R4 k4 => ?_
            cases q2 : f n ρ2 with
            | none => rw [q2] at eo; cases eo
            | some o2 =>
              rw [q2] at eo
              refine hb n ρ2 o2 q2 F2 H2 σ4 T _ R4 ?_
              have s02 := s'.trans s2
              have k04 := kp.trans k4
              cases o2 with
              | nx ρ5 => exact fun F5 H5 σ5 s5 R5 k5 => ⟨ρ5, F5, s02.trans s5, R5, k04.trans k5, eo⟩
              | ct ρ5 => exact fun F5 H5 σ5 s5 R5 k5 => ⟨ρ5, F5, s02.trans s5, R5, k04.trans k5, eo⟩
              | bk ρ5 =>
                cases eo
                exact fun F5 H5 σ5 s5 R5 k5 => hP1 F5 H5 σ5 (s02.trans s5) R5 (k04.trans k5)
              | rt c ρ5 =>
                cases eo
                exact fun F5 H5 σ5 v s5 R5 k5 => hP1 F5 H5 σ5 v (s02.trans s5) R5 (k04.trans k5)
              | ex x ρ5 =>
                cases eo
                exact fun F5 H5 σ5 cls d s5 R5 k5 xr => hP1 F5 H5 σ5 cls d (s02.trans s5) R5 (k04.trans k5) xr
      · have ek : k = ds.length := by omega
        subst ek
        rw [List.drop_length] at eo
        cases eo
        exact .inl ⟨ok.stop F' H' _ _ s' R'.hr (Nat.le_refl _), hP1 F' H' σ' s' R' kp⟩
theorem xs_for {tg iter : Expr} {body : List Stmt} {i : Fn (List D)} {g : FG} {f : FS} (hp : ∀ j, PassesOwn (model (X j).prog (X j).w) (X j).A (X j).env (X j).xe) (hc : ∀ j, (X j).calm = true) (hi : XI G X W tg iter i) (hg : XG G X P tg g) (hb : XSs G X W P body f)
    (hs : ∀ j, ∀ x, foldedSetIterable iter (X j).env x = pure x) : XS G X W P (.For tg iter body [] pos) (sFor i g f) := by
  obtain ⟨wi, a1, a2⟩ := hi
  obtain ⟨tg', b1, b2⟩ := hg
  obtain ⟨tb, c1, c2⟩ := hb
  exact ⟨_, fun j => ps_for (hp j) (hc j) (a1 j) (b1 j) (c1 j) (hs j), snd_for a2 b2 c2⟩

/-! ### while -/
def whF (t : Fn Bool) (f : FS) (n : Nat) : Nat → En → Option Ot
  | 0, _ => none
  | m + 1, ρ => bS (t n ρ) fun c ρ1 => if c = true then (match f n ρ1 with
      | some (.nx ρ2) => whF t f n m ρ2
      | some (.ct ρ2) => whF t f n m ρ2
      | some (.bk ρ2) => some (.nx ρ2)
      | some (.rt c ρ2) => some (.rt c ρ2)
      | some (.ex x ρ2) => some (.ex x ρ2)
      | none => none) else some (.nx ρ1)
def sWh (t : Fn Bool) (f : FS) : FS := fun n ρ => whF t f n n ρ
theorem snd_wh {tc : TT} {tb : TS} {t : Fn Bool} {f : FS} (hc : SndT G W tc t) (hb : SndS G W P tb f) : SndS G W P (tWhile tc tb) (sWh t f) := fun n ρ o e F H σ T D hR hP => by
  refine ⟨fun m σ' H' => ∃ ρ' F', Same F F' ∧ G.R F' H' ρ' σ' T ∧ Kp P σ σ' ∧ whF t f n m ρ' = some o, ⟨n, ρ, F, Same.refl _, hR, Kp.refl _, e⟩, ?_⟩
  rintro m σ' H' ⟨ρ', F', s', R', kp, eo⟩
  cases m with
  | zero => cases eo
  | succ m =>
    unfold whF at eo
    cases q : t n ρ' with
    | none => rw [q] at eo; cases eo
    | some r1 =>
      rw [q] at eo
      refine hc n ρ' r1 q F' H' σ' T _ R' ?_
      cases r1 with
      | ex x ρ1 => cases eo; exact fun F1 H1 cls d s1 R1 xr => hP F1 H1 σ' cls d (s'.trans s1) R1 kp xr
      | ok c ρ1 =>
        rw [bS_ok] at eo
        intro F1 H1 s1 R1
        cases c with
        | false =>
          rw [if_neg Bool.false_ne_true] at eo
          rw [if_neg Bool.false_ne_true]
          cases eo
          exact hP F1 H1 σ' (s'.trans s1) R1 kp
        | true =>
          rw [if_pos rfl] at eo
          rw [if_pos rfl]
          refine ⟨fun σ3 H3 => ∃ ρ3 F3, Same F F3 ∧ G.R F3 H3 ρ3 σ3 T ∧ Kp P σ σ3 ∧ whF t f n m ρ3 = some o, fun σ3 H3 ⟨ρ3, F3, s3, R3, k3, e3⟩ => ⟨m, Nat.lt_succ_self _, ρ3, F3, s3, R3, k3, e3⟩, ?_⟩
          cases q2 : f n ρ1 with
          | none => rw [q2] at eo; cases eo
          | some o2 =>
            rw [q2] at eo
            refine hb n ρ1 o2 q2 F1 H1 σ' T _ R1 ?_
            have s01 := s'.trans s1
            cases o2 with
            | nx ρ5 => exact fun F5 H5 σ5 s5 R5 k5 => ⟨ρ5, F5, s01.trans s5, R5, kp.trans k5, eo⟩
            | ct ρ5 => exact fun F5 H5 σ5 s5 R5 k5 => ⟨ρ5, F5, s01.trans s5, R5, kp.trans k5, eo⟩
            | bk ρ5 =>
              cases eo
              exact fun F5 H5 σ5 s5 R5 k5 => hP F5 H5 σ5 (s01.trans s5) R5 (kp.trans k5)
            | rt c ρ5 =>
              cases eo
              exact fun F5 H5 σ5 v s5 R5 k5 => hP F5 H5 σ5 v (s01.trans s5) R5 (kp.trans k5)
            | ex x ρ5 =>
              cases eo
              exact fun F5 H5 σ5 cls d s5 R5 k5 xr => hP F5 H5 σ5 cls d (s01.trans s5) R5 (kp.trans k5) xr
theorem xs_wh {c : Expr} {body : List Stmt} {t : Fn Bool} {f : FS} (hp : ∀ j, PassesOwn (model (X j).prog (X j).w) (X j).A (X j).env (X j).xe) (hc : XT G X W c t) (hb : XSs G X W P body f) : XS G X W P (.While c body [] pos) (sWh t f) := by
  obtain ⟨tc, a1, a2⟩ := hc
  obtain ⟨tb, b1, b2⟩ := hb
  exact ⟨_, fun j => ps_while (hp j) (a1 j) (b1 j), snd_wh a2 b2⟩
end
end L3

namespace L3
open PySem PySem.Spec L2

/-! ### list comprehensions -/
theorem en_agree : ∀ {ρ : En} {σ σ' : L2.St}, EnOk ρ σ → σ'.length = σ.length → (∀ (i : Nat) (c : Cl), ρ[i]? = some (some c) → σ'[i]? = σ[i]?) → eL ρ σ' = eL ρ σ ∧ EnOk ρ σ'
  | [], [], [], _, _, _ => ⟨rfl, trivial⟩
  | [], [], _ :: _, _, hl, _ => by cases hl
  | some c :: ρ, some v :: σ, [], _, hl, _ => by cases hl
  | some c :: ρ, some v :: σ, o :: σ', h, hl, ha => by
    have h0 := ha 0 c rfl
    have e0 : o = some v := by simpa using h0
    subst e0
    obtain ⟨e1, e2⟩ := en_agree (ρ := ρ) (σ := σ) (σ' := σ') h (by simpa using hl) fun i c hc => by
      have := ha (i + 1) c (by rw [List.getElem?_cons_succ]; exact hc)
      simpa using this
    exact ⟨congrArg (fun z => (c, v) :: z) e1, e2⟩
  | none :: ρ, x :: σ, [], _, hl, _ => by cases hl
  | none :: ρ, x :: σ, o :: σ', h, hl, ha => by
    obtain ⟨e1, e2⟩ := en_agree (ρ := ρ) (σ := σ) (σ' := σ') h (by simpa using hl) fun i c hc => by
      have := ha (i + 1) c (by rw [List.getElem?_cons_succ]; exact hc)
      simpa using this
    exact ⟨e1, e2⟩
  | some _ :: _, none :: _, _, h, _, _ => h.elim
  | some _ :: _, [], _, h, _, _ => h.elim
  | none :: _, [], _, h, _, _ => h.elim
  | [], _ :: _, _, h, _, _ => h.elim
theorem R.agree {G : Gd} {F H : Hp} {ρ : En} {σ σ' : L2.St} {T : List (Cl × V)} (h : G.R F H ρ σ T) (hl : σ'.length = σ.length) (ha : ∀ (i : Nat) (c : Cl), ρ[i]? = some (some c) → σ'[i]? = σ[i]?) : G.R F H ρ σ' T := by
  obtain ⟨e1, e2⟩ := en_agree h.ok hl ha
  exact ⟨by rw [e1]; exact h.hr, e2⟩
/-- the slots vs emptied -/
def wipR (ρ : En) : List Nat → En
  | [] => ρ
  | v :: vs => (wipR ρ vs).set v none
def noneAt (ρ : En) (vs : List Nat) : Bool := vs.all fun j => match ρ[j]? with
  | some none => true
  | _ => false
theorem noneAt_ok {ρ : En} {vs : List Nat} (h : noneAt ρ vs = true) : ∀ j ∈ vs, ρ[j]? = some none := fun j hj => by
  have := List.all_eq_true.mp h j hj
  split at this
  · assumption
  · cases this
theorem wipR_len (ρ : En) : ∀ vs : List Nat, (wipR ρ vs).length = ρ.length
  | [] => rfl
  | v :: vs => by unfold wipR; rw [List.length_set, wipR_len ρ vs]
theorem wipR_at (ρ : En) : ∀ (vs : List Nat) (j : Nat), j ∈ vs → j < ρ.length → (wipR ρ vs)[j]? = some none
  | [], j, h, _ => by cases h
  | v :: vs, j, h, hl => by
    unfold wipR
    by_cases e : v = j
    · subst e
      rw [List.getElem?_set_self (by rw [wipR_len]; exact hl)]
    · rw [List.getElem?_set_ne e]
      exact wipR_at ρ vs j ((List.mem_cons.mp h).resolve_left fun z => e z.symm) hl
theorem R.wip {G : Gd} {F H : Hp} {ρ : En} {σ : L2.St} {T : List (Cl × V)} (h : G.R F H ρ σ T) : ∀ vs : List Nat, G.R F H (wipR ρ vs) (wipe σ vs) T
  | [] => h
  | v :: vs => (R.wip h vs).gone v none
theorem wipe_at (σ : L2.St) : ∀ (vs : List Nat) (j : Nat), j ∈ vs → j < σ.length → (wipe σ vs)[j]? = some none
  | [], j, h, _ => by cases h
  | v :: vs, j, h, hl => by
    unfold wipe
    by_cases e : v = j
    · subst e
      rw [List.getElem?_set_self (by rw [wipe_length]; exact hl)]
    · rw [List.getElem?_set_ne e]
      exact wipe_at σ vs j ((List.mem_cons.mp h).resolve_left fun z => e z.symm) hl
theorem wipe_eq {σ σ2 : L2.St} {vs : List Nat} (hl : σ2.length = σ.length) (h : ∀ j, j < σ.length → j ∉ vs → σ2[j]? = σ[j]?) : wipe σ2 vs = wipe σ vs := by
  refine List.ext_getElem? fun j => ?_
  by_cases hj : j < σ.length
  · by_cases m : j ∈ vs
    · rw [wipe_at σ2 vs j m (by rw [hl]; exact hj), wipe_at σ vs j m hj]
    · rw [wipe_out m, wipe_out m]
      exact h j hj m
  · rw [List.getElem?_eq_none (by rw [wipe_length, hl]; omega), List.getElem?_eq_none (by rw [wipe_length]; omega)]
def lcF (N : Nat) (g : FG) (t : Fn Bool) (e : Fn Bv) (vs : List Nat) (n : Nat) : List D → En → List D → Option (Rz Cl)
  | [], ρ, acc => some (.ok (.lst acc) ρ)
  | d :: ds, ρ, acc => match g d ρ with
    | some ρ2 => if ρ2.length = N then (match t n ρ2 with
      | some (.ok true ρ3) => match fFz e n ρ3 with
        | some (.ok (.fz y) ρ4) => lcF N g t e vs n ds (wipR ρ4 vs) (acc ++ [y])
        | _ => none
      | some (.ok false ρ3) => lcF N g t e vs n ds (wipR ρ3 vs) acc
      | _ => none) else none
    | none => none
def fLc (N : Nat) (vs : List Nat) (i : Fn (List D)) (g : FG) (t : Fn Bool) (e : Fn Bv) : Fn Cl := fun n ρ => bnd (i n ρ) fun ds ρ1 =>
  if (vs.all (fun j => decide (j < N)) && decide (ρ1.length = N) && decide (ds.length ≤ 1000000)) = true then lcF N g t e vs n ds (wipR ρ1 vs) [] else none
abbrev W0 : WX := fun _ _ _ _ => False
def outP (N : Nat) (vs : List Nat) : List Nat := (List.range N).filter fun j => !(vs.contains j)
theorem tM : (1000000 : Nat) < sizeLine := by rw [sizeLine_eq]; decide
section
variable {ι : Type} {G : Gd} {X : ι → Cx} {W : WX}
theorem snd_lc {N : Nat} {vs : List Nat} {wi : TI} {tg : TG} {tt : TT} {te : TE} {i : Fn (List D)} {g : FG} {t : Fn Bool} {e : Fn Bv} (hi : SndI G W wi i) (hg : SndG G (outP N vs) tg g) (ht : SndT G W0 tt t) (he : SndB G W0 te e) : SndE G W (tLc wi tg tt te vs) (fLc N vs i g t e) := fun n ρ r eq F H σ T Q hR hP => by
  unfold fLc at eq
  cases q : i n ρ with
  | none => rw [q] at eq; cases eq
  | some r1 =>
    rw [q] at eq
    refine hi n ρ r1 q F H σ T _ hR ?_
    cases r1 with
    | ex x ρ' => cases eq; exact hP
    | ok ds ρ1 =>
      rw [bnd_ok] at eq
      split at eq
      · rename_i hh
        rw [Bool.and_eq_true, Bool.and_eq_true] at hh
        obtain ⟨⟨hn, hN⟩, hz⟩ := hh
        have hN := of_decide_eq_true hN
        have hn : ∀ j ∈ vs, (wipR ρ1 vs)[j]? = some none := fun j hj => wipR_at ρ1 vs j hj (by
          have := of_decide_eq_true (List.all_eq_true.mp hn j hj)
          omega)
        have hz := of_decide_eq_true hz
        intro F1 H1 J s1 R1 ok Dn hD
        have lσ : ρ1.length = σ.length := R1.ok.len
        have Rw : G.R F1 H1 (wipR ρ1 vs) (wipe σ vs) T := R1.wip vs
        refine ⟨fun k m H' => ∃ ρ' F' acc, m = ds.length - k ∧ k ≤ ds.length ∧ acc.length ≤ k ∧ Same F1 F' ∧ G.R F' H' ρ' (wipe σ vs) ((.lst acc, .ref Dn) :: T) ∧ (∀ j ∈ vs, ρ'[j]? = some none) ∧ ρ'.length = N ∧ lcF N g t e vs n (ds.drop k) ρ' acc = some r,
          ⟨ds.length, wipR ρ1 vs, F1, [], by simp, Nat.zero_le _, Nat.le_refl _, Same.refl _, Rw.newLst hD .nil, hn, by rw [wipR_len]; exact hN, by rw [List.drop_zero]; exact eq⟩, ?_⟩
        rintro k m H' ⟨ρ', F', acc, rfl, hk, ha, s', R', hn', hN', eo⟩
        by_cases hlt : k < ds.length
        · rw [List.drop_eq_getElem_cons hlt] at eo
          unfold lcF at eo
          cases q1 : g ds[k] ρ' with
          | none => rw [q1] at eo; cases eo
          | some ρ2 =>
            rw [q1] at eo
            dsimp only at eo
            by_cases l2 : ρ2.length = N
            case neg => rw [if_neg l2] at eo; cases eo
            rw [if_pos l2] at eo
            refine .inr ⟨ok.go F' H' _ k s' R'.hr hlt, fun H3 => ∃ ρ3 F3 acc3, acc3.length ≤ k + 1 ∧ Same F1 F3 ∧ G.R F3 H3 ρ3 (wipe σ vs) ((.lst acc3, .ref Dn) :: T) ∧ (∀ j ∈ vs, ρ3[j]? = some none) ∧ ρ3.length = N ∧ lcF N g t e vs n (ds.drop (k + 1)) ρ3 acc3 = some r, ?_, ?_⟩
            · rintro H3 ⟨ρ3, F3, acc3, ha3, s3, R3, hn3, hN3, e3⟩
              exact ⟨ds.length - (k + 1), by omega, ρ3, F3, acc3, rfl, hlt, ha3, s3, R3, hn3, hN3, e3⟩
            · intro x H2 hy
              obtain ⟨F2, s2, hr2, rx⟩ := ok.yld F' H' _ k x H2 ds[k] s' R'.hr (List.getElem?_eq_getElem hlt) hy
              refine hg ds[k] ρ' ρ2 q1 F2 H2 (wipe σ vs) _ x _ ⟨hr2, R'.ok⟩ rx fun σ4 R4 k4 => ?_
              have l4 : σ4.length = σ.length := by
                have h1 := R4.ok.len
                have h2 := R'.ok.len
                rw [wipe_length] at h2
                omega
              have w4 : wipe σ4 vs = wipe σ vs := by
                have e1 : wipe σ4 vs = wipe (wipe σ vs) vs := wipe_eq (by rw [l4, wipe_length]) fun j hj m => by
                  refine k4 j (List.mem_filter.mpr ⟨List.mem_range.mpr ?_, by simp [m]⟩)
                  rw [wipe_length] at hj
                  omega
                rw [e1]
                exact wipe_eq (wipe_length _ _) fun j hj m => wipe_out m
              refine ⟨w4, ?_⟩
              have s02 := s'.trans s2
              cases q2 : t n ρ2 with
              | none => rw [q2] at eo; cases eo
              | some o2 =>
                rw [q2] at eo
                refine ht n ρ2 o2 q2 F2 H2 σ4 _ _ R4 ?_
                cases o2 with
                | ex x ρ3 => cases eo
                | ok b ρ3 =>
                  intro F3 H3 s3 R3
                  cases b with
                  | false =>
                    rw [if_neg Bool.false_ne_true]
                    dsimp only at eo
                    have Rn := R3.wip vs
                    rw [w4] at Rn
                    refine ⟨wipR ρ3 vs, F3, acc, Nat.le_succ_of_le ha, s02.trans s3, Rn, fun j hj => wipR_at ρ3 vs j hj ?_, ?_, eo⟩
                    · have := R3.ok.len
                      have hj' := hn' j hj
                      have := (List.getElem?_eq_some_iff.mp hj').1
                      omega
                    · have := R3.ok.len
                      rw [wipR_len]
                      omega
                  | true =>
                    rw [if_pos rfl]
                    dsimp only at eo
                    cases q3 : fFz e n ρ3 with
                    | none => rw [q3] at eo; cases eo
                    | some o3 =>
                      rw [q3] at eo
                      refine snd_fz he n ρ3 o3 q3 F3 H3 σ4 _ _ R3 ?_
                      cases o3 with
                      | ex x ρ4 => cases eo
                      | ok c ρ4 =>
                        intro F4 H4 y s4 R4'
                        cases c with
                        | fz dy =>
                          dsimp only at eo
                          have ry := R4'.rp
                          have R5 := R4'.tail
                          obtain ⟨A, cr⟩ := R5.cr
                          cases cr with
                          | lst h1 h2 r2 =>
                            refine ⟨_, h1, ?_, ?_⟩
                            · rw [r2.length]
                              exact Nat.lt_of_le_of_lt (Nat.le_trans ha (Nat.le_trans hk hz)) tM
                            · have R6 : G.R F4 (upd H4 Dn (.lst (_ ++ [y]))) ρ4 σ4 ((.lst (acc ++ [dy]), .ref Dn) :: T) :=
                                .mk' (R5.hr'.mut (fun A h => by cases h; rfl) (.lst upd_same h2 (r2.append (.cons ry .nil)))) R5.ok
                              have Rn := R6.wip vs
                              rw [w4] at Rn
                              refine ⟨wipR ρ4 vs, F4, acc ++ [dy], ?_, (s02.trans s3).trans s4, Rn, fun j hj => wipR_at ρ4 vs j hj ?_, ?_, eo⟩
                              · rw [List.length_append, List.length_singleton]; omega
                              · have := R6.ok.len
                                have hj' := hn' j hj
                                have := (List.getElem?_eq_some_iff.mp hj').1
                                omega
                              · have := R6.ok.len
                                rw [wipR_len]
                                omega
                        | lst _ => cases eo
                        | dct _ => cases eo
                        | dtt _ => cases eo
                        | dlk _ => cases eo
                        | dlt _ => cases eo
                        | bx _ _ => cases eo
                        | ins _ _ => cases eo
                        | exn _ _ => cases eo
        · have ek : k = ds.length := by omega
          subst ek
          rw [List.drop_length] at eo
          cases eo
          refine .inl ⟨ok.stop F' H' _ _ s' R'.hr (Nat.le_refl _), hP F' H' _ (s1.trans s') (R'.agree (wipe_length _ _).symm fun j c hc => (wipe_out fun m => by rw [hn' j m] at hc; cases hc).symm)⟩
      · cases eq
end
end L3

namespace L3
open PySem PySem.Spec L2

/-! ### comprehensions in the text -/
structure Bi where
  s : Shared
  H : Hp
  C : Addr
  cl : List (Str × Addr)
  fp : List Addr
section
variable {ι : Type}
abbrev blkX (X : ι → Cx) (scope : Scope) : ι × Bi → Cx := fun p => (X p.1).blk p.2.s p.2.H scope (compEnvC scope p.2.cl p.2.C (X p.1).env) p.2.fp
def fYes : Fn Bool := fun _ ρ => some (.ok true ρ)
variable {G : Gd} {X : ι → Cx} {W : WX} {P : List Nat}
theorem xe_lc0 {elt tg iter : Expr} {scope : Scope} {own : List (Str × Nat)} {pos : Pos} {N : Nat} {i : Fn (List D)} {g : FG} {e : Fn Bv} (hc : ∀ j, (X j).calm = true) (hN : ∀ j, (X j).N.Nodup) (hi : XI G X W tg iter i) (ok : ∀ j, BlkOk (X j).N (X j).env.scope scope own)
    (hg : XG G (blkX X scope) (outP N (own.map (·.2))) tg g) (he : XB G (blkX X scope) W0 elt e) (hs : ∀ j, ∀ x, foldedSetIterable iter (X j).env x = pure x) :
    XE G X W (.ListComp elt [⟨tg, iter, [], 0⟩] scope pos) (fLc N (own.map (·.2)) i g fYes e) := by
  obtain ⟨wi, a1, a2⟩ := hi
  obtain ⟨tg', b1, b2⟩ := hg
  obtain ⟨te, c1, c2⟩ := he
  refine ⟨_, fun j => pe_lc (hc j) (hN j) (a1 j) (ok j) (fun s H C cl fp => b1 (j, ⟨s, H, C, cl, fp⟩)) (fun _ _ _ _ _ => pts_nil) (fun s H C cl fp => c1 (j, ⟨s, H, C, cl, fp⟩)) (hs j), snd_lc a2 b2 (fun n ρ r e F H σ T Q hR hP => ?_) c2⟩
  cases e
  exact hP F H (Same.refl _) hR
theorem xe_lc1 {elt tg iter c : Expr} {scope : Scope} {own : List (Str × Nat)} {pos : Pos} {N : Nat} {i : Fn (List D)} {g : FG} {t : Fn Bool} {e : Fn Bv} (hc : ∀ j, (X j).calm = true) (hN : ∀ j, (X j).N.Nodup) (hi : XI G X W tg iter i) (ok : ∀ j, BlkOk (X j).N (X j).env.scope scope own)
    (hg : XG G (blkX X scope) (outP N (own.map (·.2))) tg g) (ht : XT G (blkX X scope) W0 c t) (he : XB G (blkX X scope) W0 elt e) (hs : ∀ j, ∀ x, foldedSetIterable iter (X j).env x = pure x) :
    XE G X W (.ListComp elt [⟨tg, iter, [c], 0⟩] scope pos) (fLc N (own.map (·.2)) i g t e) := by
  obtain ⟨wi, a1, a2⟩ := hi
  obtain ⟨tg', b1, b2⟩ := hg
  obtain ⟨tt, d1, d2⟩ := ht
  obtain ⟨te, c1, c2⟩ := he
  exact ⟨_, fun j => pe_lc (hc j) (hN j) (a1 j) (ok j) (fun s H C cl fp => b1 (j, ⟨s, H, C, cl, fp⟩)) (fun s H C cl fp => pts_one (d1 (j, ⟨s, H, C, cl, fp⟩))) (fun s H C cl fp => c1 (j, ⟨s, H, C, cl, fp⟩)) (hs j), snd_lc a2 b2 d2 c2⟩
theorem xs_setLc0 {k : Nat} {y : Str} {py : Pos} {elt tg iter : Expr} {scope : Scope} {own : List (Str × Nat)} {pos spos : Pos} {N : Nat} {i : Fn (List D)} {g : FG} {e : Fn Bv} (hk : k ∉ P) (hc : ∀ j, (X j).calm = true) (hN : ∀ j, (X j).N.Nodup) (hy : ∀ j, (X j).N[k]? = some y) (hyl : ∀ j, (X j).env.scope.names.lookup y = some .local)
    (hsw : ∀ j, swapsWith (.ListComp elt [⟨tg, iter, [], 0⟩] scope pos) (some (.Name y py)) spos.line (X j).env = pure true) (hi : XI G X W tg iter i) (ok : ∀ j, BlkOk (X j).N (X j).env.scope scope own)
    (hg : XG G (blkX X scope) (outP N (own.map (·.2))) tg g) (he : XB G (blkX X scope) W0 elt e) (hs : ∀ j, ∀ x, foldedSetIterable iter (X j).env x = pure x) :
    XS G X W P (.Assign [.Name y py] (.ListComp elt [⟨tg, iter, [], 0⟩] scope pos) spos) (sSet k (fLc N (own.map (·.2)) i g fYes e)) := by
  obtain ⟨wi, a1, a2⟩ := hi
  obtain ⟨tg', b1, b2⟩ := hg
  obtain ⟨te, c1, c2⟩ := he
  refine ⟨_, fun j => ps_setLc (hc j) (hN j) (hy j) (hyl j) (hsw j) (a1 j) (ok j) (fun s H C cl fp => b1 (j, ⟨s, H, C, cl, fp⟩)) (fun _ _ _ _ _ => pts_nil) (fun s H C cl fp => c1 (j, ⟨s, H, C, cl, fp⟩)) (hs j), snd_set hk (snd_lc a2 b2 (fun n ρ r e F H σ T Q hR hP => ?_) c2)⟩
  cases e
  exact hP F H (Same.refl _) hR
theorem xs_setLc1 {k : Nat} {y : Str} {py : Pos} {elt tg iter c : Expr} {scope : Scope} {own : List (Str × Nat)} {pos spos : Pos} {N : Nat} {i : Fn (List D)} {g : FG} {t : Fn Bool} {e : Fn Bv} (hk : k ∉ P) (hc : ∀ j, (X j).calm = true) (hN : ∀ j, (X j).N.Nodup) (hy : ∀ j, (X j).N[k]? = some y) (hyl : ∀ j, (X j).env.scope.names.lookup y = some .local)
    (hsw : ∀ j, swapsWith (.ListComp elt [⟨tg, iter, [c], 0⟩] scope pos) (some (.Name y py)) spos.line (X j).env = pure true) (hi : XI G X W tg iter i) (ok : ∀ j, BlkOk (X j).N (X j).env.scope scope own)
    (hg : XG G (blkX X scope) (outP N (own.map (·.2))) tg g) (ht : XT G (blkX X scope) W0 c t) (he : XB G (blkX X scope) W0 elt e) (hs : ∀ j, ∀ x, foldedSetIterable iter (X j).env x = pure x) :
    XS G X W P (.Assign [.Name y py] (.ListComp elt [⟨tg, iter, [c], 0⟩] scope pos) spos) (sSet k (fLc N (own.map (·.2)) i g t e)) := by
  obtain ⟨wi, a1, a2⟩ := hi
  obtain ⟨tg', b1, b2⟩ := hg
  obtain ⟨tt, d1, d2⟩ := ht
  obtain ⟨te, c1, c2⟩ := he
  exact ⟨_, fun j => ps_setLc (hc j) (hN j) (hy j) (hyl j) (hsw j) (a1 j) (ok j) (fun s H C cl fp => b1 (j, ⟨s, H, C, cl, fp⟩)) (fun s H C cl fp => pts_one (d1 (j, ⟨s, H, C, cl, fp⟩))) (fun s H C cl fp => c1 (j, ⟨s, H, C, cl, fp⟩)) (hs j), snd_set hk (snd_lc a2 b2 d2 c2)⟩
end

/-! ### calls of defs -/
inductive Mo where
  | ok (c : Cl) (outs : List (Option Cl))
  | ex (x : Ex) (outs : List (Option Cl))
abbrev Mr := List Cl → Option Mo
def backs : List (Option Cl) → List V → List (Cl × V)
  | some c :: os, v :: vs => (c, v) :: backs os vs
  | none :: os, _ :: vs => backs os vs
  | _, _ => []
def MoP (G : Gd) (F : Hp) (vs : List V) (L : List (Cl × V)) (Q : VK) (E : XK) : Mo → Prop
  | .ok c outs => ∀ F' H' v, Same F F' → G.HR F' H' ((c, v) :: (backs outs vs ++ L)) → Q v H'
  | .ex x outs => ∀ F' H' cls d, Same F F' → G.HR F' H' (backs outs vs ++ L) → XR G F' x cls d → E cls d H'
/-- the promise of a def: called with such cells it hands back what m says -/
def spM (G : Gd) (np : Nat) (m : Mr) : Sp := fun vs H Q E => vs.length = np ∧ ∃ cs F L o, cs.length = np ∧ G.HR F H (cs.zip vs ++ L) ∧ m cs = some o ∧ MoP G F vs L Q E o
def takeA (ρ : En) : List Bv → Option (List Cl × En)
  | [] => some ([], ρ)
  | b :: bs => match takeA ρ bs with
    | some (cs, ρ1) => match b with
      | .vl c => some (c :: cs, ρ1)
      | .pl i => match (ρ1[i]?).join with
        | some (.fz d) => some (.fz d :: cs, ρ1)
        | some c => some (c :: cs, ρ1.set i none)
        | none => none
    | none => none
def giveA : En → List Bv → List (Option Cl) → En
  | ρ, .pl i :: bs, some c :: os => giveA (match ρ[i]? with | some none => ρ.set i (some c) | _ => ρ) bs os
  | ρ, .pl _ :: bs, none :: os => giveA ρ bs os
  | ρ, .vl _ :: bs, _ :: os => giveA ρ bs os
  | ρ, _, _ => ρ
section
variable {G : Gd} {F H : Hp} {ρ : En} {σ : L2.St} {T : List (Cl × V)}
theorem take_many : ∀ {bs : List Bv} {vs : List V} {cs : List Cl} {T : List (Cl × V)} {ρ' : En}, G.R F H ρ σ (bvTs bs vs T) → bvVs σ bs vs → takeA ρ bs = some (cs, ρ') → G.HR F H (cs.zip vs ++ (eL ρ' σ ++ T)) ∧ EnOk ρ' σ ∧ cs.length = vs.length
  | [], [], cs, T, ρ', hR, _, e => by
    cases e
    exact ⟨hR.hr, hR.ok, rfl⟩
  | [], _ :: _, _, _, _, _, h, _ => h.elim
  | _ :: _, [], _, _, _, _, h, _ => h.elim
  | b :: bs, v :: vs, cs, T, ρ', hR, hv, e => by
    unfold takeA at e
    cases q : takeA ρ bs with
    | none => rw [q] at e; cases e
    | some p =>
      obtain ⟨cs1, ρ1⟩ := p
      rw [q] at e
      dsimp only at e
      obtain ⟨h1, ok1, l1⟩ := take_many (T := bvT b v T) hR hv.2 q
      cases b with
      | vl c =>
        cases e
        refine ⟨?_, ok1, congrArg (· + 1) l1⟩
        show G.HR F H ((c, v) :: (cs1.zip vs ++ (eL ρ' σ ++ T)))
        have p1 : (cs1.zip vs ++ (eL ρ' σ ++ (c, v) :: T)).Perm ((c, v) :: (cs1.zip vs ++ (eL ρ' σ ++ T))) :=
          (List.Perm.append_left _ (mid _ _ _)).trans (mid _ _ _)
        exact h1.perm p1
      | pl i =>
        dsimp only at e
        have h1 : G.HR F H (cs1.zip vs ++ (eL ρ1 σ ++ T)) := h1
        have hv1 : σ[i]? = some (some v) := hv.1
        cases q2 : (ρ1[i]?).join with
        | none => rw [q2] at e; cases e
        | some c =>
          rw [q2] at e
          obtain ⟨w, h2, p2, ok2⟩ := en_get ok1 (join_some q2)
          rw [hv1] at h2
          cases h2
          have p3 : (cs1.zip vs ++ (eL ρ1 σ ++ T)).Perm ((c, v) :: (cs1.zip vs ++ (eL (ρ1.set i none) σ ++ T))) :=
            (List.Perm.append_left _ (List.Perm.append_right T p2)).trans (mid _ _ _)
          cases c with
          | fz d =>
            cases e
            refine ⟨?_, ok1, congrArg (· + 1) l1⟩
            exact h1.push (h1.perm p3).rp
          | lst _ => cases e; exact ⟨h1.perm p3, ok2, congrArg (· + 1) l1⟩
          | dct _ => cases e; exact ⟨h1.perm p3, ok2, congrArg (· + 1) l1⟩
          | dtt _ => cases e; exact ⟨h1.perm p3, ok2, congrArg (· + 1) l1⟩
          | dlk _ => cases e; exact ⟨h1.perm p3, ok2, congrArg (· + 1) l1⟩
          | dlt _ => cases e; exact ⟨h1.perm p3, ok2, congrArg (· + 1) l1⟩
          | bx _ _ => cases e; exact ⟨h1.perm p3, ok2, congrArg (· + 1) l1⟩
          | ins _ _ => cases e; exact ⟨h1.perm p3, ok2, congrArg (· + 1) l1⟩
          | exn _ _ => cases e; exact ⟨h1.perm p3, ok2, congrArg (· + 1) l1⟩
theorem give_many : ∀ {bs : List Bv} {vs : List V} {os : List (Option Cl)} {ρ : En}, G.HR F H (backs os vs ++ (eL ρ σ ++ T)) → EnOk ρ σ → bvVs σ bs vs → G.R F H (giveA ρ bs os) σ T
  | [], [], os, ρ, h, ok, _ => by
    have e1 : backs os [] = [] := by
      cases os with
      | nil => rfl
      | cons o os => cases o <;> rfl
    rw [e1] at h
    cases os <;> exact ⟨h, ok⟩
  | [], _ :: _, _, _, _, _, h => h.elim
  | _ :: _, [], _, _, _, _, h => h.elim
  | b :: bs, v :: vs, [], ρ, h, ok, hv => by
    cases b <;> exact ⟨h, ok⟩
  | .vl c :: bs, v :: vs, o :: os, ρ, h, ok, hv => by
    refine give_many (bs := bs) (vs := vs) (os := os) ?_ ok hv.2
    cases o with
    | none => exact h
    | some c' => exact HR.tail (x := (c', v)) h
  | .pl i :: bs, v :: vs, none :: os, ρ, h, ok, hv => give_many (bs := bs) (vs := vs) (os := os) h ok hv.2
  | .pl i :: bs, v :: vs, some c :: os, ρ, h, ok, hv => by
    have hv1 : σ[i]? = some (some v) := hv.1
    have h : G.HR F H ((c, v) :: (backs os vs ++ (eL ρ σ ++ T))) := h
    unfold giveA
    cases q : ρ[i]? with
    | none => exact give_many (vs := vs) h.tail ok hv.2
    | some r =>
      cases r with
      | some c' => exact give_many (vs := vs) h.tail ok hv.2
      | none =>
        obtain ⟨ok2, p2⟩ := en_put c ok q hv1
        refine give_many (vs := vs) (h.perm ?_) ok2 hv.2
        exact (mid _ _ _).symm.trans (List.Perm.append_left _ (List.Perm.append_right T p2))
end
def fCall (m : Mr) (f : Fn (List Bv)) : Fn Cl := fun n ρ => bnd (f n ρ) fun bs ρ1 => match takeA ρ1 bs with
  | some (cs, ρ2) => match m cs with
    | some (.ok c outs) => some (.ok c (giveA ρ2 bs outs))
    | some (.ex x outs) => some (.ex x (giveA ρ2 bs outs))
    | none => none
  | none => none
section
variable {ι : Type} {G : Gd} {X : ι → Cx} {W : WX} {e : Expr} {es : List Expr}
theorem HR.rot {K : PySem.W.Frag} {cl : Str → Addr → Prop} {F H : Hp} {x : Cl × V} {A B C : List (Cl × V)} (h : HR K cl F H (x :: (A ++ (B ++ C)))) : HR K cl F H (A ++ (B ++ x :: C)) :=
  h.perm (((List.Perm.append_left A (mid x B C)).trans (mid x A (B ++ C))).symm)
theorem snd_call {np : Nat} {m : Mr} {t : TA} {f : Fn (List Bv)} (ht : SndBs G W t f) (hl : ∀ n ρ bs ρ', f n ρ = some (.ok bs ρ') → bs.length = np) : SndE G W (tCallS (spM G np m) (WE W) t) (fCall m f) := fun n ρ r e F H σ T Q hR hP => by
  unfold fCall at e
  cases q : f n ρ with
  | none => rw [q] at e; cases e
  | some r1 =>
    rw [q] at e
    refine ht n ρ r1 q F H σ T _ hR ?_
    cases r1 with
    | ex x ρ' => cases e; exact hP
    | ok bs ρ1 =>
      rw [bnd_ok] at e
      intro F1 H1 vs s1 R1 v1
      cases q2 : takeA ρ1 bs with
      | none => rw [q2] at e; cases e
      | some p =>
        obtain ⟨cs, ρ2⟩ := p
        rw [q2] at e
        dsimp only at e
        obtain ⟨hh, ok2, lc⟩ := take_many R1 v1 q2
        have lb : vs.length = np := by
          rw [← hl n ρ bs ρ1 q]
          have : ∀ {bs : List Bv} {vs : List V}, bvVs σ bs vs → vs.length = bs.length := by
            intro bs
            induction bs with
            | nil => intro vs h; cases vs with
              | nil => rfl
              | cons _ _ => exact h.elim
            | cons b bs ih => intro vs h; cases vs with
              | nil => exact h.elim
              | cons v vs => exact congrArg (· + 1) (ih h.2)
          exact this v1
        cases q3 : m cs with
        | none => rw [q3] at e; cases e
        | some o =>
          rw [q3] at e
          refine ⟨lb, cs, F1, eL ρ2 σ ++ T, o, lc.trans lb, hh, q3, ?_⟩
          cases o with
          | ok c outs =>
            cases e
            exact fun F' H' v s' h' => hP F' H' v (s1.trans s') (give_many (T := (c, v) :: T) h'.rot ok2 v1)
          | ex x outs =>
            cases e
            exact fun F' H' cls d s' h' xr => hP F' H' cls d (s1.trans s') (give_many h' ok2 v1) xr
theorem xe_call {np k : Nat} {m : Mr} {f : Fn (List Bv)} {x : Str} {p pos : Pos} {a : Addr} {fd : FuncData} {ps : List Str} (Fk : ∀ i, FnOk (X i).prog (X i).w (X i).K (X i).mg (X i).base (L2.CX (X i).prog (X i).w) k a fd ps (spM G np m)) (hr : ∀ i, Room k (X i).A) (hg : ∀ i, Gl (X i) x) (hm : ∀ i, (X i).mg x = some (.ref a))
    (hk : ∀ i, PySem.W.keepIn (X i).K (.ref a) = true) (hb : ∀ i, Binds (X i).K fd ps []) (tk : ∀ i, Takes (X i) W) (ha : XBs G X W (e :: es) f) (hl : ∀ n ρ bs ρ', f n ρ = some (.ok bs ρ') → bs.length = np) (hdb : (x == ("__debug__" : Str)) = false)
    (he : ∀ i, starEach (e :: es) (X i).env = (false, eval e (X i).env) :: starEach es (X i).env) (hpl : ∀ i, (backTo pos (starEach es (X i).env)).any (·.1) = false) : XE G X W (.Call (.Name x p) (e :: es) [] pos) (fCall m f) := by
  obtain ⟨t, h1, h2⟩ := ha
  exact ⟨_, fun i => pe_callS (E := WE W) (Fk i) (hr i) (hg i) (hm i) (hk i) (hb i) (fun σ => passAt (tk i) σ) (h1 i) hdb (he i) (hpl i), snd_call h2 hl⟩
def fCall0 (m : Mr) : Fn Cl := fun _ ρ => match m [] with
  | some (.ok c _) => some (.ok c ρ)
  | _ => none
theorem backs_nil (os : List (Option Cl)) : backs os [] = [] := by
  cases os with
  | nil => rfl
  | cons o os => cases o <;> rfl
theorem xe_call0 {k : Nat} {m : Mr} {x : Str} {p pos : Pos} {a : Addr} {fd : FuncData} (Fk : ∀ i, FnOk (X i).prog (X i).w (X i).K (X i).mg (X i).base (L2.CX (X i).prog (X i).w) k a fd [] (spM G 0 m)) (hr : ∀ i, Room k (X i).A) (hg : ∀ i, Gl (X i) x) (hm : ∀ i, (X i).mg x = some (.ref a))
    (hk : ∀ i, PySem.W.keepIn (X i).K (.ref a) = true) (hb : ∀ i, Binds (X i).K fd [] []) (hdb : (x == ("__debug__" : Str)) = false) : XE G X W (.Call (.Name x p) [] [] pos) (fCall0 m) :=
  ⟨_, fun i => pe_call0 (Fk i) (hr i) (hg i) (hm i) (hk i) (hb i) .nil passL hdb, fun n ρ r e F H σ T Q hR hP => by
    unfold fCall0 at e
    split at e
    · rename_i c outs q
      cases e
      refine ⟨rfl, [], F, eL ρ σ ++ T, _, rfl, hR.hr, q, fun F' H' v s' h' => ?_⟩
      have h' : G.HR F' H' ((c, v) :: (backs outs [] ++ (eL ρ σ ++ T))) := h'
      rw [backs_nil] at h'
      exact hP F' H' v s' (.mk' h' hR.ok)
    · cases e⟩
theorem len_nil {n : Nat} {ρ : En} {bs : List Bv} {ρ' : En} (h : fNil n ρ = some (.ok bs ρ')) : bs.length = 0 := by
  cases h
  rfl
theorem len_cons {f : Fn Bv} {g : Fn (List Bv)} {k : Nat} (hg : ∀ n ρ bs ρ', g n ρ = some (.ok bs ρ') → bs.length = k) : ∀ n ρ bs ρ', fCons f g n ρ = some (.ok bs ρ') → bs.length = k + 1 := fun n ρ bs ρ' h => by
  unfold fCons at h
  cases q : f n ρ with
  | none => rw [q] at h; cases h
  | some r1 =>
    rw [q] at h
    cases r1 with
    | ex x ρ1 => cases h
    | ok b ρ1 =>
      rw [bnd_ok] at h
      cases q2 : g n ρ1 with
      | none => rw [q2] at h; cases h
      | some r2 =>
        rw [q2] at h
        cases r2 with
        | ex x ρ2 => cases h
        | ok bs2 ρ2 =>
          cases h
          exact congrArg (· + 1) (hg n ρ1 bs2 _ q2)
end

/-! ### a def by its body -/
def outsOf (fl : List Bool) (ρ : En) : List (Option Cl) := List.zipWith (fun b r => if b = true then r else none) fl ρ
def fin (fl : List Bool) : Ot → Option Mo
  | .nx ρ => some (.ok (.fz .none) (outsOf fl ρ))
  | .rt c ρ => some (.ok c (outsOf fl ρ))
  | .ex x ρ => some (.ex x (outsOf fl ρ))
  | _ => none
def startR (N : Nat) (cs : List Cl) : En := cs.map some ++ List.replicate (N - cs.length) none
theorem start_ok : ∀ {cs : List Cl} {vs : List V} (k : Nat), cs.length = vs.length → EnOk (cs.map some ++ List.replicate k none) (vs.map some ++ List.replicate k none) ∧ eL (cs.map some ++ List.replicate k none) (vs.map some ++ List.replicate k none) = cs.zip vs
  | [], [], 0, _ => ⟨trivial, rfl⟩
  | [], [], k + 1, h => by
    obtain ⟨h1, h2⟩ := start_ok (cs := []) (vs := []) k rfl
    rw [List.replicate_succ]
    exact ⟨h1, h2⟩
  | c :: cs, v :: vs, k, h => by
    obtain ⟨h1, h2⟩ := start_ok (cs := cs) (vs := vs) k (by simpa using h)
    exact ⟨h1, congrArg (fun z => (c, v) :: z) h2⟩
  | [], _ :: _, _, h => by cases h
  | _ :: _, [], _, h => by cases h
theorem outs_ok : ∀ {ρ : En} {σ : L2.St} {vs : List V} {fl : List Bool}, EnOk ρ σ → (∀ (i : Nat) (v : V), fl[i]? = some true → vs[i]? = some v → σ[i]? = some (some v)) → ∃ M, (eL ρ σ).Perm (backs (outsOf fl ρ) vs ++ M)
  | [], [], vs, fl, _, _ => ⟨[], by cases fl <;> exact .refl _⟩
  | ρ, σ, [], fl, _, _ => ⟨eL ρ σ, by rw [backs_nil]; exact .refl _⟩
  | ρ, σ, _ :: _, [], _, _ => ⟨eL ρ σ, .refl _⟩
  | some c :: ρ, some w :: σ, v :: vs, b :: fl, ok, h => by
    obtain ⟨M, p⟩ := outs_ok (ρ := ρ) (σ := σ) (vs := vs) (fl := fl) ok fun i v' h1 h2 => by
      have := h (i + 1) v' (by rw [List.getElem?_cons_succ]; exact h1) (by rw [List.getElem?_cons_succ]; exact h2)
      simpa using this
    cases b with
    | true =>
      have e := h 0 v rfl rfl
      simp only [List.getElem?_cons_zero, Option.some.injEq] at e
      subst e
      exact ⟨M, List.Perm.cons _ p⟩
    | false => exact ⟨(c, w) :: M, (List.Perm.cons _ p).trans (mid _ _ _).symm⟩
  | none :: ρ, x :: σ, v :: vs, b :: fl, ok, h => by
    obtain ⟨M, p⟩ := outs_ok (ρ := ρ) (σ := σ) (vs := vs) (fl := fl) ok fun i v' h1 h2 => by
      have := h (i + 1) v' (by rw [List.getElem?_cons_succ]; exact h1) (by rw [List.getElem?_cons_succ]; exact h2)
      simpa using this
    cases b <;> exact ⟨M, p⟩
  | some _ :: _, none :: _, _, _, h, _ => h.elim
  | some _ :: _, [], _, _, h, _ => h.elim
  | none :: _, [], _, _, h, _ => h.elim
  | [], _ :: _, _, _, h, _ => h.elim
theorem start_get {N : List Str} {vs : List V} {i : Nat} {v : V} (h : vs[i]? = some v) : (L2.start N vs)[i]? = some (some v) := by
  unfold L2.start
  obtain ⟨hi, e⟩ := List.getElem?_eq_some_iff.mp h
  rw [List.getElem?_append_left (by rw [List.length_map]; exact hi), List.getElem?_map, h]
  rfl
section
variable {P : Program} {w : World} {K : PySem.W.Frag} {mg : Str → Option Value} {base : Heap}
theorem def_ok {x qual : Str} {st : Stmt} {f : Addr} {fd : FuncData} {N ps : List Str} {k np : Nat} {G : Gd} {fl : List Bool} {Pk : List Nat} {g : FS} {m : Mr} (F : Fun K x qual st f fd) (S : FnScope N ps (defScope st)) (hnp : ps.length = np) (hfl : ∀ i, fl[i]? = some true → i ∈ Pk) (hN : np ≤ N.length)
    (hbody : ∀ (cdv : Value) (A : Around) (outer : List Env) (s : Shared) (H : Hp) (E : XK), Room k (A.deeper (PyProof.Rows.envOfC qual (defScope st) s.heap.objs.size f cdv)) →
      XSs G (fun _ : Unit => cxOf (L2.CX P w) P w K mg base N qual (defScope st) f cdv A outer s H E) (fun cls d _ H => E cls d H) Pk (defBody st) g)
    (hm : ∀ cs o, m cs = some o → ∃ n out, g n (startR N.length cs) = some out ∧ fin fl out = some o) : FnOk P w K mg base (L2.CX P w) (k + 1) f fd ps (spM G np m) := by
  refine F.okX S (fun vs H Q E h => by rw [hnp]; exact h.1) fun cdv A outer s H vs Q E hr h => ?_
  obtain ⟨lv, cs, F0, L, o, lc, hh, q, hP⟩ := h
  obtain ⟨t, h1, h2⟩ := hbody cdv A outer s H E hr
  obtain ⟨n, out, e1, e2⟩ := hm cs o q
  refine ⟨t, h1 (), h2 n _ out e1 F0 H _ L _ ?_ ?_⟩
  · obtain ⟨a1, a2⟩ := start_ok (cs := cs) (vs := vs) (N.length - cs.length) (lc.trans lv.symm)
    unfold startR
    have e3 : L2.start N vs = vs.map some ++ List.replicate (N.length - cs.length) none := by unfold L2.start; rw [lc, lv]
    rw [e3]
    exact ⟨by rw [a2]; exact hh, a1⟩
  · have key : ∀ {F' H' : Hp} {ρ' : En} {σ' : L2.St} {T' : List (Cl × V)}, G.R F' H' ρ' σ' T' → Kp Pk (L2.start N vs) σ' → G.HR F' H' (backs (outsOf fl ρ') vs ++ T') := fun {F' H' ρ' σ' T'} R' kp => by
      obtain ⟨M, p⟩ := outs_ok (vs := vs) (fl := fl) R'.ok fun i v h3 h4 => by rw [kp i (hfl i h3)]; exact start_get h4
      refine ((R'.hr.perm (List.Perm.append_right T' p)).perm (L' := (backs (outsOf fl ρ') vs ++ T') ++ M) ?_).left
      rw [List.append_assoc, List.append_assoc]
      exact List.Perm.append_left _ List.perm_append_comm
    cases out with
    | nx ρ' =>
      cases e2
      intro F' H' σ' s' R' kp
      exact hP F' H' .non s' ((key R' kp).push .non)
    | rt c ρ' =>
      cases e2
      intro F' H' σ' v s' R' kp
      exact hP F' H' v s' ((key R' kp).perm (mid _ _ _))
    | ex x ρ' =>
      cases e2
      intro F' H' σ' cls d s' R' kp xr
      exact hP F' H' cls d s' (key R' kp) xr
    | bk ρ' => cases e2
    | ct ρ' => cases e2
end
end L3

namespace L3
open PySem PySem.Spec L2

/-! ### reading cells -/
section
variable {G : Gd} {F H : Hp} {c : Cl} {v : V} {A : List Addr}
theorem RpK.of {K : PySem.W.Frag} {F : Hp} : ∀ {kvs : List (Key × V)} {es : List (Key × D)}, RpKs K F kvs es → RpK K F kvs (es.map fun p => (kD p.1, p.2))
  | _, _, .nil => .nil
  | _, _, .cons h r => .cons h (RpK.of r)
theorem CR.rp {d : D} (s : Same F H) (h : G.CR F H c v A) (e : c.data = some d) : Rp G.K H v d := by
  cases h with
  | fz r => cases e; exact r.mono s
  | lst h1 h2 r => cases e; exact .lst (.inl (.inl h1)) (r.mono s)
  | dct h1 h2 r => cases e; exact .dct h1 (RpK.of (r.mono s))
  | dtt h1 h2 r => cases e
  | dlk h1 r => cases e
  | dlt h1 r => cases e
  | bx _ _ _ _ _ _ => cases e
  | ins hc h1 h2 h3 r => cases e
  | exn _ _ _ => cases e
theorem CR.rpF {d : D} (h : G.CR F H c v A) (e : c = .fz d) : Rp G.K F v d := by
  subst e
  cases h with
  | fz r => exact r
theorem CR.seqL {ds : List D} (s : Same F H) (h : G.CR F H c v A) (e : c.data = some (.list ds)) : ∃ a vs, v = .ref a ∧ SqL G.K H a vs ∧ RpA G.K F vs ds := by
  cases h with
  | fz r =>
    cases e
    cases r with
    | lst h1 r => exact ⟨_, _, rfl, s.seq h1, r⟩
  | lst h1 h2 r => cases e; exact ⟨_, _, rfl, .inl (.inl h1), r⟩
  | dct h1 h2 r => cases e
  | dtt h1 h2 r => cases e
  | dlk h1 r => cases e
  | dlt h1 r => cases e
  | bx _ _ _ _ _ _ => cases e
  | ins hc h1 h2 h3 r => cases e
  | exn _ _ _ => cases e
theorem CR.seqT {ds : List D} (s : Same F H) (h : G.CR F H c v A) (e : c.data = some (.tuple ds)) : ∃ a vs, v = .ref a ∧ SqU G.K F a vs ∧ RpA G.K F vs ds := by
  cases h with
  | fz r =>
    cases e
    cases r with
    | tup h1 r => exact ⟨_, _, rfl, h1, r⟩
  | lst h1 h2 r => cases e
  | dct h1 h2 r => cases e
  | dtt h1 h2 r => cases e
  | dlk h1 r => cases e
  | dlt h1 r => cases e
  | bx _ _ _ _ _ _ => cases e
  | ins hc h1 h2 h3 r => cases e
  | exn _ _ _ => cases e
end
section
variable {G : Gd} {F H : Hp} {cs : List Cl} {vs : List V} {L : List (Cl × V)}
theorem crs2 {c1 c2 : Cl} (h : CRs G F H [c1, c2] vs) : ∃ v1 v2 A1 A2, vs = [v1, v2] ∧ G.CR F H c1 v1 A1 ∧ G.CR F H c2 v2 A2 := by
  cases h with
  | cons h1 r =>
    cases r with
    | cons h2 r =>
      cases r
      obtain ⟨A1, h1⟩ := h1
      obtain ⟨A2, h2⟩ := h2
      exact ⟨_, _, A1, A2, rfl, h1, h2⟩
theorem crs1 {c1 : Cl} (h : CRs G F H [c1] vs) : ∃ v1 A1, vs = [v1] ∧ G.CR F H c1 v1 A1 := by
  cases h with
  | cons h1 r =>
    cases r
    obtain ⟨A1, h1⟩ := h1
    exact ⟨_, A1, rfl, h1⟩
theorem cr_int {i : Int} {v : V} {A : List Addr} (h : G.CR F H (.fz (.int i)) v A) : v = .int i := by
  cases h with
  | fz r => cases r; rfl
theorem cr_str {i : Str} {v : V} {A : List Addr} (h : G.CR F H (.fz (.str i)) v A) : v = .str i := by
  cases h with
  | fz r => cases r; rfl
theorem cr_bool {i : Bool} {v : V} {A : List Addr} (h : G.CR F H (.fz (.bool i)) v A) : v = .bl i := by
  cases h with
  | fz r => cases r; rfl
theorem HR.tupN {p : Addr} {ws : List V} {ds : List D} (hr : G.HR F H L) (hp : H p = none) (r : RpA G.K F ws ds) : ∃ F', Same F F' ∧ G.HR F' (upd H p (.tup ws)) ((.fz (.tuple ds), .ref p) :: L) := by
  obtain ⟨s, q⟩ := hr.newF (o := .tup ws) hp
  exact ⟨_, s, q.push (.tup (.inl upd_same) (r.mono s))⟩
theorem HR.lstN {p : Addr} {ws : List V} {ds : List D} (hr : G.HR F H L) (hp : H p = none) (r : RpA G.K F ws ds) : G.HR F (upd H p (.lst ws)) ((.lst ds, .ref p) :: L) :=
  hr.newO hp (.lst upd_same (hr.sub.free hp) r)
end

/-! ### + -/
def lsz (n : Nat) : Bool := decide (n ≤ 10000000)
theorem lsz_ok {n : Nat} (h : lsz n = true) : n ≤ sizeLine := by
  have := of_decide_eq_true h
  rw [sizeLine_eq]; omega
section
variable {X : Cx}
theorem op_catT0 : OpR X (binaryOp .Add) (fun x y H Q => ∃ a b ys, x = .ref a ∧ y = .ref b ∧ SqT X.K H a [] ∧ SqT X.K H b ys ∧ Q (.ref b) H) := by
  intro pins s σ H x y v u Q I rx ry h
  obtain ⟨a, b, ys, rfl, rfl, ha, hb, q⟩ := h
  cases rx
  cases ry
  obtain ⟨its, r1, p1, _⟩ := I.tuple ha
  obtain ⟨its2, r2, p2, _⟩ := I.tuple hb
  cases r1
  obtain ⟨⟨cls, dd, data, sl⟩, ho, hc, n, hd⟩ := id p1
  obtain ⟨⟨cls2, dd2, data2, sl2⟩, ho2, hc2, n2, hd2⟩ := id p2
  simp only at hc hd hc2 hd2
  subst hc hd hc2 hd2
  exact concat_meets ⟨_, ho, rfl⟩ ⟨_, ho2, rfl⟩ noFill_tuple_add seq_tuple_add PySem.F.slot_tuple_add PySem.F.entry_tuple_add (PySem.F.args_tuple_add_2 _ _)
    (PyProof.Rows.tuple_addW0 a b [].toArray its2.toArray n n2 dd dd2 sl sl2 rfl) ⟨ho, ho2, ⟨.ref b, H, I, rfl, q⟩⟩
end
def rAddA (K : PySem.W.Frag) : R2 := fun x y H Q => (rI0 (fun i j => .int (i + j)) x y H Q) ∨ ((fun x y H Q => ∃ i j, x = .str i ∧ y = .str j ∧ i.length + j.length ≤ sizeLine ∧ Q (.str (i ++ j)) H) : R2) x y H Q ∨ rCat x y H Q ∨ rCatT K x y H Q ∨
  ((fun x y H Q => ∃ a b ys, x = .ref a ∧ y = .ref b ∧ SqT K H a [] ∧ SqT K H b ys ∧ Q (.ref b) H) : R2) x y H Q
theorem op_addA {X : Cx} : OpR X (binaryOp .Add) (rAddA X.K) := op_add.or (op_add_str.or (op_cat.or (op_catT.or op_catT0)))
def gAdd : List Cl → Option Cl
  | [.fz (.int i), .fz (.int j)] => some (.fz (.int (i + j)))
  | [.fz (.str i), .fz (.str j)] => if lsz (i.length + j.length) = true then some (.fz (.str (i ++ j))) else none
  | [.lst xs, .lst ys] => if lsz (xs.length + ys.length) = true then some (.lst (xs ++ ys)) else none
  | [.fz (.tuple xs), .fz (.tuple ys)] => if lsz (xs.length + ys.length) = true then some (.fz (.tuple (xs ++ ys))) else none
  | _ => none
theorem prm_add {G : Gd} : Prm G (l2 (rAddA G.K)) gAdd := fun F H L cs vs c Q hr hc e hQ => by
  unfold gAdd at e
  split at e
  · obtain ⟨v1, v2, A1, A2, rfl, h1, h2⟩ := crs2 hc
    cases cr_int h1; cases cr_int h2; cases e
    exact .inl ⟨_, _, rfl, rfl, hQ F H _ (Same.refl _) (hr.push (.int _))⟩
  · obtain ⟨v1, v2, A1, A2, rfl, h1, h2⟩ := crs2 hc
    cases cr_str h1; cases cr_str h2
    split at e
    · rename_i hz
      cases e
      exact .inr (.inl ⟨_, _, rfl, rfl, lsz_ok hz, hQ F H _ (Same.refl _) (hr.push (.str _))⟩)
    · cases e
  · obtain ⟨v1, v2, A1, A2, rfl, h1, h2⟩ := crs2 hc
    split at e
    · rename_i hz
      cases e
      cases h1 with
      | lst a1 a2 a3 =>
        cases h2 with
        | lst b1 b2 b3 =>
          exact .inr (.inr (.inl ⟨_, _, _, _, rfl, rfl, a1, b1, by rw [a3.length, b3.length]; exact lsz_ok hz, fun p hp => hQ F _ _ (Same.refl _) (HR.lstN hr hp (a3.append b3))⟩))
    · cases e
  · rename_i xs ys
    obtain ⟨v1, v2, A1, A2, rfl, h1, h2⟩ := crs2 hc
    split at e
    · rename_i hz
      cases e
      obtain ⟨a, ws, rfl, q1, r1⟩ := h1.seqT hr.sub rfl
      obtain ⟨b, us, rfl, q2, r2⟩ := h2.seqT hr.sub rfl
      have r2' := h2.rpF rfl
      have r1' := h1.rpF rfl
      cases xs with
      | nil =>
        cases r1
        exact .inr (.inr (.inr (.inr ⟨_, _, _, rfl, rfl, sameT hr.sub q1, sameT hr.sub q2, hQ F H _ (Same.refl _) (hr.push r2')⟩)))
      | cons x xs =>
        refine .inr (.inr (.inr (.inl ⟨_, _, _, _, rfl, rfl, sameT hr.sub q1, sameT hr.sub q2, ?_, by rw [r1.length, r2.length]; exact lsz_ok hz, fun ez => ?_, fun _ p hp => ?_⟩)))
        · cases r1; exact fun z => nomatch z
        · subst ez
          cases r2
          rw [List.append_nil] at hQ
          exact hQ F H _ (Same.refl _) (hr.push r1')
        · obtain ⟨F', s, q⟩ := HR.tupN hr hp (r1.append r2)
          exact hQ F' _ _ s q
    · cases e
  · cases e
/-! ### - * // % -/
def gSub : List Cl → Option Cl
  | [.fz (.int i), .fz (.int j)] => some (.fz (.int (i - j)))
  | _ => none
theorem prm_sub {G : Gd} : Prm G (l2 (rI0 fun i j => .int (i - j))) gSub := fun F H L cs vs c Q hr hc e hQ => by
  unfold gSub at e
  split at e
  · obtain ⟨v1, v2, A1, A2, rfl, h1, h2⟩ := crs2 hc
    cases cr_int h1; cases cr_int h2; cases e
    exact ⟨_, _, rfl, rfl, hQ F H _ (Same.refl _) (hr.push (.int _))⟩
  · cases e
def mulBad (i j : Int) : Bool := decide (Builtin.Int.intBits i > shortFactorBits) && decide (Builtin.Int.intBits j > shortFactorBits) && Builtin.Int.intTooBig (Builtin.Int.intBits i + Builtin.Int.intBits j)
def CMulB (i j : Int) : Prop := mulBad i j = false
theorem op_mulB {X : Cx} : OpR X (binaryOp .Mult) (rI CMulB fun i j => .int (i * j)) := opI fun i j _ _ _ _ _ hc q => PyProof.Rows.mul_int q (by
  unfold IntMulOk
  have h : mulBad i j = false := hc
  unfold mulBad at h
  rw [h]
  exact Bool.false_ne_true)
/-- a tuple times an int that is no index too far: itself where it is empty or the int is 1, the empty tuple where the int is not positive -/
theorem tuple_mulB (l : Addr) (items : Array Value) (n : Nat) (dd : Option Addr) (sl : Array (Option Value)) (x : Int) (u : Tok) (far : (decide (x < -(2 ^ 63)) || decide (x ≥ 2 ^ 63)) = false) (neg : (items.isEmpty || x == 1) = false → x ≤ 0) :
    Meets (Builtin.«tuple.__mul__» ⟨[.ref l, .int x u], []⟩) (fun _ R s => s.heap.get? l = some { cls := .type "tuple", dict := dd, data := .seq items n, slots := sl } ∧
      if (items.isEmpty || x == 1) = true then R (.ok (.ret (.ref l))) s else R (.ok (.ret (.ref s.heap.objs.size))) { s with heap := s.heap.push { cls := .type "tuple", data := .seq #[] } }) :=
  .of_wp fun prog w A R s got => by
    have at_ := got.1
    have post := got.2
    have idx := AutoSeq1.idx_int
    have no : ∀ {b : Bool}, b = false → decide (b = true) = false := fun e => by rw [e]; rfl
    wp_walk using AutoSeq1.wpAny_loadPart' at_
    refine wpAny_ite_false (no far) ?_
    wp_walk using AutoSeq1.wpAny_loadPart' at_
    cases same : (items.isEmpty || x == 1) with
    | true =>
      rw [if_pos same] at post
      refine wpAny_ite_true (decide_eq_true rfl) ?_
      wp_walk using AutoSeq1.wpAny_loadPart' at_
      exact ⟨_, rfl, post⟩
    | false =>
      have low := neg same
      rw [if_neg (by rw [same]; exact Bool.false_ne_true)] at post
      refine wpAny_ite_false rfl ?_
      wp_walk using AutoSeq1.wpAny_loadPart' at_
      exact ⟨_, rfl, post⟩
theorem tuple_mulS (l : Addr) (items : Array Value) (n : Nat) (dd : Option Addr) (sl : Array (Option Value)) (x : Int) (u : Tok) (c0 : (decide (x < -(2 ^ 63)) || decide (x ≥ 2 ^ 63)) = false) (c1 : (items.isEmpty || x == 1) = true) :
    Meets (Builtin.«tuple.__mul__» ⟨[.ref l, .int x u], []⟩) (fun _ R s => s.heap.get? l = some { cls := .type "tuple", dict := dd, data := .seq items n, slots := sl } ∧ R (.ok (.ret (Value.ref l))) s) :=
  (tuple_mulB l items n dd sl x u c0 (by rw [c1]; exact nofun)).of_imp fun _ _ _ q => ⟨q.1, by rw [if_pos c1]; exact q.2⟩
theorem tuple_mul0 (l : Addr) (items : Array Value) (n : Nat) (dd : Option Addr) (sl : Array (Option Value)) (x : Int) (u : Tok) (c0 : (decide (x < -(2 ^ 63)) || decide (x ≥ 2 ^ 63)) = false) (c1 : (items.isEmpty || x == 1) = false) (c2 : x ≤ 0) :
    Meets (Builtin.«tuple.__mul__» ⟨[.ref l, .int x u], []⟩) (fun _ R s => s.heap.get? l = some { cls := .type "tuple", dict := dd, data := .seq items n, slots := sl } ∧
      R (.ok (.ret (Value.ref s.heap.objs.size))) { s with heap := s.heap.push { cls := Value.type "tuple", data := Data.seq #[] }, toks := s.toks }) :=
  (tuple_mulB l items n dd sl x u c0 fun _ => c2).of_imp fun _ _ _ q => ⟨q.1, by rw [if_neg (by rw [c1]; exact Bool.false_ne_true)]; exact q.2⟩

section
variable {X : Cx}
theorem c0_of {k : Int} (h1 : -(2 ^ 63) ≤ k) (h2 : k < 2 ^ 63) : (decide (k < -(2 ^ 63)) || decide (k ≥ 2 ^ 63)) = false := by
  rw [decide_eq_false (by omega), decide_eq_false (by omega)] <;> rfl
theorem op_repTS : OpR X (binaryOp .Mult) (fun x y H Q => ∃ l k xs, x = .ref l ∧ y = .int k ∧ SqT X.K H l xs ∧ (xs.isEmpty || k == 1) = true ∧ -(2 ^ 63) ≤ k ∧ k < 2 ^ 63 ∧ Q (.ref l) H) := by
  intro pins s σ H x y v u Q I rx ry h
  obtain ⟨l, k, xs, rfl, rfl, hT, hne, h1, h2, q⟩ := h
  cases rx
  obtain ⟨t, rfl⟩ := ry
  obtain ⟨its, r, ⟨⟨cls, dd, data, sl⟩, ho, hc, n, hd⟩, hs⟩ := I.tuple hT
  simp only at hc hd
  subst hc hd
  have e1 : (its.toArray.isEmpty || k == 1) = true := by
    have : its.toArray.isEmpty = xs.isEmpty := by cases r <;> simp
    rw [this]; exact hne
  exact wpAny_binaryOp_repeat_ref (T := "tuple") (U := "int") (by decide) ⟨_, ho, rfl⟩ (fun s' => typeIs_int s' k t) noFill_tuple_mul PySem.F.fills_int_mul PySem.F.slot_int_rmul repeat_tuple PySem.F.slot_int_index.lookup
    (call_meets PySem.F.slot_int_rmul (typeIs_int s k t) PySem.F.entry_int_rmul (PySem.F.args_int_rmul_2 _ _) (int_rmul_tuple k t l its.toArray n dd sl)
      ⟨ho, rfl, ⟨_, ho, rfl⟩, call_meets PySem.F.slot_tuple_mul ⟨_, ho, rfl⟩ PySem.F.entry_tuple_mul (PySem.F.args_tuple_mul_2 _ _) (tuple_mulS l its.toArray n dd sl k t (c0_of h1 h2) e1) ⟨ho, ⟨.ref l, H, I, rfl, q⟩⟩⟩)
theorem op_repT0 : OpR X (binaryOp .Mult) (fun x y H Q => ∃ l k xs, x = .ref l ∧ y = .int k ∧ SqT X.K H l xs ∧ xs ≠ [] ∧ -(2 ^ 63) ≤ k ∧ k ≤ 0 ∧ ∀ p, H p = none → Q (.ref p) (upd H p (.tup []))) := by
  intro pins s σ H x y v u Q I rx ry h
  obtain ⟨l, k, xs, rfl, rfl, hT, hne, h1, h2, q⟩ := h
  cases rx
  obtain ⟨t, rfl⟩ := ry
  obtain ⟨its, r, ⟨⟨cls, dd, data, sl⟩, ho, hc, n, hd⟩, hs⟩ := I.tuple hT
  simp only at hc hd
  subst hc hd
  have e0 : its.toArray.isEmpty = false := by
    cases r with
    | nil => exact absurd rfl hne
    | cons _ _ => rfl
  have e1 : (its.toArray.isEmpty || k == 1) = false := by
    rw [e0, Bool.false_or]
    exact beq_eq_false_iff_ne.mpr (by omega)
  refine wpAny_binaryOp_repeat_ref (T := "tuple") (U := "int") (by decide) ⟨_, ho, rfl⟩ (fun s' => typeIs_int s' k t) noFill_tuple_mul PySem.F.fills_int_mul PySem.F.slot_int_rmul repeat_tuple PySem.F.slot_int_index.lookup
    (call_meets PySem.F.slot_int_rmul (typeIs_int s k t) PySem.F.entry_int_rmul (PySem.F.args_int_rmul_2 _ _) (int_rmul_tuple k t l its.toArray n dd sl)
      ⟨ho, rfl, ⟨_, ho, rfl⟩, call_meets PySem.F.slot_tuple_mul ⟨_, ho, rfl⟩ PySem.F.entry_tuple_mul (PySem.F.args_tuple_mul_2 _ _) (tuple_mul0 l its.toArray n dd sl k t (c0_of h1 (by omega)) e1 h2) ⟨ho, ?_⟩⟩)
  exact ⟨.ref s.heap.objs.size, _, I.laid (t' := s.toks) (o := .tup []) (fun b ob q => Heap.get?_push_of_some _ q) (Nat.le_refl _) ⟨Nat.zero_le _, [], .nil, PyProof.Rows.IsTup.new s.heap _⟩, rfl, q _ (I.hok.fresh (Nat.le_refl _))⟩
end
def rMulA (K : PySem.W.Frag) : R2 := fun x y H Q => (rI CMulB (fun i j => .int (i * j)) x y H Q) ∨ rRep x y H Q ∨ rRepT K x y H Q ∨
  ((fun x y H Q => ∃ l k xs, x = .ref l ∧ y = .int k ∧ SqT K H l xs ∧ (xs.isEmpty || k == 1) = true ∧ -(2 ^ 63) ≤ k ∧ k < 2 ^ 63 ∧ Q (.ref l) H) : R2) x y H Q ∨
  ((fun x y H Q => ∃ l k xs, x = .ref l ∧ y = .int k ∧ SqT K H l xs ∧ xs ≠ [] ∧ -(2 ^ 63) ≤ k ∧ k ≤ 0 ∧ ∀ p, H p = none → Q (.ref p) (upd H p (.tup []))) : R2) x y H Q
theorem op_mulA {X : Cx} : OpR X (binaryOp .Mult) (rMulA X.K) := op_mulB.or (op_rep.or (op_repT.or (op_repTS.or op_repT0)))
def gMul : List Cl → Option Cl
  | [.fz (.int i), .fz (.int j)] => if mulBad i j = true then none else some (.fz (.int (i * j)))
  | [.lst xs, .fz (.int k)] => if (Nat.ble k.natAbs 10000000 && lsz (xs.length * k.toNat)) = true then some (.lst (List.replicate k.toNat xs).flatten) else none
  | [.fz (.tuple xs), .fz (.int k)] => if (Nat.ble k.natAbs 1000 && Nat.ble xs.length 1000) = true then some (.fz (.tuple (List.replicate k.toNat xs).flatten)) else none
  | _ => none
theorem prm_mul {G : Gd} : Prm G (l2 (rMulA G.K)) gMul := fun F H L cs vs c Q hr hc e hQ => by
  unfold gMul at e
  split at e
  · obtain ⟨v1, v2, A1, A2, rfl, h1, h2⟩ := crs2 hc
    cases cr_int h1; cases cr_int h2
    split at e
    · cases e
    · rename_i hz
      cases e
      exact .inl ⟨_, _, rfl, rfl, by unfold CMulB; simpa using hz, hQ F H _ (Same.refl _) (hr.push (.int _))⟩
  · rename_i xs k
    obtain ⟨v1, v2, A1, A2, rfl, h1, h2⟩ := crs2 hc
    cases cr_int h2
    split at e
    · rename_i hz
      cases e
      rw [Bool.and_eq_true] at hz
      have hk : k.natAbs ≤ 10000000 := Nat.le_of_ble_eq_true hz.1
      cases h1 with
      | lst a1 a2 a3 =>
        exact .inr (.inl ⟨_, _, _, rfl, rfl, a1, by omega, by omega, by rw [a3.length]; exact lsz_ok hz.2, fun p hp => hQ F _ _ (Same.refl _) (HR.lstN hr hp (a3.rep _))⟩)
    · cases e
  · rename_i xs k
    obtain ⟨v1, v2, A1, A2, rfl, h1, h2⟩ := crs2 hc
    cases cr_int h2
    split at e
    · rename_i hz
      cases e
      rw [Bool.and_eq_true] at hz
      have hk : k.natAbs ≤ 1000 := Nat.le_of_ble_eq_true hz.1
      have k1 : -1000 ≤ k := by omega
      have k2 : k ≤ 1000 := by omega
      have k3 : xs.length ≤ 1000 := Nat.le_of_ble_eq_true hz.2
      obtain ⟨a, ws, rfl, q1, r1⟩ := h1.seqT hr.sub rfl
      have rp := h1.rpF rfl
      have lw := r1.length
      by_cases hb : (ws.isEmpty || k == 1) = true
      · refine .inr (.inr (.inr (.inl ⟨_, _, _, rfl, rfl, sameT hr.sub q1, hb, by omega, by omega, ?_⟩)))
        have ex : (List.replicate k.toNat xs).flatten = xs := by
          rcases Bool.or_eq_true_iff.mp hb with z | z
          · cases r1 with
            | nil => simp
            | cons _ _ => cases z
          · have z' : k = 1 := by simpa using z
            subst z'
            simp
        rw [ex] at hQ
        exact hQ F H _ (Same.refl _) (hr.push rp)
      · have hb' : ws ≠ [] ∧ k ≠ 1 := by
          constructor
          · intro z; rw [z] at hb; exact hb rfl
          · intro z; rw [z] at hb; exact hb (by simp)
        by_cases hk : k ≤ 0
        · refine .inr (.inr (.inr (.inr ⟨_, _, _, rfl, rfl, sameT hr.sub q1, hb'.1, by omega, hk, fun p hp => ?_⟩)))
          have ek : k.toNat = 0 := by omega
          rw [ek] at hQ
          obtain ⟨F', s, q⟩ := HR.tupN hr hp (.nil)
          exact hQ F' _ _ s q
        · refine .inr (.inr (.inl ⟨_, _, _, rfl, rfl, sameT hr.sub q1, hb'.1, by omega, k2, by omega, fun p hp => ?_⟩))
          obtain ⟨F', s, q⟩ := HR.tupN hr hp (r1.rep k.toNat)
          exact hQ F' _ _ s q
    · cases e
  · cases e
def CDivB (i j : Int) : Prop := j ≠ 0 ∧ Builtin.divisionGoesByPylong i j = false
theorem op_fdivB {X : Cx} : OpR X (binaryOp .FloorDiv) (rI CDivB fun i j => .int (i.fdiv j)) := opI fun i j _ _ _ _ _ hc q => PyProof.Rows.floordiv_int hc.1 q (.inl hc.2)
def gFdiv : List Cl → Option Cl
  | [.fz (.int i), .fz (.int j)] => if (decide (j ≠ 0) && !Builtin.divisionGoesByPylong i j) = true then some (.fz (.int (i.fdiv j))) else none
  | _ => none
theorem prm_fdiv {G : Gd} : Prm G (l2 (rI CDivB fun i j => .int (i.fdiv j))) gFdiv := fun F H L cs vs c Q hr hc e hQ => by
  unfold gFdiv at e
  split at e
  · obtain ⟨v1, v2, A1, A2, rfl, h1, h2⟩ := crs2 hc
    cases cr_int h1; cases cr_int h2
    split at e
    · rename_i hz
      cases e
      rw [Bool.and_eq_true] at hz
      exact ⟨_, _, rfl, rfl, ⟨of_decide_eq_true hz.1, by simpa using hz.2⟩, hQ F H _ (Same.refl _) (hr.push (.int _))⟩
    · cases e
  · cases e
def gMod : List Cl → Option Cl
  | [.fz (.int i), .fz (.int j)] => if j = 0 then none else some (.fz (.int (i.fmod j)))
  | _ => none
theorem prm_mod {G : Gd} : Prm G (l2 (rI (fun _ j => j ≠ 0) fun i j => .int (i.fmod j))) gMod := fun F H L cs vs c Q hr hc e hQ => by
  unfold gMod at e
  split at e
  · obtain ⟨v1, v2, A1, A2, rfl, h1, h2⟩ := crs2 hc
    cases cr_int h1; cases cr_int h2
    split at e
    · cases e
    · rename_i hz
      cases e
      exact ⟨_, _, rfl, rfl, hz, hQ F H _ (Same.refl _) (hr.push (.int _))⟩
  · cases e
def gPow : List Cl → Option Cl
  | [.fz (.int i), .fz (.int j)] => if (decide (0 ≤ j) && decide (j ≤ 1000000) && decide (i.natAbs < 2 ^ 64)) = true then some (.fz (.int (i ^ j.toNat))) else none
  | _ => none
theorem prm_pow {G : Gd} : Prm G (l2 (rI CPow fun i j => .int (i ^ j.toNat))) gPow := fun F H L cs vs c Q hr hc e hQ => by
  unfold gPow at e
  split at e
  · obtain ⟨v1, v2, A1, A2, rfl, h1, h2⟩ := crs2 hc
    cases cr_int h1; cases cr_int h2
    split at e
    · rename_i hz
      cases e
      rw [Bool.and_eq_true, Bool.and_eq_true] at hz
      exact ⟨_, _, rfl, rfl, ⟨of_decide_eq_true hz.1.1, of_decide_eq_true hz.1.2, of_decide_eq_true hz.2⟩, hQ F H _ (Same.refl _) (hr.push (.int _))⟩
    · cases e
  · cases e
def gNeg : List Cl → Option Cl
  | [.fz (.int i)] => some (.fz (.int (-i)))
  | _ => none
theorem prm_neg {G : Gd} : Prm G (l1 (rU fun i => .int (-i))) gNeg := fun F H L cs vs c Q hr hc e hQ => by
  unfold gNeg at e
  split at e
  · obtain ⟨v1, A1, rfl, h1⟩ := crs1 hc
    cases cr_int h1
    cases e
    exact ⟨_, rfl, hQ F H _ (Same.refl _) (hr.push (.int _))⟩
  · cases e
/-! ### comparisons -/
def gI (p : Int → Int → Bool) : List Cl → Option Cl
  | [.fz (.int i), .fz (.int j)] => some (.fz (.bool (p i j)))
  | _ => none
theorem prm_i {G : Gd} {p : Int → Int → Bool} : Prm G (l2 (rI0 fun i j => .bl (p i j))) (gI p) := fun F H L cs vs c Q hr hc e hQ => by
  unfold gI at e
  split at e
  · obtain ⟨v1, v2, A1, A2, rfl, h1, h2⟩ := crs2 hc
    cases cr_int h1; cases cr_int h2
    cases e
    exact ⟨_, _, rfl, rfl, hQ F H _ (Same.refl _) (hr.push (.bl _))⟩
  · cases e
abbrev gLt := gI fun i j => decide (i < j)
abbrev gLe := gI fun i j => decide (i ≤ j)
abbrev gGt := gI fun i j => decide (j < i)
abbrev gGe := gI fun i j => decide (j ≤ i)
def gEq : List Cl → Option Cl
  | [a, b] => match a.data, b.data with
    | some d, some e => if (SeqAt.shaped d && SeqAt.shaped e) = true then some (.fz (.bool (PyData.eqv d e))) else none
    | _, _ => none
  | _ => none
def gNe : List Cl → Option Cl
  | [a, b] => match a.data, b.data with
    | some d, some e => if (SeqAt.shaped d && SeqAt.shaped e) = true then some (.fz (.bool (!PyData.eqv d e))) else none
    | _, _ => none
  | _ => none
theorem prm_eq {G : Gd} : Prm G (l2 (rEqD G.K)) gEq := fun F H L cs vs c Q hr hc e hQ => by
  unfold gEq at e
  split at e
  · split at e
    · rename_i d d' q1 q2
      split at e
      · rename_i hz
        rw [Bool.and_eq_true] at hz
        obtain ⟨v1, v2, A1, A2, rfl, h1, h2⟩ := crs2 hc
        cases e
        exact ⟨d, d', (h1.rp hr.sub q1).dp (SeqAt.canLay_of_shaped hz.1), (h2.rp hr.sub q2).dp (SeqAt.canLay_of_shaped hz.2), hz.1, hz.2, hQ F H _ (Same.refl _) (hr.push (.bl _))⟩
      · cases e
    · cases e
  · cases e
theorem prm_ne {G : Gd} : Prm G (l2 (rNeD G.K)) gNe := fun F H L cs vs c Q hr hc e hQ => by
  unfold gNe at e
  split at e
  · split at e
    · rename_i d d' q1 q2
      split at e
      · rename_i hz
        rw [Bool.and_eq_true] at hz
        obtain ⟨v1, v2, A1, A2, rfl, h1, h2⟩ := crs2 hc
        cases e
        exact ⟨d, d', (h1.rp hr.sub q1).dp (SeqAt.canLay_of_shaped hz.1), (h2.rp hr.sub q2).dp (SeqAt.canLay_of_shaped hz.2), hz.1, hz.2, hQ F H _ (Same.refl _) (hr.push (.bl _))⟩
      · cases e
    · cases e
  · cases e
/-! ### is None -/
def isNoD : D → Bool
  | .none => true
  | _ => false
def gIsN : List Cl → Option Cl
  | [.fz d, .fz .none] => some (.fz (.bool (isNoD d)))
  | _ => none
def gNotN : List Cl → Option Cl
  | [.fz d, .fz .none] => some (.fz (.bool (!(isNoD d))))
  | _ => none
theorem rp_non {K : PySem.W.Frag} {F : Hp} {v : V} {d : D} (h : Rp K F v d) : decide (v = .non) = (isNoD d) := by
  cases h <;> rfl
theorem cr_non {G : Gd} {F H : Hp} {v : V} {A : List Addr} (h : G.CR F H (.fz .none) v A) : v = .non := by
  cases h with
  | fz r => cases r; rfl
theorem prm_isN {G : Gd} : Prm G (l2 fun x y H Q => y = .non ∧ Q (.bl (decide (x = .non))) H) gIsN := fun F H L cs vs c Q hr hc e hQ => by
  unfold gIsN at e
  split at e
  · obtain ⟨v1, v2, A1, A2, rfl, h1, h2⟩ := crs2 hc
    cases cr_non h2
    cases e
    refine ⟨rfl, ?_⟩
    rw [rp_non (h1.rpF rfl)]
    exact hQ F H _ (Same.refl _) (hr.push (.bl _))
  · cases e
theorem prm_notN {G : Gd} : Prm G (l2 fun x y H Q => y = .non ∧ Q (.bl (!decide (x = .non))) H) gNotN := fun F H L cs vs c Q hr hc e hQ => by
  unfold gNotN at e
  split at e
  · obtain ⟨v1, v2, A1, A2, rfl, h1, h2⟩ := crs2 hc
    cases cr_non h2
    cases e
    refine ⟨rfl, ?_⟩
    rw [rp_non (h1.rpF rfl)]
    exact hQ F H _ (Same.refl _) (hr.push (.bl _))
  · cases e
/-! ### subscripts -/
def gIx : List Cl → Option Cl
  | [c, .fz (.int i)] => match c.data with
    | some (.list ds) => (atI ds i).map .fz
    | some (.tuple ds) => (atI ds i).map .fz
    | some (.str z) => if z.length ≤ 10000000 then (atI z.cps.toList i).map fun c => .fz (.str ⟨#[c]⟩) else none
    | _ => none
  | _ => none
theorem atI_rp {K : PySem.W.Frag} {F : Hp} {vs : List V} {ds : List D} {i : Int} {d : D} (r : RpA K F vs ds) (h : atI ds i = some d) : ∃ v, atI vs i = some v ∧ Rp K F v d := by
  unfold atI at h ⊢
  rw [r.length]
  cases q : ixN ds.length i with
  | none => rw [q] at h; cases h
  | some j =>
    rw [q] at h
    exact r.get h
theorem prm_ix {G : Gd} : Prm G (l2 (rIx G.K)) gIx := fun F H L cs vs c Q hr hc e hQ => by
  unfold gIx at e
  split at e
  · obtain ⟨v1, v2, A1, A2, rfl, h1, h2⟩ := crs2 hc
    cases cr_int h2
    split at e
    · rename_i ds q
      obtain ⟨a, ws, rfl, q1, r1⟩ := h1.seqL hr.sub q
      rename_i i _
      cases q3 : atI ds i with
      | none => rw [q3] at e; cases e
      | some d =>
        rw [q3] at e
        cases e
        obtain ⟨v, q4, r4⟩ := atI_rp r1 q3
        exact .inl ⟨_, _, _, _, rfl, rfl, q1, q4, hQ F H _ (Same.refl _) (hr.push r4)⟩
    · rename_i ds q
      obtain ⟨a, ws, rfl, q1, r1⟩ := h1.seqT hr.sub q
      rename_i i _
      cases q3 : atI ds i with
      | none => rw [q3] at e; cases e
      | some d =>
        rw [q3] at e
        cases e
        obtain ⟨v, q4, r4⟩ := atI_rp r1 q3
        exact .inr (.inl ⟨_, _, _, _, rfl, rfl, sameT hr.sub q1, q4, hQ F H _ (Same.refl _) (hr.push r4)⟩)
    · rename_i z q
      have r := h1.rp hr.sub q
      cases r
      split at e
      · rename_i i hz
        have hz' : z.length ≤ 10000000 := by first | exact hz | exact i
        rename_i i2
        cases q3 : atI z.cps.toList i2 with
        | none => simp [q3] at e
        | some d =>
          simp only [q3, Option.map_some, Option.some.injEq] at e
          subst e
          exact .inr (.inr ⟨_, _, _, rfl, rfl, by rw [sizeLine_eq]; omega, q3, hQ F H _ (Same.refl _) (hr.push (.str _))⟩)
      · cases e
    · cases e
  · cases e
/-! ### built-in functions -/
def gLen : List Cl → Option Cl
  | [c] => match c.data with
    | some (.list ds) => some (.fz (.int ds.length))
    | some (.tuple ds) => some (.fz (.int ds.length))
    | some (.str z) => if z.length ≤ 10000000 then some (.fz (.int z.length)) else none
    | _ => none
  | _ => none
def rLenA (K : PySem.W.Frag) : List V → Hp → VK → Prop := fun xs H Q => (∃ p ys, xs = [.ref p] ∧ (SqL K H p ys ∨ SqT K H p ys) ∧ Q (.int ys.length) H) ∨ (∃ z, xs = [.str z] ∧ z.length ≤ sizeLine ∧ Q (.int z.length) H)
theorem call_lenA {X : Cx} : CallR X (.builtin "len") (rLenA X.K) := call_len_seq.or call_len_str
theorem prm_len {G : Gd} : Prm G (rLenA G.K) gLen := fun F H L cs vs c Q hr hc e hQ => by
  unfold gLen at e
  split at e
  · obtain ⟨v1, A1, rfl, h1⟩ := crs1 hc
    split at e
    · rename_i ds q
      cases e
      obtain ⟨a, ws, rfl, q1, r1⟩ := h1.seqL hr.sub q
      exact .inl ⟨_, _, rfl, .inl q1, by rw [r1.length]; exact hQ F H _ (Same.refl _) (hr.push (.int _))⟩
    · rename_i ds q
      cases e
      obtain ⟨a, ws, rfl, q1, r1⟩ := h1.seqT hr.sub q
      exact .inl ⟨_, _, rfl, .inr (sameT hr.sub q1), by rw [r1.length]; exact hQ F H _ (Same.refl _) (hr.push (.int _))⟩
    · rename_i z q
      have r := h1.rp hr.sub q
      cases r
      split at e
      · rename_i hz
        cases e
        exact .inr ⟨_, rfl, by rw [sizeLine_eq]; omega, hQ F H _ (Same.refl _) (hr.push (.int _))⟩
      · cases e
    · cases e
  · cases e
def gTuple : List Cl → Option Cl
  | [c] => match c.data with
    | some (.list ds) => some (.fz (.tuple ds))
    | some (.tuple ds) => some (.fz (.tuple ds))
    | _ => none
  | _ => none
def rTupA (K : PySem.W.Frag) : List V → Hp → VK → Prop := fun xs H Q => ∃ p ys, xs = [.ref p] ∧ ((SqL K H p ys ∧ ∀ l, H l = none → Q (.ref l) (upd H l (.tup ys))) ∨ (SqT K H p ys ∧ Q (.ref p) H))
theorem prm_tuple {G : Gd} : Prm G (rTupA G.K) gTuple := fun F H L cs vs c Q hr hc e hQ => by
  unfold gTuple at e
  split at e
  · obtain ⟨v1, A1, rfl, h1⟩ := crs1 hc
    split at e
    · rename_i ds q
      cases e
      obtain ⟨a, ws, rfl, q1, r1⟩ := h1.seqL hr.sub q
      refine ⟨_, _, rfl, .inl ⟨q1, fun p hp => ?_⟩⟩
      obtain ⟨F', s, q⟩ := HR.tupN hr hp r1
      exact hQ F' _ _ s q
    · rename_i ds q
      cases e
      obtain ⟨a, ws, rfl, q1, r1⟩ := h1.seqT hr.sub q
      exact ⟨_, _, rfl, .inr ⟨sameT hr.sub q1, hQ F H _ (Same.refl _) (hr.push (.tup q1 r1))⟩⟩
    · cases e
  · cases e
def gList : List Cl → Option Cl
  | [c] => match c.data with
    | some (.list ds) => some (.lst ds)
    | some (.tuple ds) => some (.lst ds)
    | _ => none
  | _ => none
def rListA (K : PySem.W.Frag) : List V → Hp → VK → Prop := fun xs H Q => ∃ p ys, xs = [.ref p] ∧ (SqL K H p ys ∨ SqT K H p ys) ∧ ∀ l, H l = none → Q (.ref l) (upd H l (.lst ys))
theorem prm_list {G : Gd} : Prm G (rListA G.K) gList := fun F H L cs vs c Q hr hc e hQ => by
  unfold gList at e
  split at e
  · obtain ⟨v1, A1, rfl, h1⟩ := crs1 hc
    split at e
    · rename_i ds q
      cases e
      obtain ⟨a, ws, rfl, q1, r1⟩ := h1.seqL hr.sub q
      exact ⟨_, _, rfl, .inl q1, fun p hp => hQ F _ _ (Same.refl _) (HR.lstN hr hp r1)⟩
    · rename_i ds q
      cases e
      obtain ⟨a, ws, rfl, q1, r1⟩ := h1.seqT hr.sub q
      exact ⟨_, _, rfl, .inr (sameT hr.sub q1), fun p hp => hQ F _ _ (Same.refl _) (HR.lstN hr hp r1)⟩
    · cases e
  · cases e
def gAbs : List Cl → Option Cl
  | [.fz (.int i)] => some (.fz (.int (if i < 0 then -i else i)))
  | _ => none
theorem prm_abs {G : Gd} : Prm G (fun xs H Q => ∃ i, xs = [.int i] ∧ Q (.int (if i < 0 then -i else i)) H) gAbs := fun F H L cs vs c Q hr hc e hQ => by
  unfold gAbs at e
  split at e
  · obtain ⟨v1, A1, rfl, h1⟩ := crs1 hc
    cases cr_int h1
    cases e
    exact ⟨_, rfl, hQ F H _ (Same.refl _) (hr.push (.int _))⟩
  · cases e
def gMax2 : List Cl → Option Cl
  | [.fz (.int i), .fz (.int j)] => some (.fz (.int (if j > i then j else i)))
  | _ => none
def gMin2 : List Cl → Option Cl
  | [.fz (.int i), .fz (.int j)] => some (.fz (.int (if j < i then j else i)))
  | _ => none
theorem prm_max2 {G : Gd} : Prm G (fun xs H Q => ∃ i j, xs = [.int i, .int j] ∧ Q (.int (if j > i then j else i)) H) gMax2 := fun F H L cs vs c Q hr hc e hQ => by
  unfold gMax2 at e
  split at e
  · obtain ⟨v1, v2, A1, A2, rfl, h1, h2⟩ := crs2 hc
    cases cr_int h1; cases cr_int h2
    cases e
    exact ⟨_, _, rfl, hQ F H _ (Same.refl _) (hr.push (.int _))⟩
  · cases e
theorem prm_min2 {G : Gd} : Prm G (fun xs H Q => ∃ i j, xs = [.int i, .int j] ∧ Q (.int (if j < i then j else i)) H) gMin2 := fun F H L cs vs c Q hr hc e hQ => by
  unfold gMin2 at e
  split at e
  · obtain ⟨v1, v2, A1, A2, rfl, h1, h2⟩ := crs2 hc
    cases cr_int h1; cases cr_int h2
    cases e
    exact ⟨_, _, rfl, hQ F H _ (Same.refl _) (hr.push (.int _))⟩
  · cases e
def gInt : List Cl → Option Cl
  | [.fz (.int i)] => some (.fz (.int i))
  | [.fz (.bool b)] => some (.fz (.int (if b then 1 else 0)))
  | _ => none
theorem prm_int {G : Gd} : Prm G (fun xs H Q => (∃ i, xs = [.int i] ∧ Q (.int i) H) ∨ ∃ k, xs = [.bl k] ∧ Q (.int (if k then 1 else 0)) H) gInt := fun F H L cs vs c Q hr hc e hQ => by
  unfold gInt at e
  split at e
  · obtain ⟨v1, A1, rfl, h1⟩ := crs1 hc
    cases cr_int h1
    cases e
    exact .inl ⟨_, rfl, hQ F H _ (Same.refl _) (hr.push (.int _))⟩
  · obtain ⟨v1, A1, rfl, h1⟩ := crs1 hc
    cases cr_bool h1
    cases e
    exact .inr ⟨_, rfl, hQ F H _ (Same.refl _) (hr.push (.int _))⟩
  · cases e
/-- the ints of a list -/
def intsD : List D → Option (List Int)
  | [] => some []
  | .int i :: ds => match intsD ds with
    | some ns => some (i :: ns)
    | none => none
  | _ :: _ => none
theorem intsD_ok : ∀ {ds : List D} {ns : List Int}, intsD ds = some ns → ds = ns.map PyData.int
  | [], ns, h => by cases h; rfl
  | .int i :: ds, ns, h => by
    unfold intsD at h
    cases q : intsD ds with
    | none => rw [q] at h; cases h
    | some ms =>
      rw [q] at h
      cases h
      rw [intsD_ok q]
      rfl
  | .none :: _, ns, h => by cases h
  | .bool _ :: _, ns, h => by cases h
  | .str _ :: _, ns, h => by cases h
  | .list _ :: _, ns, h => by cases h
  | .tuple _ :: _, ns, h => by cases h
  | .dict _ :: _, ns, h => by cases h
@[simp] theorem intsD_map : ∀ ns : List Int, intsD (ns.map PyData.int) = some ns
  | [] => rfl
  | n :: ns => by
    show (match intsD (ns.map PyData.int) with | some ms => some (n :: ms) | none => none) = _
    rw [intsD_map ns]
def boolsD : List D → Option (List Bool)
  | [] => some []
  | .bool i :: ds => match boolsD ds with
    | some ns => some (i :: ns)
    | none => none
  | _ :: _ => none
theorem boolsD_ok : ∀ {ds : List D} {ns : List Bool}, boolsD ds = some ns → ds = ns.map PyData.bool
  | [], ns, h => by cases h; rfl
  | .bool i :: ds, ns, h => by
    unfold boolsD at h
    cases q : boolsD ds with
    | none => rw [q] at h; cases h
    | some ms =>
      rw [q] at h
      cases h
      rw [boolsD_ok q]
      rfl
  | .none :: _, ns, h => by cases h
  | .int _ :: _, ns, h => by cases h
  | .str _ :: _, ns, h => by cases h
  | .list _ :: _, ns, h => by cases h
  | .tuple _ :: _, ns, h => by cases h
  | .dict _ :: _, ns, h => by cases h
@[simp] theorem boolsD_map : ∀ ns : List Bool, boolsD (ns.map PyData.bool) = some ns
  | [] => rfl
  | n :: ns => by
    show (match boolsD (ns.map PyData.bool) with | some ms => some (n :: ms) | none => none) = _
    rw [boolsD_map ns]
def gSum : List Cl → Option Cl
  | [c] => match c.data with
    | some (.list ds) => (intsD ds).map fun ns => .fz (.int ns.sum)
    | _ => none
  | _ => none
theorem prm_sum {G : Gd} : Prm G (rSum G.K) gSum := fun F H L cs vs c Q hr hc e hQ => by
  unfold gSum at e
  split at e
  · obtain ⟨v1, A1, rfl, h1⟩ := crs1 hc
    split at e
    · rename_i ds q
      obtain ⟨a, ws, rfl, q1, r1⟩ := h1.seqL hr.sub q
      cases q2 : intsD ds with
      | none => rw [q2] at e; cases e
      | some ns =>
        rw [q2] at e
        cases e
        have ed := intsD_ok q2
        subst ed
        have ew := r1.ints
        subst ew
        exact ⟨_, _, rfl, q1, hQ F H _ (Same.refl _) (hr.push (.int _))⟩
    · cases e
  · cases e
def gAll : List Cl → Option Cl
  | [c] => match c.data with
    | some (.list ds) => (boolsD ds).map fun ns => .fz (.bool (ns.all id))
    | _ => none
  | _ => none
def gAny : List Cl → Option Cl
  | [c] => match c.data with
    | some (.list ds) => (boolsD ds).map fun ns => .fz (.bool (ns.any id))
    | _ => none
  | _ => none
theorem prm_all {G : Gd} : Prm G (fun vs H Q => ∃ (a : Addr) (bs : List Bool), vs = [V.ref a] ∧ SqL G.K H a (bs.map V.bl) ∧ Q (.bl (bs.all id)) H) gAll := fun F H L cs vs c Q hr hc e hQ => by
  unfold gAll at e
  split at e
  · obtain ⟨v1, A1, rfl, h1⟩ := crs1 hc
    split at e
    · rename_i ds q
      obtain ⟨a, ws, rfl, q1, r1⟩ := h1.seqL hr.sub q
      cases q2 : boolsD ds with
      | none => rw [q2] at e; cases e
      | some ns =>
        rw [q2] at e
        cases e
        have ed := boolsD_ok q2
        subst ed
        have ew := r1.bools
        subst ew
        exact ⟨_, _, rfl, q1, hQ F H _ (Same.refl _) (hr.push (.bl _))⟩
    · cases e
  · cases e
theorem prm_any {G : Gd} : Prm G (fun vs H Q => ∃ (a : Addr) (bs : List Bool), vs = [V.ref a] ∧ SqL G.K H a (bs.map V.bl) ∧ Q (.bl (bs.any id)) H) gAny := fun F H L cs vs c Q hr hc e hQ => by
  unfold gAny at e
  split at e
  · obtain ⟨v1, A1, rfl, h1⟩ := crs1 hc
    split at e
    · rename_i ds q
      obtain ⟨a, ws, rfl, q1, r1⟩ := h1.seqL hr.sub q
      cases q2 : boolsD ds with
      | none => rw [q2] at e; cases e
      | some ns =>
        rw [q2] at e
        cases e
        have ed := boolsD_ok q2
        subst ed
        have ew := r1.bools
        subst ew
        exact ⟨_, _, rfl, q1, hQ F H _ (Same.refl _) (hr.push (.bl _))⟩
    · cases e
  · cases e
end L3

namespace L3
open PySem PySem.Spec L2

/-! ### error classes -/
/-- what the written part says of the error class at C -/
structure EcK (K : PySem.W.Frag) (C : Addr) : Prop where
  kp : PySem.W.keepIn K (.ref C) = true
  sub : PySem.W.subIn K (.ref C) (.type "BaseException") = some true
  ty : PySem.W.typeIn K (.ref C) = some (.type "type")
  cl : (PySem.W.clsIn K C).isSome = true
  hd : PySem.W.hasDictIn K C = true
  ga : PySem.W.findIn K (.ref C) "__getattribute__" = some (some (.builtin "BaseException.__getattribute__"))
  gg : PySem.W.findIn K (.ref C) "__getattr__" = some none
  ac : PySem.W.findIn K (.ref C) "__class__" = some (some (.builtin "object.__class__"))
  sp : PySem.W.specialIn K (.builtin "object.__class__") "__get__" = some (some (.builtin "getset_descriptor.__get__"))
  tk : PySem.W.takesIn K (.builtin "object.__class__") = some true
  mr : PySem.W.mroIn K C (.type "object") = some true
/-- one without an __init__ of its own -/
structure EcN (K : PySem.W.Frag) (C : Addr) : Prop extends EcK K C where
  ex : PySem.W.excIn K C [.type "ValueError", .type "Exception", .type "BaseException", .type "object"] "ValueError.__new__" = true
section
variable {X : Cx} {C : Addr}
theorem pmk_own0 {x : Str} {p pos : Pos} (T : EcN X.K C) (gC : X.mg x = some (.ref C)) (hg : Gl X x) (hdb : (x == ("__debug__" : Str)) = false) : PMk X (.Call (.Name x p) [] [] pos) (fun _ H Q => Q (.ref C) none H) := by
  intro pins s σ H Q I h
  refine wpAny_Call_Name_kw (ld_glob I hg gC ?_ hdb)
  refine PySem.W.callWith_K0 I.kIn T.kp ?_
  show wpAny _ _ (call (.ref C) []) _ _ _
  obtain ⟨bm, N, nm, qn, bs, hdct, sn, sub, ab, col, dd, k0, k1, k2, k3, k5, mN, hC, hN, hni, T'⟩ := exc_obj I.kIn T.ex
  refine wpAny_call_exc_subT PySem.F.excBase_ValueError T' hC hN hni (fun h' e hm => ?_) (by show 0 ≤ sizeLine; omega)
  exact mk_of I hm (raises_own T.sub T.ty) h (I.hok.gone hm.new)
end
section
variable {ι : Type} {G : Gd} {X : ι → Cx} {W : WX} {P : List Nat} {e : Expr} {es : List Expr} {pos : Pos}
def sRaise (c : Str) : FS := fun _ ρ => some (.ex ⟨c, []⟩ ρ)
theorem xs_raise0 {x : Str} {p p2 : Pos} {C : Addr} (hK : ∀ i, (X i).K = G.K) (hM : ∀ i, (X i).mg = G.mg) (hc : ∀ i, (X i).calm = true) (tk : ∀ i, Takes (X i) W) (T : EcN G.K C) (gC : G.mg x = some (.ref C)) (hg : ∀ i, Gl (X i) x) (hdb : (x == ("__debug__" : Str)) = false) :
    XS G X W P (.Raise (some (.Call (.Name x p) [] [] p2)) none pos) (sRaise x) :=
  ⟨_, fun i => ps_raise (hc i) (tk i) (pmk_own0 (by rw [hK i]; exact T) (by rw [hM i]; exact gC) (hg i) hdb), fun n ρ o eq F H σ T' D hR hP => by
    cases eq
    exact hP F H σ (.ref C) none (Same.refl _) hR (Kp.refl _) ⟨C, gC, rfl, .inl ⟨rfl, rfl⟩⟩⟩
/-- the promise of an __init__ that stores its arguments -/
def mkFs : List Str → List V → List (Str × V)
  | f :: fs, v :: vs => mkFs fs vs ++ [(f, v)]
  | _, _ => []
def mkFsD : List Str → List D → List (Str × D)
  | f :: fs, v :: vs => mkFsD fs vs ++ [(f, v)]
  | _, _ => []
theorem RpKs.append {K : PySem.W.Frag} {F : Hp} {κ : Type} : ∀ {a b : List (κ × V)} {c d : List (κ × D)}, RpKs K F a c → RpKs K F b d → RpKs K F (a ++ b) (c ++ d)
  | _, _, _, _, .nil, h => h
  | _, _, _, _, .cons h r, h' => .cons h (RpKs.append r h')
theorem mkFs_rp {K : PySem.W.Frag} {F : Hp} : ∀ (fs : List Str) {vs : List V} {ds : List D}, RpA K F vs ds → RpKs K F (mkFs fs vs) (mkFsD fs ds)
  | [], vs, ds, h => by cases h <;> exact .nil
  | f :: fs, _, _, .nil => .nil
  | f :: fs, _, _, .cons h r => RpKs.append (mkFs_rp fs r) (.cons h .nil)
def spInit (K : PySem.W.Frag) (fs : List Str) : Sp := fun vs H Q _ => ∃ (a C : Addr) (ws : List V), vs = .ref a :: ws ∧ ws.length = fs.length ∧ OexC K C ∧ (∀ f ∈ fs, PySem.W.findIn K (.ref C) f = some none) ∧ H a = some (exo a C none) ∧
  ∀ dx, H dx = none → dx ≠ a → Q .non (upd (upd H dx (exd dx (mkFs fs ws))) a (exo a C (some dx)))
/-- the class and its __init__ -/
structure EcI (P : Program) (w : World) (K : PySem.W.Frag) (mg : Str → Option Value) (base : Heap) (k : Nat) (C fI : Addr) (fd : FuncData) (fs : List Str) : Prop where
  ox : OexC K C
  ec : EcK K C
  noF : ∀ f ∈ fs, PySem.W.findIn K (.ref C) f = some none
  iC : PySem.W.findIn K (.ref C) "__init__" = some (some (.ref fI))
  tI : PySem.W.typeIn K (.ref fI) = some (.type "function")
  fn : FnOk P w K mg base (L2.CX P w) k fI fd ("self" :: fs) (spInit K fs)
  bi : Binds K fd ("self" :: fs) []
def sRaiseI (c : Str) (fs : List Str) (f : Fn (List Bv)) : FS := fun n ρ => bS (fFzs f n ρ) fun ds ρ1 => if ds.length = fs.length ∧ ds.length ≤ 100 then some (.ex ⟨c, mkFsD fs ds⟩ ρ1) else none
theorem xs_raiseI {x : Str} {p p2 : Pos} {C fI : Addr} {fd : FuncData} {k : Nat} {fs : List Str} {f : Fn (List Bv)} (hK : ∀ i, (X i).K = G.K) (hM : ∀ i, (X i).mg = G.mg) (hc : ∀ i, (X i).calm = true) (tk : ∀ i, Takes (X i) W) (T : ∀ i, EcI (X i).prog (X i).w (X i).K (X i).mg (X i).base k C fI fd fs) (hr : ∀ i, Room (k + 1) (X i).A)
    (gC : G.mg x = some (.ref C)) (hg : ∀ i, Gl (X i) x) (hdb : (x == ("__debug__" : Str)) = false) (ha : XBs G X W (e :: es) f) (he : ∀ i, starEach (e :: es) (X i).env = (false, eval e (X i).env) :: starEach es (X i).env) (hpl : ∀ i, (backTo p2 (starEach es (X i).env)).any (·.1) = false) :
    XS G X W P (.Raise (some (.Call (.Name x p) (e :: es) [] p2)) none pos) (sRaiseI x fs f) := by
  obtain ⟨t, h1, h2⟩ := ha
  by_cases hi : Nonempty ι
  case neg => exact ⟨fun _ _ _ => True, fun i => (hi ⟨i⟩).elim, fun _ _ _ _ _ _ _ _ _ _ _ => trivial⟩
  obtain ⟨i0⟩ := hi
  refine ⟨_, fun i => ps_raise (hc i) (tk i) (by
    have := pmk_oex (p := p) (sp := spInit (X i).K fs) (ds := []) (dvs := []) (T i).ox (T i).iC (T i).tI (T i).fn (hr i) (T i).bi .nil passL (hg i) (by rw [hM i]; exact gC) (h1 i) hdb (he i) (hpl i)
    rw [hK i] at this
    exact this), fun n ρ o eq F H σ T' D hR hP => ?_⟩
  have T0 := T i0
  unfold sRaiseI at eq
  cases q : fFzs f n ρ with
  | none => rw [q] at eq; cases eq
  | some r1 =>
    rw [q] at eq
    refine snd_fzs h2 n ρ r1 q F H σ T' _ hR ?_
    cases r1 with
    | ex x ρ' => cases eq; exact fun F' H' cls d s r xr => hP F' H' σ cls d s r (Kp.refl _) xr
    | ok ds ρ1 =>
      rw [bS_ok] at eq
      split at eq
      · rename_i hl
        cases eq
        intro F1 H1 vs s1 R1 r1
        have lv : vs.length = fs.length := by rw [r1.length]; exact hl.1
        refine ⟨by rw [r1.length]; exact Nat.le_trans hl.2 (by decide), fun a ha => ?_⟩
        rw [List.append_nil]
        refine ⟨a, C, vs, rfl, lv, by rw [← hK i0]; exact T0.ox, by rw [← hK i0]; exact T0.noF, upd_same, fun dx hd hne => ?_⟩
        have nda : H1 dx = none := by rw [upd_ne hne] at hd; exact hd
        refine ⟨rfl, dx, mkFs fs vs, upd_same, ?_, nda, ?_⟩
        · rw [upd_ne hne, upd_same]
        · have eH : upd (del (upd (upd (upd H1 a (exo a C none)) dx (exd dx (mkFs fs vs))) a (exo a C (some dx))) a) dx (.xd (mkFs fs vs)) = upd H1 dx (.xd (mkFs fs vs)) := by
            funext b
            by_cases hb : b = dx
            · subst hb; rw [upd_same, upd_same]
            · rw [upd_ne hb, upd_ne hb]
              by_cases hba : b = a
              · subst hba; rw [del_same]; exact ha.symm
              · rw [del_ne hba, upd_ne hba, upd_ne hb, upd_ne hba]
          rw [eH]
          obtain ⟨s2, q2⟩ := R1.hr.newF (o := .xd (mkFs fs vs)) nda
          exact hP _ _ σ (.ref C) (some dx) (s1.trans s2) ⟨q2, R1.ok⟩ (Kp.refl _) ⟨C, gC, rfl, .inr ⟨dx, _, rfl, upd_same, (mkFs_rp fs r1).mono s2⟩⟩
      · cases eq
end
/-! ### the __init__s -/
section
variable {P : Program} {w : World} {K : PySem.W.Frag} {mg : Str → Option Value} {base : Heap}
theorem init1_ok {qual : Str} {st : Stmt} {f : Addr} {fd : FuncData} {fn : Str} {p1 p2 p3 p4 : Pos} (F : Fun K "__init__" qual st f fd) (S : FnScope ["self", fn] ["self", fn] (defScope st)) (hb : defBody st = [.Assign [.Attribute (.Name "self" p1) fn p2] (.Name fn p3) p4])
    (v0 : Vis (defScope st) "self") (v1 : Vis (defScope st) fn) (hd : (fn == ("__debug__" : Str)) = false) (hcd : (fn == ("__classdict__" : Str)) = false) : FnOk P w K mg base (L2.CX P w) 1 f fd ["self", fn] (spInit K [fn]) := by
  refine F.okX S (fun vs H Q E h => ?_) fun cdv A outer s H vs Q E hr h => ?_
  · obtain ⟨a, C, ws, rfl, l, _⟩ := h
    exact congrArg (· + 1) l
  · obtain ⟨a, C, ws, rfl, l, T, no, ha, q⟩ := h
    obtain ⟨y, rfl⟩ : ∃ y, ws = [y] := by
      match ws, l with
      | [y], _ => exact ⟨y, rfl⟩
    rw [hb]
    refine ⟨_, pss_one (ps_ost (pe_var (i := 0) rfl v0) (pe_var (i := 1) rfl v1 hd hcd)), ?_⟩
    exact ⟨y, rfl, .ref a, rfl, a, C, rfl, T, no fn List.mem_cons_self, .inl ⟨ha, fun dx h1 h2 => q dx h1 h2⟩⟩
theorem init2_ok {qual : Str} {st : Stmt} {f : Addr} {fd : FuncData} {fn gn : Str} {p1 p2 p3 p4 q1 q2 q3 q4 : Pos} (F : Fun K "__init__" qual st f fd) (S : FnScope ["self", fn, gn] ["self", fn, gn] (defScope st)) (hb : defBody st = [.Assign [.Attribute (.Name "self" p1) fn p2] (.Name fn p3) p4, .Assign [.Attribute (.Name "self" q1) gn q2] (.Name gn q3) q4])
    (v0 : Vis (defScope st) "self") (v1 : Vis (defScope st) fn) (v2 : Vis (defScope st) gn) (hd : (fn == ("__debug__" : Str)) = false) (hcd : (fn == ("__classdict__" : Str)) = false) (hd2 : (gn == ("__debug__" : Str)) = false) (hcd2 : (gn == ("__classdict__" : Str)) = false) : FnOk P w K mg base (L2.CX P w) 1 f fd ["self", fn, gn] (spInit K [fn, gn]) := by
  refine F.okX S (fun vs H Q E h => ?_) fun cdv A outer s H vs Q E hr h => ?_
  · obtain ⟨a, C, ws, rfl, l, _⟩ := h
    exact congrArg (· + 1) l
  · obtain ⟨a, C, ws, rfl, l, T, no, ha, q⟩ := h
    obtain ⟨y, z, rfl⟩ : ∃ y z, ws = [y, z] := by
      match ws, l with
      | [y, z], _ => exact ⟨y, z, rfl⟩
    rw [hb]
    refine ⟨_, pss_cons (ps_ost (pe_var (i := 0) rfl v0) (pe_var (i := 1) rfl v1 hd hcd)) (pss_one (ps_ost (pe_var (i := 0) rfl v0) (pe_var (i := 2) rfl v2 hd2 hcd2))), ?_⟩
    refine ⟨y, rfl, .ref a, rfl, a, C, rfl, T, no fn List.mem_cons_self, .inl ⟨ha, fun dx h1 h2 => ?_⟩⟩
    refine ⟨z, rfl, .ref a, rfl, a, C, rfl, T, no gn (List.mem_cons_of_mem _ List.mem_cons_self), .inr ⟨dx, [(fn, y)], upd_same, ?_, (by show (1:Nat) ≤ 900; decide), ?_⟩⟩
    · rw [upd_ne h2, upd_same]
    · have eH : upd (upd (upd H dx (exd dx [(fn, y)])) a (exo a C (some dx))) dx (exd dx [(gn, z), (fn, y)]) = upd (upd H dx (exd dx (mkFs [fn, gn] [y, z]))) a (exo a C (some dx)) := by
        funext b
        by_cases hb : b = dx
        · subst hb; rw [upd_same, upd_ne h2, upd_same]; rfl
        · rw [upd_ne hb]
          by_cases hba : b = a
          · subst hba; rw [upd_same, upd_same]
          · rw [upd_ne hba, upd_ne hb, upd_ne hba, upd_ne hb]
      rw [eH]
      exact q dx h1 h2
end

/-! ### isinstance(x, T), T built-in -/
def tyD : D → Option String
  | .none => some "NoneType"
  | .bool _ => some "bool"
  | .int _ => some "int"
  | .str _ => some "str"
  | .list _ => some "list"
  | .tuple _ => some "tuple"
  | .dict _ => some "dict"
theorem ty_of {K : PySem.W.Frag} {H : Hp} {v : V} {d : D} (h : Rp K H v d) : ∃ T, tyD d = some T ∧ TyX K H v (.type T) := by
  cases h with
  | non => exact ⟨_, rfl, .base .non⟩
  | bl b => exact ⟨_, rfl, .base (.bl b)⟩
  | int b => exact ⟨_, rfl, .base (.int b)⟩
  | str b => exact ⟨_, rfl, .base (.str b)⟩
  | lst h r =>
    rcases h with (h | ⟨o, h⟩) | ⟨o, its, n, h1, h2, _⟩
    · exact ⟨_, rfl, .base (.lst h)⟩
    · exact ⟨_, rfl, .base (.frz h)⟩
    · exact ⟨_, rfl, .kList h1 h2⟩
  | tup h r =>
    rcases h.T with (h | ⟨o, h⟩) | ⟨o, its, n, h1, h2, _⟩
    · exact ⟨_, rfl, .base (.tup h)⟩
    · exact ⟨_, rfl, .fTuple h⟩
    · exact ⟨_, rfl, .kTuple h1 h2⟩
  | dct h r => exact ⟨_, rfl, .base (.dK h)⟩
def isiD (T : String) (d : D) : Option Bool := match tyD d with
  | some S => kitB S T
  | none => none
section
variable {ι : Type} {G : Gd} {X : ι → Cx} {W : WX} {e : Expr} {es : List Expr} {pos : Pos}
def fIsi (T : String) (f : Fn Bv) : Fn Cl := fun n ρ => bnd (fFz f n ρ) fun c ρ1 => match c with
  | .fz d => match isiD T d with
    | some b => some (.ok (.fz (.bool b)) ρ1)
    | none => none
  | _ => none
/-- the second argument is a built-in class by its name -/
theorem xe_isi {T : String} {x : Str} {p p2 : Pos} {f : Fn Bv} (hK : ∀ i, (X i).K = G.K) (hg : ∀ i, Gl (X i) "isinstance") (hm : ∀ i, (X i).mg "isinstance" = none) (hgT : ∀ i, Gl (X i) x) (hmT : ∀ i, (X i).mg x = none) (hv : bootBuiltins x = some (.type T)) (hx : x ≠ "__name__") (hxd : (x == ("__debug__" : Str)) = false) (ha : XB G X W e f)
    (hs1 : ∀ i, starEach [e, .Name x p2] (X i).env = (false, eval e (X i).env) :: starEach [.Name x p2] (X i).env) (hs2 : ∀ i, starEach [.Name x p2] (X i).env = (false, eval (.Name x p2) (X i).env) :: starEach [] (X i).env) (hpl : ∀ i, (backTo pos (starEach [.Name x p2] (X i).env)).any (·.1) = false) :
    XE G X W (.Call (.Name "isinstance" p) [e, .Name x p2] [] pos) (fIsi T f) := by
  obtain ⟨t, h1, h2⟩ := ha
  refine ⟨_, fun i => by
    have := pe_callB (x := "isinstance") (p := p) (pos := pos) call_isi (hg i) (hm i) (by decide +kernel) (pa_cons (h1 i) (pa_cons (pe_bltn (v := .ty T) (hgT i) (hmT i) hv rfl hx hxd) pa_nil (hs2 i)) (hs1 i)) (by decide) (by decide) (hs1 i) (hpl i)
    rw [hK i] at this
    exact this, fun n ρ r eq F H σ T' Q hR hP => ?_⟩
  unfold fIsi at eq
  cases q : fFz f n ρ with
  | none => rw [q] at eq; cases eq
  | some r1 =>
    rw [q] at eq
    refine snd_fz h2 n ρ r1 q F H σ T' _ hR ?_
    cases r1 with
    | ex x ρ' => cases eq; exact hP
    | ok c ρ1 =>
      rw [bnd_ok] at eq
      intro F1 H1 v s1 R1
      split at eq
      · rename_i d
        split at eq
        · rename_i b qb
          cases eq
          obtain ⟨S, q1, q2⟩ := ty_of (R1.rp.mono R1.sub)
          unfold isiD at qb
          rw [q1] at qb
          exact ⟨v, .ty T, _, _, b, rfl, .ty T, q2, kit_ty qb, hP F1 H1 _ s1 (R1.tail.push (.bl b))⟩
        · cases eq
      · cases eq
end

/-! ### slices -/
section
variable {X : Cx}
def cutD {α : Type} (xs : List α) (lo hi : Option Int) : List α := (xs.drop (HT.sIx xs.length 0 lo)).take (HT.sIx xs.length xs.length hi - HT.sIx xs.length 0 lo)
def rSlA (K : PySem.W.Frag) : V → Option Int → Option Int → Hp → VK → Prop := fun x lo hi H Q => rSlL K x lo hi H Q ∨ rSlT K x lo hi H Q ∨ rSlS x lo hi H Q
theorem sl_any : SlR X (rSlA X.K) := sl_list.or (sl_tup.or sl_str)
theorem cut_rp {K : PySem.W.Frag} {F : Hp} {vs : List V} {ds : List D} (r : RpA K F vs ds) (lo hi : Option Int) : RpA K F (cutV vs lo hi) (cutD ds lo hi) := by
  unfold cutV cutD
  rw [r.length]
  exact (r.drop _).take _
end
def asO (d : Option D) : Option (Option Int) := match d with
  | none => some none
  | some (.int i) => some (some i)
  | _ => none
def gSl (lo hi : Option Int) (c : Cl) : Option Cl := match c.data with
  | some (.list ds) => some (.lst (cutD ds lo hi))
  | some (.tuple ds) => if HT.sIx ds.length 0 lo = 0 ∧ HT.sIx ds.length ds.length hi = ds.length then none else some (.fz (.tuple (cutD ds lo hi)))
  | some (.str z) => if z.length ≤ 10000000 then some (.fz (.str (cutS z lo hi))) else none
  | _ => none
section
variable {ι : Type} {G : Gd} {X : ι → Cx} {W : WX} {e l u : Expr} {pos p2 : Pos}
theorem sl_go {F H : Hp} {L : List (Cl × V)} {c c' : Cl} {v : V} {lo hi : Option Int} {Q : VK} (hr : G.HR F H L) (hc : ∃ A, G.CR F H c v A) (e : gSl lo hi c = some c') (hQ : ∀ F' H' v, Same F F' → G.HR F' H' ((c', v) :: L) → Q v H') : rSlA G.K v lo hi H Q := by
  obtain ⟨A, h1⟩ := hc
  unfold gSl at e
  split at e
  · rename_i ds q
    cases e
    obtain ⟨a, ws, rfl, q1, r1⟩ := h1.seqL hr.sub q
    exact .inl ⟨_, _, rfl, q1, fun p hp => hQ F _ _ (Same.refl _) (HR.lstN hr hp (cut_rp r1 lo hi))⟩
  · rename_i ds q
    obtain ⟨a, ws, rfl, q1, r1⟩ := h1.seqT hr.sub q
    split at e
    · cases e
    · rename_i hn
      cases e
      refine .inr (.inl ⟨_, _, rfl, sameT hr.sub q1, by rw [r1.length]; exact hn, fun p hp => ?_⟩)
      obtain ⟨F', s, q⟩ := HR.tupN hr hp (cut_rp r1 lo hi)
      exact hQ F' _ _ s q
  · rename_i z q
    have r := h1.rp hr.sub q
    cases r
    split at e
    · rename_i hz
      cases e
      exact .inr (.inr ⟨_, rfl, by rw [sizeLine_eq]; omega, hQ F H _ (Same.refl _) (hr.push (.str _))⟩)
    · cases e
  · cases e
/-- e[l:] -/
def fSlL (f g : Fn Bv) : Fn Cl := fun n ρ => bnd (f n ρ) fun b ρ1 => bnd (fFz g n ρ1) fun c ρ2 => match c, lk ρ2 b with
  | .fz (.int i), some cb => match gSl (some i) none cb with
    | some c' => some (.ok c' ρ2)
    | none => none
  | _, _ => none
/-- e[:u] -/
def fSlU (f g : Fn Bv) : Fn Cl := fun n ρ => bnd (f n ρ) fun b ρ1 => bnd (fFz g n ρ1) fun c ρ2 => match c, lk ρ2 b with
  | .fz (.int i), some cb => match gSl none (some i) cb with
    | some c' => some (.ok c' ρ2)
    | none => none
  | _, _ => none
theorem sl_one {t tu : TE} {f g : Fn Bv} (h : SndB G W t f) (h' : SndB G W tu g) (n : Nat) (ρ : En) (r : Rz Cl) {k : Int → Option Int × Option Int}
    (eq : (bnd (f n ρ) fun b ρ1 => bnd (fFz g n ρ1) fun c ρ2 => match c, lk ρ2 b with
      | .fz (.int i), some cb => match gSl (k i).1 (k i).2 cb with
        | some c' => some (.ok c' ρ2)
        | none => none
      | _, _ => none) = some r) (F H : Hp) (σ : L2.St) (T : List (Cl × V)) (Q : VK) (hR : G.R F H ρ σ T) (hP : PoE G W F σ T Q r) :
    t σ H fun x H1 => tu σ H1 fun y H2 => ∃ i, y = .int i ∧ rSlA G.K x (k i).1 (k i).2 H2 Q := by
  cases q : f n ρ with
  | none => rw [q] at eq; cases eq
  | some r1 =>
    rw [q] at eq
    refine h n ρ r1 q F H σ T _ hR ?_
    cases r1 with
    | ex x ρ' => cases eq; exact hP
    | ok b ρ1 =>
      rw [bnd_ok] at eq
      intro F1 H1 v s1 R1 v1
      cases q2 : fFz g n ρ1 with
      | none => rw [q2] at eq; cases eq
      | some r2 =>
        rw [q2] at eq
        refine snd_fz h' n ρ1 r2 q2 F1 H1 σ _ _ R1 ?_
        cases r2 with
        | ex x ρ' => cases eq; exact PoX.dropT hP s1
        | ok c ρ2 =>
          rw [bnd_ok] at eq
          intro F2 H2 y s2 R2
          split at eq
          · rename_i i cb qb
            split at eq
            · rename_i c' qc
              cases eq
              have ry := R2.rp
              cases ry
              have cr := bv_cr (b := b) (v := v) R2.tail (fun x hx => by
                cases b with
                | pl j => cases hx
                | vl c0 => rw [List.mem_singleton.mp hx]; exact List.mem_cons_self) v1 qb
              have R3 : G.R F2 H2 ρ2 σ T := bvT_drop b v R2.tail
              exact ⟨i, rfl, sl_go R3.hr cr qc fun F' H' v' s' h' => hP F' H' v' ((s1.trans s2).trans s') (.mk' h' R3.ok)⟩
            · cases eq
          · cases eq
theorem xe_slL {f g : Fn Bv} (hK : ∀ i, (X i).K = G.K) (h : XB G X W e f) (h' : XB G X W l g) : XE G X W (.Subscript e (.Slice (some l) none none p2) pos) (fSlL f g) := by
  obtain ⟨t, a1, a2⟩ := h
  obtain ⟨tu, b1, b2⟩ := h'
  refine ⟨_, fun i => by have := pe_slice (X := X i) (pos := pos) (p2 := p2) sl_any (a1 i) (po_some (b1 i)) po_none; rw [hK i] at this; exact this, fun n ρ r eq F H σ T Q hR hP => ?_⟩
  exact sl_one a2 b2 n ρ r (k := fun i => (some i, none)) eq F H σ T Q hR hP
theorem xe_slU {f g : Fn Bv} (hK : ∀ i, (X i).K = G.K) (h : XB G X W e f) (h' : XB G X W u g) : XE G X W (.Subscript e (.Slice none (some u) none p2) pos) (fSlU f g) := by
  obtain ⟨t, a1, a2⟩ := h
  obtain ⟨tu, b1, b2⟩ := h'
  refine ⟨_, fun i => by have := pe_slice (X := X i) (pos := pos) (p2 := p2) sl_any (a1 i) po_none (po_some (b1 i)); rw [hK i] at this; exact this, fun n ρ r eq F H σ T Q hR hP => ?_⟩
  exact sl_one a2 b2 n ρ r (k := fun i => (none, some i)) eq F H σ T Q hR hP
end
/-! ### stars in displays -/
section
variable {ι : Type} {G : Gd} {X : ι → Cx} {W : WX} {e : Expr} {es : List Expr} {pos : Pos}
/-- display items: frozen data, a star's items spliced -/
def XDs (G : Gd) (X : ι → Cx) (W : WX) (es : List Expr) (f : Fn (List D)) : Prop := ∃ t : TA, (∀ i, PA (X i) es t) ∧ ∀ n ρ r, f n ρ = some r → ∀ F H σ T Q, G.R F H ρ σ T → PoFs G W F σ T Q r → t σ H Q
def dNil : Fn (List D) := fun _ ρ => some (.ok [] ρ)
def dCons (f : Fn Bv) (g : Fn (List D)) : Fn (List D) := fun n ρ => bnd (fFz f n ρ) fun c ρ1 => match c with
  | .fz d => bnd (g n ρ1) fun ds ρ2 => some (.ok (d :: ds) ρ2)
  | _ => none
def dStar (f : Fn Bv) (g : Fn (List D)) : Fn (List D) := fun n ρ => bnd (fFz f n ρ) fun c ρ1 => match c with
  | .fz d => match asSeq d with
    | some xs => bnd (g n ρ1) fun ds ρ2 => some (.ok (xs ++ ds) ρ2)
    | none => none
  | _ => none
theorem xds_nil : XDs G X W [] dNil := ⟨_, fun _ => pa_nil, fun n ρ r e F H σ T Q hR hP => by
  cases e
  exact hP F H [] (Same.refl _) hR .nil⟩
theorem xds_cons {f : Fn Bv} {g : Fn (List D)} (h : XB G X W e f) (h' : XDs G X W es g) (hs : ∀ i, starEach (e :: es) (X i).env = (false, eval e (X i).env) :: starEach es (X i).env) : XDs G X W (e :: es) (dCons f g) := by
  obtain ⟨t, a1, a2⟩ := h
  obtain ⟨u, b1, b2⟩ := h'
  refine ⟨_, fun i => pa_cons (a1 i) (b1 i) (hs i), fun n ρ r eq F H σ T Q hR hP => ?_⟩
  unfold dCons at eq
  cases q : fFz f n ρ with
  | none => rw [q] at eq; cases eq
  | some r1 =>
    rw [q] at eq
    refine snd_fz a2 n ρ r1 q F H σ T _ hR ?_
    cases r1 with
    | ex x ρ' => cases eq; exact hP
    | ok c ρ1 =>
      rw [bnd_ok] at eq
      intro F1 H1 v s1 R1
      split at eq
      · rename_i d
        have rv := R1.rp
        cases q2 : g n ρ1 with
        | none => rw [q2] at eq; cases eq
        | some r2 =>
          rw [q2] at eq
          refine b2 n ρ1 r2 q2 F1 H1 σ T _ R1.tail ?_
          cases r2 with
          | ex x ρ' => cases eq; exact PoX.mono hP s1
          | ok ds ρ2 =>
            cases eq
            exact fun F2 H2 vs s2 R2 r2 => hP F2 H2 _ (s1.trans s2) R2 (.cons (rv.mono s2) r2)
      · cases eq
theorem xds_star {f : Fn Bv} {g : Fn (List D)} {p : Pos} (hK : ∀ i, (X i).K = G.K) (h : XB G X W e f) (h' : XDs G X W es g) (hp : ∀ t u, (∀ i, PE (X i) e t) → (∀ i, PA (X i) es u) → ∀ i, PA (X i) (.Starred e p :: es) (fun σ H Q => t σ H fun x H1 => ∃ p xs, x = V.ref p ∧ (SqT (X i).K H1 p xs ∨ SqL (X i).K H1 p xs) ∧ u σ H1 fun ys H2 => Q (xs ++ ys) H2)) : XDs G X W (.Starred e p :: es) (dStar f g) := by
  obtain ⟨t, a1, a2⟩ := h
  obtain ⟨u, b1, b2⟩ := h'
  refine ⟨_, fun i => by have := hp t u a1 b1 i; rw [hK i] at this; exact this, fun n ρ r eq F H σ T Q hR hP => ?_⟩
  unfold dStar at eq
  cases q : fFz f n ρ with
  | none => rw [q] at eq; cases eq
  | some r1 =>
    rw [q] at eq
    refine snd_fz a2 n ρ r1 q F H σ T _ hR ?_
    cases r1 with
    | ex x ρ' => cases eq; exact hP
    | ok c ρ1 =>
      rw [bnd_ok] at eq
      intro F1 H1 v s1 R1
      split at eq
      · rename_i d
        have rv := R1.rp
        have fin : ∀ {xs : List D} {vs : List V} {a : Addr}, v = .ref a → (SqT G.K H1 a vs ∨ SqL G.K H1 a vs) → RpA G.K F1 vs xs → (bnd (g n ρ1) fun ds ρ2 => some (.ok (xs ++ ds) ρ2)) = some r → ∃ p ys, v = V.ref p ∧ (SqT G.K H1 p ys ∨ SqL G.K H1 p ys) ∧ u σ H1 fun zs H2 => Q (ys ++ zs) H2 := fun {xs vs a} ev hs rr eq => by
          refine ⟨a, vs, ev, hs, ?_⟩
          cases q2 : g n ρ1 with
          | none => rw [q2] at eq; cases eq
          | some r2 =>
            rw [q2] at eq
            refine b2 n ρ1 r2 q2 F1 H1 σ T _ R1.tail ?_
            cases r2 with
            | ex x ρ' => cases eq; exact PoX.mono hP s1
            | ok ds ρ2 =>
              cases eq
              exact fun F2 H2 vs s2 R2 r2 => hP F2 H2 _ (s1.trans s2) R2 ((rr.mono s2).append r2)
        cases rv with
        | lst h r => exact fin rfl (.inr (R1.sub.seq h)) r eq
        | tup h r => exact fin rfl (.inl (sameT R1.sub h)) r eq
        | _ => cases eq
      · cases eq
def fLstD (f : Fn (List D)) : Fn Cl := fun n ρ => bnd (f n ρ) fun ds ρ1 => if lsz ds.length = true then some (.ok (.lst ds) ρ1) else none
def fTupD (f : Fn (List D)) : Fn Cl := fun n ρ => bnd (f n ρ) fun ds ρ1 => if lsz ds.length = true then some (.ok (.fz (.tuple ds)) ρ1) else none
theorem xe_lstD {f : Fn (List D)} (h : XDs G X W es f) : XE G X W (.List es pos) (fLstD f) := by
  obtain ⟨t, a1, a2⟩ := h
  refine ⟨_, fun i => pe_lst (a1 i), fun n ρ r eq F H σ T Q hR hP => ?_⟩
  unfold fLstD at eq
  cases q : f n ρ with
  | none => rw [q] at eq; cases eq
  | some r1 =>
    rw [q] at eq
    refine a2 n ρ r1 q F H σ T _ hR ?_
    cases r1 with
    | ex x ρ' => cases eq; exact hP
    | ok ds ρ1 =>
      rw [bnd_ok] at eq
      split at eq
      · rename_i hz
        cases eq
        exact fun F1 H1 vs s1 R1 r1 => ⟨by rw [r1.length]; exact lsz_ok hz, fun p hp => hP _ _ _ s1 (R.newLst R1 hp r1)⟩
      · cases eq
theorem xe_tupD {f : Fn (List D)} {k : Nat} (h : XDs G X W es f) : XE G X W (.Tuple es k pos) (fTupD f) := by
  obtain ⟨t, a1, a2⟩ := h
  refine ⟨_, fun i => pe_tup (a1 i), fun n ρ r eq F H σ T Q hR hP => ?_⟩
  unfold fTupD at eq
  cases q : f n ρ with
  | none => rw [q] at eq; cases eq
  | some r1 =>
    rw [q] at eq
    refine a2 n ρ r1 q F H σ T _ hR ?_
    cases r1 with
    | ex x ρ' => cases eq; exact hP
    | ok ds ρ1 =>
      rw [bnd_ok] at eq
      split at eq
      · rename_i hz
        cases eq
        exact fun F1 H1 vs s1 R1 r1 => ⟨by rw [r1.length]; exact lsz_ok hz, fun p hp => let ⟨s2, R2⟩ := R.newTup R1 hp r1; hP _ _ _ (s1.trans s2) R2⟩
      · cases eq
end
end L3

set_option maxHeartbeats 1000000
namespace L2
open PySem PySem.Spec PyProof.Rows
/-- isinstance(e, c), e the exception that the suite holds; its dict may stand -/
def rIsF (K : PySem.W.Frag) (D : Addr) (d : Option Addr) (a : Addr) : List V → Hp → VK → Prop := fun xs H Q => ∃ (c : V) (cv : Value) (b : Bool), xs = [.ref a, c] ∧ (∀ u, RelV c u → u = cv) ∧ PySem.W.kitOne K (.ref D) cv = some b ∧ (d = none ∨ ∃ dd fs, d = some dd ∧ H dd = some (.xd fs)) ∧ Q (.bl b) H
/-! ### an exception of the body that has come to the handlers of this frame -/
/-- it flies over B; here the invariant holds, and it is no object of ours -/
structure Cau (X : Cx) (B : Heap) (pins : List (Addr × Obj)) (σ : St) (H : Hp) (a : Addr) (cls : Value) (d : Option Addr) (t : Shared) : Prop where
  inv : Inv X pins σ H t
  fly : HandSPX.FlyingZ B (X.env :: X.outer) a (Zc cls d) t.heap
  na : H a = none
section
variable {X : Cx} {B : Heap} {pins : List (Addr × Obj)} {σ : St} {H : Hp} {a : Addr} {cls : Value} {d : Option Addr} {t : Shared}
/-- it is none of the frames that stand -/
theorem Cau.off (C : Cau X B pins σ H a cls d t) : a ∉ frs (X.env :: X.outer) := fun hm => by
  have ⟨_, _, e, _, dd⟩ := C.fly.there
  have ⟨_, _, e', no⟩ := C.fly.2.2.1.mem hm
  cases e.symm.trans e'
  exact no _ dd
theorem Cau.offL (C : Cau X B pins σ H a cls d t) (hf : X.env.frame = some X.env.locals) : a ≠ X.env.locals := fun z =>
  C.off (by rw [z]; unfold frs; rw [List.filterMap_cons, hf]; exact List.mem_cons_self)
theorem Cau.offF (C : Cau X B pins σ H a cls d t) : a ∉ X.fs := fun hm => C.off (by unfold Cx.fs at hm; unfold frs at hm ⊢; cases q : X.env.frame with | none => rw [List.filterMap_cons, q]; exact hm | some f => rw [List.filterMap_cons, q]; exact List.mem_cons_of_mem _ hm)
/-- inside the suite of a clause that takes it -/
theorem Cau.open_ (C : Cau X B pins σ H a cls d t) (hf : X.env.frame = some X.env.locals) : ∃ oe, t.heap.get? a = some oe ∧ Zc cls d oe ∧ (∃ vs, oe.data = .fields vs) ∧ Inv (X.suite a ((a, oe) :: (X.pn ++ pins))) [] σ H t := by
  have ⟨oe, vs, e, z, dd⟩ := C.fly.there
  exact ⟨oe, e, z, ⟨vs, dd⟩, C.inv.suite e dd C.na (C.offL hf) C.offF⟩
end
theorem call_isF {X : Cx} {a D : Addr} {d : Option Addr} {oe : Obj} {pn : List (Addr × Obj)} (C : L3.EcK X.K D) (hz : Zc (.ref D) d oe) (hf : ∃ vs, oe.data = .fields vs) : CallR (X.suite a ((a, oe) :: pn)) (.builtin "isinstance") (rIsF X.K D d a) := by
  rintro pins s σ H _ us Q I rel ⟨c, cv, b, rfl, only, kit, d0, q⟩
  cases rel with | cons rx rel => ?_
  cases rel with | cons rt rel => ?_
  cases rel; cases rx
  cases only _ rt
  have at_ := (I.pin (a, oe) (.head _)).1
  have nc : PySem.W.notCls oe := hf.elim fun _ e => by unfold PySem.W.notCls; rw [e] <;> rfl
  have ⟨_, J⟩ : ∃ od, PySem.W.InstAt s.heap a oe D od := by
    rcases d0 with e | ⟨dx, fs, e, xd⟩
    · exact ⟨none, at_, hz.1, nc, by rw [hz.2, e]; trivial⟩
    · have ⟨m, ns, _⟩ : ObjOk X.prog X.w H s.heap dx (.xd fs) := I.hok dx _ xd
      exact (lookIn_ns ns).imp' some fun od w => ⟨at_, hz.1, nc, by rw [hz.2, e]; exact w.1⟩
  exact PySem.W.kia_one (PySem.W.kitx_exc C.cl C.ga C.gg C.sub C.ac C.sp C.tk C.mr) I.kIn J kit (fun z => nomatch z) fun tk => ⟨.bl b, H, I.kept (t' := tk) fun _ _ z => z, rfl, q⟩
/-! ### several clauses, each 'except c as n' -/
/-- the ends seen through the going of slot i -/
def Ends.gone (D : Ends) (i : Nat) : Ends := { nx := fun σ' H' => D.nx (σ'.set i none) H', rt := D.rt, bk := fun σ' H' => D.bk (σ'.set i none) H', ct := fun σ' H' => D.ct (σ'.set i none) H' }
def wManyAs (K : PySem.W.Frag) (i : Nat) (Wout : WX) (D : Ends) : List (Value × (Addr → Value → Option Addr → TS)) → WX
  | [] => Wout
  | (c, ts) :: r => fun cls d σ H => ∃ b, PySem.W.exmOne K cls c = some b ∧ (b = true → ∀ a, H a = none → ts a cls d (D.gone i) (σ.set i (some (.ref a))) H) ∧ (b = false → wManyAs K i Wout D r cls d σ H)
inductive HdsAs (X : Cx) (n : Str) : List ExceptHandler → List (Value × (Addr → Value → Option Addr → TS)) → Prop
  | nil : HdsAs X n [] []
  | cons {x : Str} {c : Value} {ts : Addr → Value → Option Addr → TS} {b₀ : Stmt} {suite : List Stmt} {np pos' : Pos} {hds : List ExceptHandler} {l : List (Value × (Addr → Value → Option Addr → TS))} (hc : Names X x c)
      (hsu : ∀ (a : Addr) (oe : Obj) (cls : Value) (d : Option Addr) (pn : List (Addr × Obj)), Zc cls d oe → (∃ vs, oe.data = .fields vs) → PSs (X.suite a ((a, oe) :: pn)) (b₀ :: suite) (ts a cls d)) (r : HdsAs X n hds l) :
      HdsAs X n (.ExceptHandler (some (.Name x np)) (some n) (b₀ :: suite) pos' :: hds) ((c, ts) :: l)
section
variable {X : Cx} {n : Str} {i : Nat} {body : List Stmt} {h₀ : ExceptHandler} {hds : List ExceptHandler} {l : List (Value × (Addr → Value → Option Addr → TS))} {pos : Pos} {tb : WX → TS} {Wout : WX}
/-- the clauses, one after the other, at a caught one: each is one of the library's clause rules -/
theorem clauses_ok {B : Heap} {pins : List (Addr × Obj)} {σ : St} {H : Hp} {a : Addr} {cls : Value} {d : Option Addr} {D : Ends} (hf : X.env.frame = some X.env.locals) (hN : X.N.Nodup) (hi : X.N[i]? = some n) (hln : X.env.kindOf n = some .local)
    {hds : List ExceptHandler} {l : List (Value × (Addr → Value → Option Addr → TS))} (hk : HdsAs X n hds l) :
    ∀ {t : Shared}, Cau X B pins σ H a cls d t → (∀ h', HandSPX.FlyingZ B (X.env :: X.outer) a (Zc cls d) h' → t.heap.UpToSlots h' → Cau X B pins σ H a cls d { t with heap := h' }) →
      (∀ h', HandSPX.HeldZ B (X.env :: X.outer) a (Zc cls d) X.env.locals h' → t.heap.UpToSlots h' → Wout cls d σ H → X.xe (.ref a) { t with heap := h' }) →
      wManyAs X.K i Wout D l cls d σ H → wpAny (model X.prog X.w) X.A (handleBy (.ref a) X.env hds) (SP X pins D) X.xe t := by
  induction hk with
  | nil => exact fun C _ out w => PX.no_clauseZ hf C.fly fun h' hh up => out h' hh up w
  | @cons x c ts b₀ suite np pos' hds2 l2 hc hsu _ ih =>
    intro t C again out ⟨b, hm, yes, no⟩
    have ⟨oe, _, _, _, S⟩ := C.open_ hf
    have test : ∀ {Q : Value → Shared → Prop} {E : Value → Shared → Prop}, Q c t → wpAny (model X.prog X.w) (X.A.mark (some (.ref a))) (eval (.Name x np) X.env) Q E t := fun q => by
      rcases hc with ⟨hg, hdb, hm | ⟨hm, hv, hn⟩⟩
      · exact ld_glob S hg hm q hdb
      · exact ld_blt S hg hm hv q hn hdb
    cases b with
    | false => exact PX.clause_passZ C.inv.kIn (fun _ z => z.1) C.fly hm test (ih C again out (no rfl))
    | true =>
      refine PX.clause_asZ C.inv.kIn (fun _ z => z.1) C.fly hm test fun h' fl up => ?_
      have ⟨oe, _, z, dd, S⟩ := (again h' fl up).open_ hf
      refine store_ok (X := X.suite a ((a, oe) :: (X.pn ++ pins))) S hN hi (.inl hln) (v := .ref a) rfl (fun s5 S5 => wpAny_mono ((hsu a oe cls d _ z dd).run [] s5 _ H _ S5 (yes rfl a C.na)) (fun f s6 e => ?_) fun _ _ z => z.elim) (.inr hln)
      cases f with
      | ret u => have ⟨v, σ', H', S6, r, q⟩ := e; exact gone_ok (S6.unsuite C.inv.ok) hN hi hln fun _ J => ⟨v, _, _, J, r, q⟩
      | next => have ⟨σ', H', S6, q⟩ := e; exact gone_ok (S6.unsuite C.inv.ok) hN hi hln fun _ J => ⟨_, _, J, q⟩
      | brk => have ⟨σ', H', S6, q⟩ := e; exact gone_ok (S6.unsuite C.inv.ok) hN hi hln fun _ J => ⟨_, _, J, q⟩
      | cont => have ⟨σ', H', S6, q⟩ := e; exact gone_ok (S6.unsuite C.inv.ok) hN hi hln fun _ J => ⟨_, _, J, q⟩
theorem ps_try_manyAs (hs : X.stack = X.env :: X.outer) (hf : X.env.frame = some X.env.locals) (hN : X.N.Nodup) (hi : X.N[i]? = some n) (hln : X.env.kindOf n = some .local) (tk : Takes X Wout)
    (hb : ∀ (W : WX) (pn : List (Addr × Obj)) (xe : Value → Shared → Prop), Takes (X.tr pn xe) W → PassesOwn (model X.prog X.w) X.A X.env xe → PSs (X.tr pn xe) body (tb W))
    (hh : HdsAs X n (h₀ :: hds) l) : PS X (.Try body (h₀ :: hds) [] [] pos) (fun D σ H => tb (wManyAs X.K i Wout D l) D σ H) where
  run pins s σ H D I h := by
    have ok := I.ok
    have fr : X.A.frames = some (X.env :: X.outer) := ok.frames.trans (congrArg some hs)
    refine wpAny_Try_except (wpAny_mono ((hb (wManyAs X.K i Wout D l) (X.pn ++ pins) _ ?_ PassesOwn.looking).run [] s σ H D (I.toTry _) h) ?_ fun _ _ he => he)
    · rintro u st ⟨a, B, sI, _, σ', H', cls, d, rfl, J, nb, up, sky, na, os, ag, w⟩
      have J := Inv.ofTry (pins := pins) J ok
      refine Sky.land Zc.steady fr hf (hs ▸ sky) fun h3 fl up3 => ?_
      have land : ∀ h', HandSPX.FlyingZ B (X.env :: X.outer) a (Zc cls d) h' → st.heap.UpToSlots h' → Cau X B pins σ' H' a cls d { st with heap := h' } := fun h' f u => ⟨J.landed nb f.1 (up.trans u) os ag, f, na⟩
      exact clauses_ok hf hN hi hln hh (land h3 fl up3) (fun h' f u => land h' f (up3.trans u)) (fun h' hd u w => tk _ _ ⟨a, B, sI, pins, σ', H', cls, d, rfl, J, nb, up.trans (up3.trans u), .inr (.inr (hs ▸ hd)), na, os, ag, w⟩) w
    · intro f st e
      cases f with
      | ret u => have ⟨v, σ', H', J, r, q⟩ := e; exact ⟨v, σ', H', J.ofTry ok, r, q⟩
      | next => have ⟨σ', H', J, q⟩ := e; exact wpAny_execs_nil ⟨σ', H', J.ofTry ok, q⟩
      | brk => have ⟨σ', H', J, q⟩ := e; exact ⟨σ', H', J.ofTry ok, q⟩
      | cont => have ⟨σ', H', J, q⟩ := e; exact ⟨σ', H', J.ofTry ok, q⟩
end
end L2
namespace L3
open PySem PySem.Spec L2
/-! ### an expression in an except suite: of the error x, e in slot i -/
section
variable {ι : Type} {G : Gd} {X : ι → Cx} {i : Nat} {n : Str}
def SE (G : Gd) (X : ι → Cx) (i : Nat) (e : Expr) (f : Ex → Option Cl) : Prop :=
  ∃ t : Addr → Value → Option Addr → TE, (∀ j a oe cls d pn, Zc cls d oe → (∃ vs, oe.data = .fields vs) → PE ((X j).suite a ((a, oe) :: pn)) e (t a cls d)) ∧
    ∀ a cls d x c F H ρ σ T (Q : VK), f x = some c → XR G F x cls d → σ[i]? = some (some (.ref a)) → G.R F H ρ σ T → (∀ F' H' v, Same F F' → G.R F' H' ρ σ ((c, v) :: T) → Q v H') → t a cls d σ H Q
/-- elements of a display: data, frozen -/
def SEs (G : Gd) (X : ι → Cx) (i : Nat) (es : List Expr) (f : Ex → Option (List D)) : Prop :=
  ∃ t : Addr → Value → Option Addr → TA, (∀ j a oe cls d pn, Zc cls d oe → (∃ vs, oe.data = .fields vs) → PA ((X j).suite a ((a, oe) :: pn)) es (t a cls d)) ∧
    ∀ a cls d x ds F H ρ σ T (Q : List V → Hp → Prop), f x = some ds → XR G F x cls d → σ[i]? = some (some (.ref a)) → G.R F H ρ σ T → (∀ vs, RpA G.K F vs ds → Q vs H) → t a cls d σ H Q
theorem se_str {s : Str} {k : Nat} {pos : Pos} : SE G X i (.Constant (.str s) k pos) (fun _ => some (.fz (.str s))) :=
  ⟨fun _ _ _ => tC (.str s), fun _ _ _ _ _ _ _ _ => pe_str, fun a cls d x c F H ρ σ T Q e _ _ hR hP => by
    cases e
    exact hP F H _ (Same.refl _) (hR.push (.str s))⟩
theorem lookup_ks {K : PySem.W.Frag} {F : Hp} {f : Str} : ∀ {fvs : List (Str × V)} {fs : List (Str × D)} {d : D}, RpKs K F fvs fs → fs.lookup f = some d → ∃ v, fvs.lookup f = some v ∧ Rp K F v d
  | _, _, d, .nil, e => by cases e
  | _, _, d, .cons (k := k) h r, e => by
    unfold List.lookup at e ⊢
    split at e
    · rename_i q
      cases e
      exact ⟨_, rfl, h⟩
    · rename_i q
      obtain ⟨v, h1, h2⟩ := lookup_ks r e
      exact ⟨v, h1, h2⟩

theorem XR.mono {F F' : Hp} {x : Ex} {cls : Value} {d : Option Addr} (h : XR G F x cls d) (e : Same F F') : XR G F' x cls d := by
  obtain ⟨C, h1, h2, h3⟩ := h
  refine ⟨C, h1, h2, ?_⟩
  rcases h3 with h3 | ⟨dd, fvs, h4, h5, h6⟩
  · exact .inl h3
  · exact .inr ⟨dd, fvs, h4, e _ _ h5, h6.mono e⟩
/-- e.f : cs the classes that have it -/
def seF (cs : List Str) (f : Str) : Ex → Option D := fun x => if cs.contains x.cls = true then x.fs.lookup f else none
def tE0 : TE := fun _ _ _ => False
theorem pe_no {Y : Cx} {e : Expr} : PE Y e tE0 := ⟨fun _ _ _ _ _ _ h => h.elim⟩
open Classical in
noncomputable def tFld (K : PySem.W.Frag) (i : Nat) (f : Str) (a : Addr) (cls : Value) (d : Option Addr) : TE :=
  if h : ∃ C, cls = .ref C ∧ XfC K C ∧ PySem.W.findIn K (.ref C) f = some none then tXf a cls d h.choose f (tVar i) else tE0
theorem pe_fld {j : ι} {a : Addr} {oe : Obj} {cls : Value} {d : Option Addr} {pn : List (Addr × Obj)} {f : Str} {p pos : Pos} (hn : ∀ j a oe pn, PE ((X j).suite a ((a, oe) :: pn)) (.Name n p) (tVar i)) (hK : ∀ j, (X j).K = G.K) (hz : Zc cls d oe) (hf : ∃ vs, oe.data = .fields vs)
    (hb : ∀ j, attributeBase (.Name n p) f (X j).env (eval (.Name n p) (X j).env) = eval (.Name n p) (X j).env) : PE ((X j).suite a ((a, oe) :: pn)) (.Attribute (.Name n p) f pos) (tFld G.K i f a cls d) := by
  unfold tFld
  split
  · rename_i h
    obtain ⟨h1, h2, h3⟩ := h.choose_spec
    have h2 : XfC (X j).K h.choose := by rw [hK j]; exact h2
    have h3 : PySem.W.findIn (X j).K (.ref h.choose) f = some none := by rw [hK j]; exact h3
    exact pe_xf h2 h3 hz hf (hn j a oe pn) (hb j)
  · exact pe_no
theorem snd_fld {cs : List Str} {f : Str} {a : Addr} {cls : Value} {d : Option Addr} {x : Ex} {dv : D} {F H : Hp} {ρ : En} {σ : L2.St} {T : List (Cl × V)} {Q : VK} (hC : ∀ c C, cs.contains c = true → G.mg c = some (.ref C) → XfC G.K C ∧ PySem.W.findIn G.K (.ref C) f = some none)
    (e : seF cs f x = some dv) (xr : XR G F x cls d) (hi : σ[i]? = some (some (.ref a))) (hR : G.R F H ρ σ T) (hP : ∀ v, Rp G.K F v dv → Q v H) : tFld G.K i f a cls d σ H Q := by
  unfold seF at e
  split at e
  · rename_i hc
    obtain ⟨C, h1, h2, h3⟩ := xr
    obtain ⟨k1, k2⟩ := hC _ C hc h1
    have ex : ∃ C, cls = .ref C ∧ XfC G.K C ∧ PySem.W.findIn G.K (.ref C) f = some none := ⟨C, h2, k1, k2⟩
    unfold tFld
    rw [dif_pos ex]
    obtain ⟨m1, m2, m3⟩ := ex.choose_spec
    rcases h3 with ⟨h4, _⟩ | ⟨dd, fvs, h4, h5, h6⟩
    · rw [h4] at e; cases e
    · obtain ⟨v, l, r⟩ := lookup_ks h6 e
      exact ⟨.ref a, hi, rfl, m1, dd, fvs, v, h4, hR.sub _ _ h5, l, hP v r⟩
  · cases e
theorem se_fld {cs : List Str} {f : Str} {p pos : Pos} (hn : ∀ j a oe pn, PE ((X j).suite a ((a, oe) :: pn)) (.Name n p) (tVar i)) (hK : ∀ j, (X j).K = G.K) (hC : ∀ c C, cs.contains c = true → G.mg c = some (.ref C) → XfC G.K C ∧ PySem.W.findIn G.K (.ref C) f = some none)
    (hb : ∀ j, attributeBase (.Name n p) f (X j).env (eval (.Name n p) (X j).env) = eval (.Name n p) (X j).env) : SE G X i (.Attribute (.Name n p) f pos) (fun x => (seF cs f x).map .fz) :=
  ⟨fun a cls d => tFld G.K i f a cls d, fun j a oe cls d pn hz hf => pe_fld hn hK hz hf hb, fun a cls d x c F H ρ σ T Q e xr hi hR hP => by
    dsimp only at e
    cases q : seF cs f x with
    | none => rw [q] at e; cases e
    | some dv =>
      rw [q] at e
      cases e
      exact snd_fld hC q xr hi hR fun v r => hP F H v (Same.refl _) (hR.push r)⟩
theorem ses_nil : SEs G X i [] (fun _ => some []) := ⟨fun _ _ _ => tNil, fun _ _ _ _ _ _ _ _ => pa_nil, fun a cls d x ds F H ρ σ T Q e _ _ hR hP => by
  cases e
  exact hP [] .nil⟩
theorem ses_fld {cs : List Str} {f : Str} {p pos : Pos} {es : List Expr} {g : Ex → Option (List D)} (hn : ∀ j a oe pn, PE ((X j).suite a ((a, oe) :: pn)) (.Name n p) (tVar i)) (hK : ∀ j, (X j).K = G.K) (hC : ∀ c C, cs.contains c = true → G.mg c = some (.ref C) → XfC G.K C ∧ PySem.W.findIn G.K (.ref C) f = some none)
    (hb : ∀ j, attributeBase (.Name n p) f (X j).env (eval (.Name n p) (X j).env) = eval (.Name n p) (X j).env) (hs : ∀ j, starEach (.Attribute (.Name n p) f pos :: es) (X j).env = (false, eval (.Attribute (.Name n p) f pos) (X j).env) :: starEach es (X j).env) (hr : SEs G X i es g) :
    SEs G X i (.Attribute (.Name n p) f pos :: es) (fun x => (seF cs f x).bind fun d => (g x).map (d :: ·)) := by
  obtain ⟨t, h1, h2⟩ := hr
  refine ⟨fun a cls d => tCons (tFld G.K i f a cls d) (t a cls d), fun j a oe cls d pn hz hf => pa_cons (pe_fld hn hK hz hf hb) (h1 j a oe cls d pn hz hf) (hs j), fun a cls d x ds F H ρ σ T Q e xr hi hR hP => ?_⟩
  dsimp only at e
  cases q : seF cs f x with
  | none => rw [q] at e; cases e
  | some dv =>
    rw [q] at e
    cases q2 : g x with
    | none => rw [q2] at e; cases e
    | some ds2 =>
      rw [q2] at e
      cases e
      exact snd_fld hC q xr hi hR fun v r => h2 a cls d x ds2 F H ρ σ T _ q2 xr hi hR fun vs rs => hP _ (.cons r rs)
theorem ses_str {s : Str} {k : Nat} {pos : Pos} {es : List Expr} {g : Ex → Option (List D)} (hs : ∀ j, starEach (.Constant (.str s) k pos :: es) (X j).env = (false, eval (.Constant (.str s) k pos) (X j).env) :: starEach es (X j).env) (hr : SEs G X i es g) :
    SEs G X i (.Constant (.str s) k pos :: es) (fun x => (g x).map (.str s :: ·)) := by
  obtain ⟨t, h1, h2⟩ := hr
  refine ⟨fun a cls d => tCons (tC (.str s)) (t a cls d), fun j a oe cls d pn hz hf => pa_cons pe_str (h1 j a oe cls d pn hz hf) (hs j), fun a cls d x ds F H ρ σ T Q e xr hi hR hP => ?_⟩
  dsimp only at e
  cases q2 : g x with
  | none => rw [q2] at e; cases e
  | some ds2 =>
    rw [q2] at e
    cases e
    exact h2 a cls d x ds2 F H ρ σ T _ q2 xr hi hR fun vs rs => hP _ (.cons (.str s) rs)
theorem se_lst {es : List Expr} {pos : Pos} {g : Ex → Option (List D)} (h : SEs G X i es g) (hg : ∀ x ds, g x = some ds → ds.length ≤ 1000) : SE G X i (.List es pos) (fun x => (g x).map .lst) := by
  obtain ⟨t, h1, h2⟩ := h
  refine ⟨fun a cls d => tLst (t a cls d), fun j a oe cls d pn hz hf => pe_lst (h1 j a oe cls d pn hz hf), fun a cls d x c F H ρ σ T Q e xr hi hR hP => ?_⟩
  dsimp only at e
  cases q : g x with
  | none => rw [q] at e; cases e
  | some ds =>
    rw [q] at e
    cases e
    refine h2 a cls d x ds F H ρ σ T _ q xr hi hR fun vs rs => ⟨by rw [rs.length]; exact line1000 (hg x ds q), fun p hp => ?_⟩
    exact hP F _ (.ref p) (Same.refl _) (hR.newLst hp rs)

/-! ### the suite: t = EXPR if isinstance(e, C) else .. -/
def fSu (k : Nat) (sub : Ex → Bool) (f : Ex → Option Cl) : Ex → FS := fun x _ ρ => if sub x = true then match f x with
  | some c => if k < ρ.length then some (.nx (ρ.set k (some c))) else none
  | none => none
  else none
def SU (G : Gd) (X : ι → Cx) (P : List Nat) (i : Nat) (st : List Stmt) (f : Ex → FS) : Prop :=
  ∃ t : Addr → Value → Option Addr → TS, (∀ j a oe cls d pn, Zc cls d oe → (∃ vs, oe.data = .fields vs) → PSs ((X j).suite a ((a, oe) :: pn)) st (t a cls d)) ∧
    ∀ a cls d x n o F H ρ σ T (D : Ends), f x n ρ = some o → XR G F x cls d → σ[i]? = some (some (.ref a)) → G.R F H ρ σ T → PoS G W0 P F σ T D o → t a cls d D σ H
open Classical in
noncomputable def tIsF (K : PySem.W.Frag) (cv : Addr) (i : Nat) (a : Addr) (cls : Value) (d : Option Addr) : TE :=
  if h : ∃ C, cls = .ref C ∧ EcK K C then tCB (rIsF K h.choose d a) (tCons (tVar i) (tCons (tC (.ref cv)) tNil)) else tE0
theorem su_isf {k : Nat} {c : Str} {cv : Addr} {ex orl : Expr} {f : Ex → Option Cl} {sub : Ex → Bool} {P : List Nat} {q1 q2 q3 q4 q5 : Pos} {st : Stmt} (hK : ∀ j, (X j).K = G.K) (hn : ∀ j a oe pn, PE ((X j).suite a ((a, oe) :: pn)) (.Name n q2) (tVar i)) (hk : k ∉ P)
    (hg : ∀ j, Gl (X j) "isinstance") (hm : ∀ j, (X j).mg "isinstance" = none) (hgC : ∀ j, Gl (X j) c) (hmC : ∀ j, (X j).mg c = some (.ref cv)) (hcd : (c == ("__debug__" : Str)) = false)
    (hs1 : ∀ j, starEach [.Name n q2, .Name c q3] (X j).env = (false, eval (.Name n q2) (X j).env) :: starEach [.Name c q3] (X j).env) (hs2 : ∀ j, starEach [.Name c q3] (X j).env = (false, eval (.Name c q3) (X j).env) :: starEach [] (X j).env) (hpl : ∀ j, (backTo q4 (starEach [.Name c q3] (X j).env)).any (·.1) = false)
    (hst : ∀ j a oe pn te, PE ((X j).suite a ((a, oe) :: pn)) (.IfExp (.Call (.Name "isinstance" q1) [.Name n q2, .Name c q3] [] q4) ex orl q5) te → PS ((X j).suite a ((a, oe) :: pn)) st (tAsg te (gName k)))
    (hv : ∀ j a oe pn whole, isTrue (.Call (.Name "isinstance" q1) [.Name n q2, .Name c q3] [] q4) ((X j).suite a ((a, oe) :: pn)).env whole = (do let v ← whole; standAt (Expr.pos (.Call (.Name "isinstance" q1) [.Name n q2, .Name c q3] [] q4)); holding [v] (truthy v)))
    (hsub : ∀ x C, sub x = true → G.mg x.cls = some (.ref C) → EcK G.K C ∧ PySem.W.kitOne G.K (.ref C) (.ref cv) = some true)
    (ha : SE G X i ex f) (hb : ∃ t, ∀ j a oe pn, PE ((X j).suite a ((a, oe) :: pn)) orl t) : SU G X P i [st] (fSu k sub f) := by
  obtain ⟨t, h1, h2⟩ := ha
  obtain ⟨u, h3⟩ := hb
  refine ⟨fun a cls d => tAsg (tIf (tB (tIsF G.K cv i a cls d)) (t a cls d) u) (gName k), fun j a oe cls d pn hz hf => pss_one (hst j a oe pn _ (pe_ifExp (pt_val ?_ (hv j a oe pn)) (h1 j a oe cls d pn hz hf) (h3 j a oe pn))), ?_⟩
  · unfold tIsF
    split
    · rename_i h
      obtain ⟨m1, m2⟩ := h.choose_spec
      have m2' : EcK (X j).K h.choose := by rw [hK j]; exact m2
      have hz' : Zc (.ref h.choose) d oe := by rw [← m1]; exact hz
      have := pe_callB (x := "isinstance") (p := q1) (pos := q4) (call_isF (X := X j) (a := a) (pn := pn) m2' hz' hf) (hg j) (hm j) (by decide +kernel) (pa_cons (hn j a oe pn) (pa_cons (pe_glob (v := .ref cv) (hgC j) (hmC j) rfl hcd) pa_nil (hs2 j)) (hs1 j)) (by decide) (by decide) (hs1 j) (hpl j)
      have eK : ((X j).suite a ((a, oe) :: pn)).K = G.K := hK j
      rw [show rIsF (X j).K h.choose d a = rIsF G.K h.choose d a from by rw [hK j]] at this
      exact this
    · exact pe_no
  · intro a cls d x n o F H ρ σ T D e xr hi hR hP
    unfold fSu at e
    split at e
    · rename_i hsb
      obtain ⟨C, x1, x2, x3⟩ := id xr
      obtain ⟨m1, m2⟩ := hsub x C hsb x1
      have hex : ∃ C, cls = .ref C ∧ EcK G.K C := ⟨C, x2, m1⟩
      cases q : f x with
      | none => rw [q] at e; cases e
      | some cc =>
        rw [q] at e
        dsimp only at e
        split at e
        · rename_i hl
          cases e
          show tIsF G.K cv i a cls d σ H _
          unfold tIsF
          rw [dif_pos hex]
          obtain ⟨y1, y2⟩ := hex.choose_spec
          have eC : hex.choose = C := Value.ref.inj (y1.symm.trans x2)
          rw [eC]
          refine ⟨.ref a, hi, ?_⟩
          refine ⟨.ref cv, .ref cv, true, rfl, fun u h => h, m2, ?_, true, rfl, ?_⟩
          · rcases x3 with ⟨_, x4⟩ | ⟨dd, fvs, x4, x5, _⟩
            · exact .inl x4
            · exact .inr ⟨dd, fvs, x4, hR.sub _ _ x5⟩
          · show if true = true then _ else _
            rw [if_pos rfl]
            exact h2 a cls d x cc F H ρ σ T _ q xr hi hR fun F' H' v s' R' => hP F' H' _ s' (R'.set hl) (Kp.set hk)
        · cases e
    · cases e
end

/-! ### try -/
inductive HdX {ι : Type} (G : Gd) (X : ι → Cx) (P : List Nat) (i : Nat) (n : Str) : List ExceptHandler → List ((Ex → Option Bool) × (Ex → FS)) → Prop
  | nil : HdX G X P i n [] []
  | cons {x : Str} {cv : Addr} {sub : Ex → Option Bool} {f : Ex → FS} {b₀ : Stmt} {suite : List Stmt} {np pos' : Pos} {hds : List ExceptHandler} {l : List ((Ex → Option Bool) × (Ex → FS))} (hc : ∀ j, Names (X j) x (.ref cv))
      (hsub : ∀ e C b, sub e = some b → G.mg e.cls = some (.ref C) → PySem.W.exmOne G.K (.ref C) (.ref cv) = some b) (hsu : SU G X P i (b₀ :: suite) f) (r : HdX G X P i n hds l) :
      HdX G X P i n (.ExceptHandler (some (.Name x np)) (some n) (b₀ :: suite) pos' :: hds) ((sub, f) :: l)
def Ot.gone (i : Nat) : Ot → Option Ot
  | .nx ρ => some (.nx (ρ.set i none))
  | .rt c ρ => some (.rt c ρ)
  | .bk ρ => some (.bk (ρ.set i none))
  | .ct ρ => some (.ct (ρ.set i none))
  | .ex _ _ => none
def hdl (i : Nat) : List ((Ex → Option Bool) × (Ex → FS)) → Ex → FS
  | [], x, _, ρ => some (.ex x ρ)
  | (sub, f) :: l, x, n, ρ => match sub x with
    | some true => if i < ρ.length then (f x n (ρ.set i none)).bind (Ot.gone i) else none
    | some false => hdl i l x n ρ
    | none => none
def sTry (i : Nat) (fb : FS) (l : List ((Ex → Option Bool) × (Ex → FS))) : FS := fun n ρ => match fb n ρ with
  | some (.ex x ρ1) => hdl i l x n ρ1
  | o => o
abbrev TrI (ι : Type) := ι × List (Addr × Obj) × (Value → Shared → Prop)
abbrev trX {ι : Type} (X : ι → Cx) (W : WX) : {p : TrI ι // Takes ((X p.1).tr p.2.1 p.2.2) W ∧ PassesOwn (model (X p.1).prog (X p.1).w) (X p.1).A (X p.1).env p.2.2} → Cx := fun p => (X p.1.1).tr p.1.2.1 p.1.2.2
section
variable {ι : Type} {G : Gd} {X : ι → Cx} {W : WX} {P : List Nat} {i : Nat} {n : Str}
theorem hdx_out {hds : List ExceptHandler} {l : List ((Ex → Option Bool) × (Ex → FS))} (h : HdX G X P i n hds l) : ∃ L : List (Value × (Addr → Value → Option Addr → TS)), (∀ j, HdsAs (X j) n hds L) ∧
    ∀ (D : Ends) x cls d k ρ o F H σ T, i ∉ P → hdl i l x k ρ = some o → XR G F x cls d → G.R F H ρ σ T → PoS G W P F σ T D o → wManyAs G.K i W D L cls d σ H := by
  induction h with
  | nil => exact ⟨[], fun _ => .nil, fun D x cls d k ρ o F H σ T _ e xr hR hP => by
      cases e
      exact hP F H σ cls d (Same.refl _) hR (Kp.refl _) xr⟩
  | @cons x cv sub f b₀ suite np pos' hds l hc hsub hsu r ih =>
    obtain ⟨L, h1, h2⟩ := ih
    obtain ⟨t, h3, h4⟩ := hsu
    refine ⟨(.ref cv, t) :: L, fun j => .cons (hc j) (fun a oe cls d pn => h3 j a oe cls d pn) (h1 j), fun D x cls d k ρ o F H σ T hi e xr hR hP => ?_⟩
    obtain ⟨C, x1, x2, x3⟩ := id xr
    unfold hdl at e
    cases q : sub x with
    | none => rw [q] at e; cases e
    | some b =>
      rw [q] at e
      refine ⟨b, by rw [x2]; exact hsub x C b q x1, ?_, ?_⟩
      · rintro rfl a na
        dsimp only at e
        split at e
        · rename_i hl
          cases q2 : f x k (ρ.set i none) with
          | none => rw [q2] at e; cases e
          | some o2 =>
            rw [q2] at e
            have e : Ot.gone i o2 = some o := e
            refine h4 a cls d x k o2 F H _ _ T _ q2 xr (List.getElem?_set_self (by rw [← hR.ok.len]; exact hl)) (hR.gone i _) ?_
            cases o2 with
            | nx ρ' => cases e; exact fun F' H' σ' s' R' k' => hP F' H' _ s' (R'.gone i none) ((Kp.set hi).trans (k'.trans (Kp.set hi)))
            | rt c ρ' => cases e; exact fun F' H' σ' v s' R' k' => hP F' H' σ' v s' R' ((Kp.set hi).trans k')
            | bk ρ' => cases e; exact fun F' H' σ' s' R' k' => hP F' H' _ s' (R'.gone i none) ((Kp.set hi).trans (k'.trans (Kp.set hi)))
            | ct ρ' => cases e; exact fun F' H' σ' s' R' k' => hP F' H' _ s' (R'.gone i none) ((Kp.set hi).trans (k'.trans (Kp.set hi)))
            | ex x ρ' => cases e
        · cases e
      · rintro rfl
        exact h2 D x cls d k ρ o F H σ T hi e xr hR hP
theorem xs_try {body : List Stmt} {h₀ : ExceptHandler} {hds : List ExceptHandler} {l : List ((Ex → Option Bool) × (Ex → FS))} {pos : Pos} {fb : FS} (hK : ∀ j, (X j).K = G.K) (hs : ∀ j, (X j).stack = (X j).env :: (X j).outer) (hf : ∀ j, (X j).env.frame = some (X j).env.locals) (hN : ∀ j, (X j).N.Nodup) (hi : ∀ j, (X j).N[i]? = some n) (hln : ∀ j, (X j).env.kindOf n = some .local)
    (hiP : i ∉ P) (tk : ∀ j, Takes (X j) W) (hb : ∀ Wb, XSs G (trX X Wb) Wb P body fb) (hh : HdX G X P i n (h₀ :: hds) l) : XS G X W P (.Try body (h₀ :: hds) [] [] pos) (sTry i fb l) := by
  obtain ⟨L, h1, h2⟩ := hdx_out (W := W) hh
  refine ⟨fun D σ H => (hb (wManyAs G.K i W D L)).choose D σ H, fun j => ?_, fun k ρ o e F H σ T D hR hP => ?_⟩
  · have := ps_try_manyAs (X := X j) (pos := pos) (tb := fun W' => (hb W').choose) (hs j) (hf j) (hN j) (hi j) (hln j) (tk j) (fun W' pn xe t1 t2 => (hb W').choose_spec.1 ⟨(j, pn, xe), t1, t2⟩) (h1 j)
    rw [hK j] at this
    exact this
  · unfold sTry at e
    cases q : fb k ρ with
    | none => rw [q] at e; cases e
    | some o1 =>
      rw [q] at e
      refine (hb (wManyAs G.K i W D L)).choose_spec.2 k ρ o1 q F H σ T D hR ?_
      cases o1 with
      | ex x ρ1 => exact fun F' H' σ' cls d s' R' k' xr => h2 D x cls d k ρ1 o F' H' σ' T hiP e xr R' (hP.mono s' k')
      | nx ρ1 => cases e; exact hP
      | rt c ρ1 => cases e; exact hP
      | bk ρ1 => cases e; exact hP
      | ct ρ1 => cases e; exact hP
end
end L3

set_option maxHeartbeats 1000000
namespace L2
open PySem PySem.Spec PyProof.Rows
/-- xs[i] of a list, i counted from either end -/
theorem get_listL {X : Cx} : PGet X (rIxL X.K) := by
  rintro pins s σ H _ _ v _ Q I rx ry ⟨p, xs, i, z, rfl, rfl, hq, he, q⟩
  have ⟨t, e⟩ := ry
  cases rx
  cases e
  have ⟨its, rel, pl, _⟩ := I.list hq
  have ⟨j, ix, hz, _, lo, hi⟩ := atI_get he
  have ⟨u, hu, ru⟩ := rel.get hz
  have got : EP X pins σ Q u s := ⟨z, H, I, ru, q⟩
  have item : ∀ m, m = j → its.toArray[m]? = some u := fun m e => e ▸ (List.getElem?_toArray ..).trans hu
  have size : its.toArray.size = xs.length := rel.length.symm
  have big := line63
  rcases Int.lt_or_le i 0 with neg | pos
  · refine wpAny_getItem_list_neg pl.isList neg (size ▸ lo) (by omega) (item _ ?_) got
    rw [size]
    exact Option.some.inj ((seqIndex_neg neg lo).symm.trans ix)
  · exact wpAny_getItem_list pl.isList pos (by omega) (item _ (Option.some.inj ((seqIndex_of pos hi).symm.trans ix))) got
end L2
namespace L3
open PySem PySem.Spec L2
section
variable {ι : Type} {G : Gd} {X : ι → Cx} {W : WX} {P : List Nat} {e ie : Expr} {pos : Pos}
/-- the cell of slot k changed -/
def setIx (ρ : En) (k : Nat) (j d : D) : Option En := match (ρ[k]?).join with
  | some (.lst ds) => match j with
    | .int i => match ixN ds.length i with
      | some m => some (ρ.set k (some (.lst (ds.set m d))))
      | none => none
    | _ => none
  | _ => none
theorem setIx_ok {F H : Hp} {ρ ρ' : En} {σ : L2.St} {T : List (Cl × V)} {k : Nat} {j d : D} {vj vd o : V} (e : setIx ρ k j d = some ρ') (hR : G.R F H ρ σ T) (rj : Rp G.K F vj j) (rd : Rp G.K F vd d) (ho : σ[k]? = some (some o)) {Q : Hp → Prop} (hQ : ∀ H', G.R F H' ρ' σ T → Q H') : rSetL o vj vd H Q := by
  unfold setIx at e
  split at e
  · rename_i ds q
    split at e
    · rename_i i
      split at e
      · rename_i m qm
        cases e
        cases rj
        obtain ⟨w, h1, R'⟩ := R.take hR (join_some q)
        rw [ho] at h1
        cases h1
        obtain ⟨A, cr⟩ := R'.cr
        cases cr with
        | lst h1 h2 r =>
          refine ⟨_, _, i, m, rfl, rfl, h1, by rw [r.length]; exact qm, hQ _ ?_⟩
          have R2 : G.R F (upd H _ (.lst (_))) (ρ.set k none) σ ((.lst (ds.set m d), .ref _) :: T) :=
            .mk' (R'.hr'.mut (fun A h => by cases h; rfl) (.lst upd_same h2 (r.set m rd))) R'.ok
          have hk : k < ρ.length := (List.getElem?_eq_some_iff.mp (join_some q)).1
          have R3 := R.put R2 (c := .lst (ds.set m d)) (i := k) (by rw [List.getElem?_set_self hk]) ho
          rw [List.set_set] at R3
          exact R3
      · cases e
    · cases e
  · cases e
def sSetIx (k : Nat) (fe fi : Fn Bv) : FS := fun n ρ => bS (fFz fe n ρ) fun c ρ1 => match c with
  | .fz d => if ((ρ1[k]?).join).isSome = true then bS (fFz fi n ρ1) fun c2 ρ2 => match c2 with
    | .fz j => match setIx ρ2 k j d with
      | some ρ3 => some (.nx ρ3)
      | none => none
    | _ => none
  else none
  | _ => none
theorem slot_of {F H : Hp} {ρ : En} {σ : L2.St} {T : List (Cl × V)} {k : Nat} (hR : G.R F H ρ σ T) (h : ((ρ[k]?).join).isSome = true) : ∃ o, σ[k]? = some (some o) := by
  obtain ⟨c, hc⟩ := Option.isSome_iff_exists.mp h
  obtain ⟨v, h1, _⟩ := hR.at (join_some hc)
  exact ⟨v, h1⟩
theorem xs_setIx {k : Nat} {x : Str} {px ps : Pos} {fe fi : Fn Bv} (hx : ∀ j, PE (X j) (.Name x px) (tVar k)) (hi : XB G X W ie fi) (he : XB G X W e fe)
    (hs : ∀ j, swapsWithSole [.Subscript (.Name x px) ie ps] e pos.line (X j).env = pure false) (hw : ∀ j, swappedStores [.Subscript (.Name x px) ie ps] e (X j).env = pure none) (h1 : ∀ j, (assignEach [.Subscript (.Name x px) ie ps] (X j).env).map (·.2) = [assign (.Subscript (.Name x px) ie ps) (X j).env])
    (ha : ∀ j v, assign (.Subscript (.Name x px) ie ps) (X j).env v = (do
      let ov ← holding [v] (eval (.Name x px) (X j).env)
      let iv ← holding [v, ov] (eval ie (X j).env)
      standAt ps
      holding [v, ov, iv] (setItem ov iv v)
      release [v, ov, iv] [])) : XS G X W P (.Assign [.Subscript (.Name x px) ie ps] e pos) (sSetIx k fe fi) := by
  obtain ⟨ti, a1, a2⟩ := hi
  obtain ⟨te, b1, b2⟩ := he
  refine ⟨_, fun j => ps_asg (b1 j) (pg_sub (hx j) (a1 j) set_list (ha j)) (hs j) (hw j) (h1 j), fun n ρ o eq F H σ T D hR hP => ?_⟩
  unfold sSetIx at eq
  cases q : fFz fe n ρ with
  | none => rw [q] at eq; cases eq
  | some r1 =>
    rw [q] at eq
    refine snd_fz b2 n ρ r1 q F H σ T _ hR ?_
    cases r1 with
    | ex x ρ' => cases eq; exact hP.px
    | ok c ρ1 =>
      rw [bS_ok] at eq
      intro F1 H1 v s1 R1
      cases c with
      | fz d =>
        dsimp only at eq
        split at eq
        · rename_i hk
          obtain ⟨ov, ho⟩ := slot_of R1 hk
          refine ⟨ov, ho, ?_⟩
          cases q2 : fFz fi n ρ1 with
          | none => rw [q2] at eq; cases eq
          | some r2 =>
            rw [q2] at eq
            refine snd_fz a2 n ρ1 r2 q2 F1 H1 σ _ _ R1 ?_
            cases r2 with
            | ex x ρ' =>
              cases eq
              exact fun F' H' cls d s r xr => hP F' H' σ cls d (s1.trans s) r.tail (Kp.refl _) xr
            | ok c2 ρ2 =>
              rw [bS_ok] at eq
              intro F2 H2 v2 s2 R2
              cases c2 with
              | fz dj =>
                dsimp only at eq
                cases q3 : setIx ρ2 k dj d with
                | none => rw [q3] at eq; cases eq
                | some ρ3 =>
                  rw [q3] at eq
                  cases eq
                  refine setIx_ok q3 R2.tail.tail R2.rp R2.tail.rp ho fun H' R' => hP F2 H' σ (s1.trans s2) R' (Kp.refl _)
              | lst _ => cases eq
              | dct _ => cases eq
              | dtt _ => cases eq
              | dlk _ => cases eq
              | dlt _ => cases eq
              | bx _ _ => cases eq
              | ins _ _ => cases eq
              | exn _ _ => cases eq
        · cases eq
      | lst _ => cases eq
      | dct _ => cases eq
      | dtt _ => cases eq
      | dlk _ => cases eq
      | dlt _ => cases eq
      | bx _ _ => cases eq
      | ins _ _ => cases eq
      | exn _ _ => cases eq
/-! ### op= -/
def SndIp (G : Gd) (t : TIp) (g : D → D → Option D) : Prop := ∀ a b d, g a b = some d → ∀ F H va vb (Q : VK), Rp G.K F va a → Rp G.K F vb b → (∀ v, Rp G.K F v d → Q v H) → t va vb H Q
def gIp (f : Int → Int → Int) : D → D → Option D := fun a b => match a, b with
  | .int i, .int j => some (.int (f i j))
  | _, _ => none
theorem snd_ipI {f : Int → Int → Int} : SndIp G (ipI f) (gIp f) := fun a b d e F H va vb Q ra rb hQ => by
  unfold gIp at e
  split at e
  · rename_i i j
    cases e
    cases ra
    cases rb
    exact ⟨i, j, rfl, rfl, hQ _ (.int _)⟩
  · cases e
def getIx (ρ : En) (k : Nat) (j : D) : Option D := match (ρ[k]?).join with
  | some (.lst ds) => match j with
    | .int i => atI ds i
    | _ => none
  | _ => none
theorem RpA.atI {K : PySem.W.Frag} {F : Hp} {vs : List V} {ds : List D} {i : Int} {d : D} (r : RpA K F vs ds) (e : L2.atI ds i = some d) : ∃ v, L2.atI vs i = some v ∧ Rp K F v d := by
  unfold L2.atI at e ⊢
  rw [r.length]
  cases q : ixN ds.length i with
  | none => rw [q] at e; cases e
  | some j =>
    rw [q] at e
    exact r.get e
def sAugIx (k : Nat) (fi fe : Fn Bv) (g : D → D → Option D) : FS := fun n ρ => if ((ρ[k]?).join).isSome = true then bS (fFz fi n ρ) fun c ρ1 => match c with
  | .fz j => match getIx ρ1 k j with
    | some a => bS (fFz fe n ρ1) fun c2 ρ2 => match c2 with
      | .fz b => match g a b with
        | some d => match setIx ρ2 k j d with
          | some ρ3 => some (.nx ρ3)
          | none => none
        | none => none
      | _ => none
    | none => none
  | _ => none
  else none
theorem xs_augIx {k : Nat} {x : Str} {px ps : Pos} {fe fi : Fn Bv} {op : Operator} {tip : TIp} {g : D → D → Option D} (hK : ∀ i, (X i).K = G.K) (hx : ∀ j, PE (X j) (.Name x px) (tVar k)) (hi : XB G X W ie fi) (he : XB G X W e fe) (hp : ∀ j, PIp (X j) op tip) (hg : SndIp G tip g)
    (ha : ∀ ov iv new, augStore ie ov iv new = (do holding [new, ov, iv] (setItem ov iv new); release [new, ov, iv] []; pure .next)) : XS G X W P (.AugAssign (.Subscript (.Name x px) ie ps) op e pos) (sAugIx k fi fe g) := by
  obtain ⟨ti, a1, a2⟩ := hi
  obtain ⟨te, b1, b2⟩ := he
  refine ⟨_, fun j => by
    have := ps_augS (pos := pos) (tpos := ps) (hx j) (a1 j) get_listL (b1 j) (hp j) set_list ha
    rw [hK j] at this
    exact this, fun n ρ o eq F H σ T D hR hP => ?_⟩
  unfold sAugIx at eq
  split at eq
  case isFalse => cases eq
  rename_i hk
  obtain ⟨ov, ho⟩ := slot_of hR hk
  refine ⟨ov, ho, ?_⟩
  cases q : fFz fi n ρ with
  | none => rw [q] at eq; cases eq
  | some r1 =>
    rw [q] at eq
    refine snd_fz a2 n ρ r1 q F H σ T _ hR ?_
    cases r1 with
    | ex x ρ' => cases eq; exact hP.px
    | ok c ρ1 =>
      rw [bS_ok] at eq
      intro F1 H1 v s1 R1
      cases c with
      | fz dj =>
        dsimp only at eq
        cases q1 : getIx ρ1 k dj with
        | none => rw [q1] at eq; cases eq
        | some da =>
          rw [q1] at eq
          dsimp only at eq
          unfold getIx at q1
          split at q1
          case h_2 => cases q1
          rename_i ds qd
          split at q1
          case h_2 => cases q1
          rename_i i
          obtain ⟨w, g1, A, cr⟩ := R1.at (join_some qd)
          rw [ho] at g1
          cases g1
          cases cr with
          | @lst p xs _ h1 h2 r =>
            obtain ⟨va, k1, k2⟩ := r.atI q1
            have ri := R1.rp
            cases ri
            refine ⟨p, xs, i, va, rfl, rfl, .inl (.inl h1), k1, ?_⟩
            have R1 := R1.push k2
            cases q2 : fFz fe n ρ1 with
            | none => rw [q2] at eq; cases eq
            | some r2 =>
              rw [q2] at eq
              refine snd_fz b2 n ρ1 r2 q2 F1 H1 σ _ _ R1 ?_
              cases r2 with
              | ex x ρ' =>
                cases eq
                exact fun F' H' cls d s r xr => hP F' H' σ cls d (s1.trans s) r.tail.tail (Kp.refl _) xr
              | ok c2 ρ2 =>
                rw [bS_ok] at eq
                intro F2 H2 v2 s2 R2
                cases c2 with
                | fz db =>
                  dsimp only at eq
                  cases q3 : g da db with
                  | none => rw [q3] at eq; cases eq
                  | some dd =>
                    rw [q3] at eq
                    dsimp only at eq
                    cases q4 : setIx ρ2 k (.int i) dd with
                    | none => rw [q4] at eq; cases eq
                    | some ρ3 =>
                      rw [q4] at eq
                      cases eq
                      refine hg da db dd q3 F2 H2 va v2 _ (k2.mono s2) R2.rp fun v3 r3 => ?_
                      exact setIx_ok q4 R2.tail.tail.tail (.int i) r3 ho fun H' R' => hP F2 H' σ (s1.trans s2) R' (Kp.refl _)
                | lst _ => cases eq
                | dct _ => cases eq
                | dtt _ => cases eq
                | dlk _ => cases eq
                | dlt _ => cases eq
                | bx _ _ => cases eq
                | ins _ _ => cases eq
                | exn _ _ => cases eq
      | lst _ => cases eq
      | dct _ => cases eq
      | dtt _ => cases eq
      | dlk _ => cases eq
      | dlt _ => cases eq
      | bx _ _ => cases eq
      | ins _ _ => cases eq
      | exn _ _ => cases eq
/-- name op= e -/
def sAug (k : Nat) (fe : Fn Bv) (g : D → D → Option D) : FS := fun n ρ => match (ρ[k]?).join with
  | some (.fz a) => bS (fFz fe n ρ) fun c ρ1 => match c with
    | .fz b => match g a b with
      | some d => if k < ρ1.length then some (.nx (ρ1.set k (some (.fz d)))) else none
      | none => none
    | _ => none
  | _ => none
theorem xs_aug {k : Nat} {x : Str} {px : Pos} {fe : Fn Bv} {op : Operator} {tip : TIp} {g : D → D → Option D} (hk : k ∉ P) (hp : ∀ te, (∀ j, PE (X j) e te) → ∀ j, PS (X j) (.AugAssign (.Name x px) op e pos) (tAug k te tip)) (he : XB G X W e fe) (hg : SndIp G tip g) :
    XS G X W P (.AugAssign (.Name x px) op e pos) (sAug k fe g) := by
  obtain ⟨te, b1, b2⟩ := he
  refine ⟨_, hp te b1, fun n ρ o eq F H σ T D hR hP => ?_⟩
  unfold sAug at eq
  split at eq
  case h_2 => cases eq
  rename_i a qa
  obtain ⟨va, g1, R0⟩ := R.take hR (join_some qa)
  have ra := R0.rp
  refine ⟨va, g1, ?_⟩
  cases q2 : fFz fe n ρ with
  | none => rw [q2] at eq; cases eq
  | some r2 =>
    rw [q2] at eq
    refine snd_fz b2 n ρ r2 q2 F H σ _ _ hR ?_
    cases r2 with
    | ex x ρ' => cases eq; exact hP.px
    | ok c2 ρ2 =>
      rw [bS_ok] at eq
      intro F2 H2 v2 s2 R2
      cases c2 with
      | fz db =>
        dsimp only at eq
        cases q3 : g a db with
        | none => rw [q3] at eq; cases eq
        | some dd =>
          rw [q3] at eq
          dsimp only at eq
          split at eq
          · rename_i hl
            cases eq
            refine hg a db dd q3 F2 H2 va v2 _ (ra.mono s2) R2.rp fun v3 r3 => ?_
            exact hP F2 H2 _ s2 ((R2.tail.push r3).set hl) (Kp.set hk)
          · cases eq
      | lst _ => cases eq
      | dct _ => cases eq
      | dtt _ => cases eq
      | dlk _ => cases eq
      | dlt _ => cases eq
      | bx _ _ => cases eq
      | ins _ _ => cases eq
      | exn _ _ => cases eq
end
end L3

namespace L3
open PySem PySem.Spec L2
/-! ### small checks for printed texts -/
def blkB (N : List Str) (sc scope : Scope) (own : List (Str × Nat)) : Bool :=
  (scope.kind == .function) && (scope.names.all fun y => scope.names.lookup y.1 == some y.2) && (own.all fun p => N[p.2]? == some p.1) &&
  (scope.names.all fun y => !(y.2 == .free) || (sc.names.lookup y.1 == some .cell || sc.names.lookup y.1 == some .free)) &&
  (scope.names.all fun y => !(y.2 == .local || y.2 == .cell) || ((own.map (·.1)).contains y.1 || !(N.contains y.1)))
theorem nk_eq {a b : NameKind} (h : (a == b) = true) : a = b := by
  cases a <;> cases b <;> first | rfl | cases h
theorem nko_eq {a : Option NameKind} {b : NameKind} (h : (a == some b) = true) : a = some b := by
  cases a with
  | none => cases h
  | some a => exact congrArg some (nk_eq h)
theorem nko_eq' {a b : Option NameKind} (h : (a == b) = true) : a = b := by
  cases b with
  | none => cases a with
    | none => rfl
    | some _ => cases h
  | some b => exact nko_eq h
theorem sk_eq {a b : ScopeKind} (h : (a == b) = true) : a = b := by
  cases a <;> cases b <;> first | rfl | cases h
theorem nk_rfl (a : NameKind) : (a == a) = true := by cases a <;> rfl
theorem blkB_ok {N : List Str} {sc scope : Scope} {own : List (Str × Nat)} (h : blkB N sc scope own = true) : BlkOk N sc scope own := by
  unfold blkB at h
  rw [Bool.and_eq_true, Bool.and_eq_true, Bool.and_eq_true, Bool.and_eq_true] at h
  obtain ⟨⟨⟨⟨h1, h2⟩, h3⟩, h4⟩, h5⟩ := h
  refine ⟨sk_eq h1, fun y hy => nko_eq (List.all_eq_true.mp h2 y hy), fun p hp => ?_, fun y hy e => ?_, fun y hy e => ?_⟩
  · exact beq_iff_eq.mp (List.all_eq_true.mp h3 p hp)
  · have := List.all_eq_true.mp h4 y hy
    rw [e, nk_rfl, Bool.not_true, Bool.false_or, Bool.or_eq_true] at this
    rcases this with z | z
    · exact .inl (nko_eq z)
    · exact .inr (nko_eq z)
  · have := List.all_eq_true.mp h5 y hy
    have e' : (y.2 == NameKind.local || y.2 == NameKind.cell) = true := by
      rcases e with e | e <;> rw [e] <;> rfl
    rw [e', Bool.not_true, Bool.false_or, Bool.or_eq_true] at this
    rcases this with z | z
    · exact .inl (List.contains_iff_mem.mp z)
    · refine .inr fun m => ?_
      rw [List.contains_iff_mem.mpr m] at z
      cases z
def flB (fl : List Bool) (P : List Nat) : Bool := (List.range fl.length).all fun i => !(fl[i]? == some true) || P.contains i
theorem flB_ok {fl : List Bool} {P : List Nat} (h : flB fl P = true) : ∀ i, fl[i]? = some true → i ∈ P := fun i e => by
  have hi : i < fl.length := (List.getElem?_eq_some_iff.mp e).1
  have := List.all_eq_true.mp h i (List.mem_range.mpr hi)
  rw [e] at this
  simpa using this
theorem u65 {k : Nat} {A : Around} (hr : Room k A) : A.units + 65 < cLine := by
  have := hr.un
  omega
/-! ### tables of error classes -/
section
variable {G : Gd}
def tblO (l : List (Str × Bool)) : Ex → Option Bool := fun x => l.lookup x.cls
theorem tbl_c {cv : Addr} {p : Str × Bool} {l : List (Str × Bool)} (h : ∃ C, G.mg p.1 = some (.ref C) ∧ PySem.W.exmOne G.K (.ref C) (.ref cv) = some p.2) (r : ∀ p ∈ l, ∃ C, G.mg p.1 = some (.ref C) ∧ PySem.W.exmOne G.K (.ref C) (.ref cv) = some p.2) :
    ∀ x ∈ p :: l, ∃ C, G.mg x.1 = some (.ref C) ∧ PySem.W.exmOne G.K (.ref C) (.ref cv) = some x.2 := fun x hx => by
  rcases List.mem_cons.mp hx with e | hx
  · rw [e]; exact h
  · exact r x hx
theorem tbl_ok {cv : Addr} {l : List (Str × Bool)} (h : ∀ p ∈ l, ∃ C, G.mg p.1 = some (.ref C) ∧ PySem.W.exmOne G.K (.ref C) (.ref cv) = some p.2) : ∀ e C b, tblO l e = some b → G.mg e.cls = some (.ref C) → PySem.W.exmOne G.K (.ref C) (.ref cv) = some b := fun e C b q m => by
  obtain ⟨C', h1, h2⟩ := h (e.cls, b) (PySem.mem_of_lookup q)
  have h1 : G.mg e.cls = some (.ref C') := h1
  rw [m] at h1
  cases h1
  exact h2
def tblB (l : List Str) : Ex → Bool := fun x => l.contains x.cls
theorem tbs_c {cv : Addr} {p : Str} {l : List Str} (h : ∃ C, G.mg p = some (.ref C) ∧ EcK G.K C ∧ PySem.W.kitOne G.K (.ref C) (.ref cv) = some true) (r : ∀ p ∈ l, ∃ C, G.mg p = some (.ref C) ∧ EcK G.K C ∧ PySem.W.kitOne G.K (.ref C) (.ref cv) = some true) :
    ∀ x ∈ p :: l, ∃ C, G.mg x = some (.ref C) ∧ EcK G.K C ∧ PySem.W.kitOne G.K (.ref C) (.ref cv) = some true := fun x hx => by
  rcases List.mem_cons.mp hx with e | hx
  · rw [e]; exact h
  · exact r x hx
theorem tbs_ok {cv : Addr} {l : List Str} (h : ∀ p ∈ l, ∃ C, G.mg p = some (.ref C) ∧ EcK G.K C ∧ PySem.W.kitOne G.K (.ref C) (.ref cv) = some true) : ∀ x C, tblB l x = true → G.mg x.cls = some (.ref C) → EcK G.K C ∧ PySem.W.kitOne G.K (.ref C) (.ref cv) = some true := fun x C q m => by
  obtain ⟨C', h1, h2⟩ := h x.cls (List.contains_iff_mem.mp q)
  rw [m] at h1
  cases h1
  exact h2
theorem tbf_c {f : Str} {p : Str} {l : List Str} (h : ∃ C, G.mg p = some (.ref C) ∧ XfC G.K C ∧ PySem.W.findIn G.K (.ref C) f = some none) (r : ∀ p ∈ l, ∃ C, G.mg p = some (.ref C) ∧ XfC G.K C ∧ PySem.W.findIn G.K (.ref C) f = some none) :
    ∀ x ∈ p :: l, ∃ C, G.mg x = some (.ref C) ∧ XfC G.K C ∧ PySem.W.findIn G.K (.ref C) f = some none := fun x hx => by
  rcases List.mem_cons.mp hx with e | hx
  · rw [e]; exact h
  · exact r x hx
theorem tbf_ok {f : Str} {l : List Str} (h : ∀ p ∈ l, ∃ C, G.mg p = some (.ref C) ∧ XfC G.K C ∧ PySem.W.findIn G.K (.ref C) f = some none) : ∀ c C, l.contains c = true → G.mg c = some (.ref C) → XfC G.K C ∧ PySem.W.findIn G.K (.ref C) f = some none := fun c C q m => by
  obtain ⟨C', h1, h2⟩ := h c (List.contains_iff_mem.mp q)
  rw [m] at h1
  cases h1
  exact h2
end
/-! ### {} -/
section
variable {ι : Type} {G : Gd} {X : ι → Cx} {W : WX} {pos : Pos}
def fDct0 : Fn Cl := fun _ ρ => some (.ok (.dct []) ρ)
theorem xe_dct0 : XE G X W (.Dict [] [] pos) fDct0 := ⟨_, fun _ => pe_dnewK, fun n ρ r e F H σ T Q hR hP => by
  cases e
  intro p hp
  exact hP F _ _ (Same.refl _) (.mk' (hR.hr.newO hp (.dct upd_same (by
    cases q : F p with
    | none => rfl
    | some o => rw [hR.sub _ _ q] at hp; cases hp) .nil)) hR.ok)⟩
end
end L3

set_option maxHeartbeats 1000000
namespace L3
open PySem PySem.Spec L2 PyProof.Rows HT
/-! ### t[::k] of a tuple, k neither 0 nor 1 -/
/-- the place where the cut of n begins, .. -/
def stpO (k : Int) (n : Nat) : Int := (Builtin.Slice.sliceAdjust none none k n).1
/-- .. how many it takes, .. -/
def stpN (k : Int) (n : Nat) : Nat := Builtin.Slice.slicePlaces (stpO k n) (Builtin.Slice.sliceAdjust none none k n).2 k
/-- .. and which -/
def stpJ (k : Int) (n : Nat) : List Nat := (List.range (stpN k n)).map fun (j : Nat) => (stpO k n + (j : Int) * k).toNat
def stpL {α : Type} (k : Int) (xs : List α) : List α := (stpJ k xs.length).filterMap fun j => xs[j]?
theorem fm_congr {α β : Type} {f g : α → Option β} {l : List α} (h : ∀ x ∈ l, f x = g x) : l.filterMap f = l.filterMap g := by
  induction l with
  | nil => rfl
  | cons x l ih =>
    have := ih fun y hy => h y (.tail _ hy)
    simp only [List.filterMap_cons, h x (.head _), this]
theorem stpL_rev {α : Type} (xs : List α) : stpL (-1) xs = xs.reverse := by
  have o : stpO (-1) xs.length = (xs.length : Int) - 1 := rfl
  have n : stpN (-1) xs.length = xs.length := by
    show (if (-1 : Int) > 0 then _ else if (xs.length : Int) - 1 > -1 then ((xs.length : Int) - 1 - -1 - 1) / - -1 + 1 else 0).toNat = _
    split
    · contradiction
    · rw [show (- -1 : Int) = 1 from rfl, Int.ediv_one]
      split <;> omega
  unfold stpL stpJ
  rw [o, n, List.filterMap_map]
  have all : ∀ ys : List α, ys.length ≤ xs.length → (∀ (j : Nat) (h : j < ys.length), xs[((xs.length : Int) - 1 + (j : Int) * -1).toNat]? = some ys[j]) → (List.range ys.length).filterMap ((fun j => xs[j]?) ∘ fun (j : Nat) => ((xs.length : Int) - 1 + (j : Int) * -1).toNat) = ys := fun ys _ h => by
    have e : (List.range ys.length).filterMap ((fun j => xs[j]?) ∘ fun (j : Nat) => ((xs.length : Int) - 1 + (j : Int) * -1).toNat) = (List.range ys.length).filterMap fun j => ys[j]? :=
      fm_congr fun j hj => (h j (List.mem_range.mp hj)).trans (List.getElem?_eq_getElem _).symm
    rw [e]
    clear e h
    induction ys with
    | nil => rfl
    | cons y ys ih => rw [List.length_cons, List.range_succ_eq_map, List.filterMap_cons, List.filterMap_map]; exact congrArg (y :: ·) (ih (by simp at *; omega))
  have := all xs.reverse (by simp) fun j h => by
    rw [List.length_reverse] at h
    rw [List.getElem_reverse, ← List.getElem?_eq_getElem]
    congr 1
    omega
  rw [List.length_reverse] at this
  rw [this]
/-- what is picked out of two lists that belong together belongs together -/
theorem Vals.picks {vs : List V} {us : List Value} (h : Vals vs us) (js : List Nat) : Vals (js.filterMap fun j => vs[j]?) (js.filterMap fun j => us[j]?) := by
  induction js with
  | nil => exact .nil
  | cons j js ih =>
    rw [List.filterMap_cons, List.filterMap_cons]
    cases q : vs[j]? with
    | some x => have ⟨u, hu, r⟩ := h.get q; rw [hu]; exact .cons r ih
    | none =>
      have := List.getElem?_eq_none_iff.mp q
      rw [List.getElem?_eq_none (h.length ▸ this)]
      exact ih
section
variable {prog : Program} {w : World} {A : Around} {E : Value → Shared → Prop} {s : Shared}
theorem applied_cut {sl : Addr} {k : Int} {u : Tok} {n : Nat} {Q : Int × Int × Nat → Shared → Prop} (hs : s.heap.IsSliceOf sl .none .none (.int k u)) (h0 : k ≠ 0) (h : Q (stpO k n, k, stpN k n) s) :
    wpAny (model prog w) A (Builtin.Slice.sliceApplied (.ref sl) (pure (n : Int))) Q E s := by
  have ⟨o, ho, _, hd⟩ := hs
  have no : (k == 0) = false := beq_eq_false_iff_ne.mpr h0
  unfold Builtin.Slice.sliceApplied
  refine wpAny_bind (m := Builtin.Slice.sliceFields _) (wpAny_bind (wpAny_field ho hd (x := .none) rfl (wpAny_bind (wpAny_field ho hd (x := .none) rfl (wpAny_bind (wpAny_field ho hd (x := .int k u) rfl (wpAny_pure ?_)))))))
  refine wpAny_bind (slicePart_ (.int k u) ?_)
  simp only [Option.getD_some, no, Bool.false_eq_true, if_false]
  exact wpAny_bind (slicePart_ .none (wpAny_bind (slicePart_ .none (wpAny_bind (wpAny_pure (wpAny_pure h))))))
theorem meets_cut (t sl : Addr) (items : Array Value) (k : Int) (u : Tok) (h0 : k ≠ 0) (h1 : k ≠ 1) (hz : (stpL k items.toList).length ≤ sizeLine) :
    Meets (Builtin.«tuple.__getitem__» ⟨[.ref t, .ref sl], []⟩) (fun _ R s => IsTup s.heap t items ∧ s.heap.IsSliceOf sl .none .none (.int k u) ∧
      R (.ok (.ret (.ref s.heap.objs.size))) { s with heap := s.heap.push { cls := .type "tuple", data := .seq (stpL k items.toList).toArray } }) :=
  .of_wp fun prog w A R s ⟨ht, hs, h⟩ => by
    have is : s.TypeIs (.ref sl) "slice" := hs.imp fun _ z => ⟨z.1, z.2.1⟩
    unfold Builtin.«tuple.__getitem__»
    wp_walk using tupleItemsOf_ ht, wpAny_typeOf is, applied_cut hs h0
    have took : ((List.range (stpN k items.size)).filterMap fun (j : Nat) => items[(stpO k items.size + (j : Int) * k).toNat]?).toArray = (stpL k items.toList).toArray := by
      unfold stpL stpJ
      rw [List.filterMap_map]
      exact congrArg List.toArray (fm_congr fun j _ => (Array.getElem?_toList ..).symm)
    rw [took]
    refine wpAny_ite_false (decide_eq_false (by rw [List.size_toArray]; omega)) ?_
    wp_walk
    exact ⟨_, rfl, h⟩
end
/-- a[::k], the step read by tk: z is what the reading says of the thing and the step -/
theorem pe_stp {X : Cx} {e ek : Expr} {te : TE} {tk : TE} {p3 pos : Pos} {r : V → L2.St → Hp → VK → Prop} {z : V → Option Int → Hp → VK → Prop} (hr : ∀ x σ H Q, r x σ H Q → tPart tk σ H fun o H2 => z x o H2 Q)
    (hz : ∀ x o H Q, z x o H Q → ∃ a xs k, x = .ref a ∧ o = some k ∧ k ≠ 0 ∧ k ≠ 1 ∧ (stpL k xs).length ≤ xs.length ∧ SqT X.K H a xs ∧ ∀ p, H p = none → Q (.ref p) (upd H p (.tup (stpL k xs)))) (he : PE X e te) (hk : PE X ek tk) :
    PE X (.Subscript e (.Slice none none (some ek) p3) pos) (fun σ H Q => te σ H fun x H1 => r x σ H1 Q) where
  run pins s σ H Q I h := Subscript_ (thn (he.run pins s σ H _ I h) fun v s1 c => by
    have ⟨x, H1, J, rel, q⟩ := c
    refine wpAny_Slice ?_
    rw [evalPart_none]
    refine wpAny_pure (wpAny_pure (thn ((po_some hk).run pins s1 σ H1 _ J (hr x σ H1 Q q)) fun vs s2 c => ?_))
    have ⟨o, H2, L, part, q⟩ := c
    have ⟨a, xs, k, ex, eo, k0, k1, fit, at_, fin⟩ := hz x o H2 Q q
    clear q
    cases ex
    cases rel
    cases eo
    cases part with | int _ u => ?_
    have N := L.kept (t' := s2.toks) (h' := s2.heap.push { cls := .type "slice", data := .fields #[.none, .none, .int k u] }) fun _ _ z => Heap.get?_push_of_some _ z
    have ⟨its, rs, tup, room⟩ := N.tuple at_
    have len := rs.length
    have same : Vals (stpL k xs) (stpL k its) := by unfold stpL; rw [len]; exact Vals.picks rs _
    have le := same.length
    refine tail_any (ops := [.ref a, .ref s2.heap.objs.size]) tup.typeIs PyProof.Rows.slot_tuple_getitem.lookup (getItem_meets tup.typeIs (by decide) PyProof.Rows.slot_tuple_getitem entry_tuple_getitem (args_tuple_getitem _ _)
      (meets_cut a _ its.toArray k u k0 k1 (le ▸ Nat.le_trans fit room)) ⟨tup, Heap.IsSliceOf.new .., ?_⟩) (by with_unfolding_all rfl)
    exact ⟨.ref _, _, N.laid (t' := s2.toks) (o := .tup (stpL k xs)) (fun _ _ z => Heap.get?_push_of_some _ z) (Nat.le_refl _) ⟨Nat.le_trans fit room, _, same, IsTup.new _ _⟩, rfl, fin _ (N.hok.fresh (Nat.le_refl _))⟩)
/-! ### t[::-1] -/
def tRevA (K : PySem.W.Frag) (te : TE) : TE := fun σ H Q => te σ H fun x H1 => ∃ a xs, x = .ref a ∧ SqT K H1 a xs ∧ ∀ p, H1 p = none → Q (.ref p) (upd H1 p (.tup xs.reverse))
theorem pe_revA {X : Cx} {e : Expr} {te : TE} {k : Nat} {p1 p2 p3 pos : Pos} (he : PE X e te) : PE X (.Subscript e (.Slice none none (some (.UnaryOp .USub (.Constant (.int 1) k p1) p2)) p3) pos) (tRevA X.K te) :=
  pe_stp (tk := tUn (rU fun i => .int (-i)) (tC (.int 1))) (r := fun x _ H Q => ∃ a xs, x = .ref a ∧ SqT X.K H a xs ∧ ∀ p, H p = none → Q (.ref p) (upd H p (.tup xs.reverse))) (z := fun x o H Q => o = some (-1) ∧ ∃ a xs, x = .ref a ∧ SqT X.K H a xs ∧ ∀ p, H p = none → Q (.ref p) (upd H p (.tup xs.reverse)))
    (fun _ _ _ _ q => ⟨1, rfl, -1, rfl, rfl, q⟩) (fun _ _ _ _ ⟨eo, a, xs, ex, h, q⟩ => ⟨a, xs, -1, ex, eo, by decide, by decide, by rw [stpL_rev, List.length_reverse] <;> exact Nat.le_refl _, h, by rw [stpL_rev]; exact q⟩) he (pe_un un_neg pe_int)
section
variable {ι : Type} {G : Gd} {X : ι → Cx} {W : WX} {e : Expr} {es : List Expr} {pos : Pos}
def fRevT (f : Fn Bv) : Fn Cl := fun n ρ => bnd (fFz f n ρ) fun c ρ1 => match c with
  | .fz (.tuple ds) => some (.ok (.fz (.tuple ds.reverse)) ρ1)
  | _ => none
theorem xe_revT {f : Fn Bv} {k : Nat} {p1 p2 p3 : Pos} (hK : ∀ i, (X i).K = G.K) (h : XB G X W e f) : XE G X W (.Subscript e (.Slice none none (some (.UnaryOp .USub (.Constant (.int 1) k p1) p2)) p3) pos) (fRevT f) := by
  obtain ⟨t, h1, h2⟩ := h
  refine ⟨_, fun i => by
    have := pe_revA (k := k) (p1 := p1) (p2 := p2) (p3 := p3) (pos := pos) (h1 i)
    rw [hK i] at this
    exact this, fun n ρ r eq F H σ T' Q hR hP => ?_⟩
  unfold fRevT at eq
  cases q : fFz f n ρ with
  | none => rw [q] at eq; cases eq
  | some r1 =>
    rw [q] at eq
    refine snd_fz h2 n ρ r1 q F H σ T' _ hR ?_
    cases r1 with
    | ex x ρ' => cases eq; exact hP
    | ok c ρ1 =>
      rw [bnd_ok] at eq
      intro F1 H1 v s1 R1
      split at eq
      · rename_i ds
        cases eq
        have r := R1.rp
        cases r with
        | tup hq ra =>
          refine ⟨_, _, rfl, sameT R1.sub hq, fun p hp => ?_⟩
          obtain ⟨s2, R2⟩ := R1.tail.newTup hp ra.reverse
          exact hP _ _ _ (s1.trans s2) R2
      · cases eq
/-! ### isinstance(x, (T1, T2)) -/
def isiD2 (T U : String) (d : D) : Option Bool := match tyD d with
  | some S => match kitB S T with
    | some true => some true
    | some false => kitB S U
    | none => none
  | none => none
theorem kitAny2 {K : PySem.W.Frag} {S T U : String} {b : Bool} (h : (match kitB S T with
    | some true => some true
    | some false => kitB S U
    | none => none) = some b) : PySem.W.kitAny K (.type S) [.type T, .type U] = some b := by
  cases q : kitB S T with
  | none => rw [q] at h; cases h
  | some c =>
    rw [q] at h
    have e1 := kit_ty (K := K) q
    unfold PySem.W.kitAny
    rw [e1]
    cases c with
    | true => cases h; rfl
    | false =>
      have e2 := kit_ty (K := K) h
      dsimp only
      unfold PySem.W.kitAny
      rw [e2]
      cases b <;> rfl
def fIsi2 (T U : String) (f : Fn Bv) : Fn Cl := fun n ρ => bnd (fFz f n ρ) fun c ρ1 => match c with
  | .fz d => match isiD2 T U d with
    | some b => some (.ok (.fz (.bool b)) ρ1)
    | none => none
  | _ => none
theorem xe_isi2 {T U : String} {x y : Str} {p p2 p3 p4 : Pos} {k : Nat} {f : Fn Bv} (hK : ∀ i, (X i).K = G.K) (hg : ∀ i, Gl (X i) "isinstance") (hm : ∀ i, (X i).mg "isinstance" = none) (hgT : ∀ i, Gl (X i) x) (hmT : ∀ i, (X i).mg x = none) (hv : bootBuiltins x = some (.type T)) (hx : x ≠ "__name__") (hxd : (x == ("__debug__" : Str)) = false)
    (hgU : ∀ i, Gl (X i) y) (hmU : ∀ i, (X i).mg y = none) (hvU : bootBuiltins y = some (.type U)) (hxU : y ≠ "__name__") (hxdU : (y == ("__debug__" : Str)) = false) (ha : XB G X W e f)
    (hs1 : ∀ i, starEach [e, .Tuple [.Name x p2, .Name y p3] k p4] (X i).env = (false, eval e (X i).env) :: starEach [.Tuple [.Name x p2, .Name y p3] k p4] (X i).env) (hs2 : ∀ i, starEach [.Tuple [.Name x p2, .Name y p3] k p4] (X i).env = (false, eval (.Tuple [.Name x p2, .Name y p3] k p4) (X i).env) :: starEach [] (X i).env)
    (hpl : ∀ i, (backTo pos (starEach [.Tuple [.Name x p2, .Name y p3] k p4] (X i).env)).any (·.1) = false) (hs3 : ∀ i, starEach [.Name x p2, .Name y p3] (X i).env = (false, eval (.Name x p2) (X i).env) :: starEach [.Name y p3] (X i).env) (hs4 : ∀ i, starEach [.Name y p3] (X i).env = (false, eval (.Name y p3) (X i).env) :: starEach [] (X i).env) :
    XE G X W (.Call (.Name "isinstance" p) [e, .Tuple [.Name x p2, .Name y p3] k p4] [] pos) (fIsi2 T U f) := by
  obtain ⟨t, h1, h2⟩ := ha
  refine ⟨_, fun i => by
    have := pe_callB (x := "isinstance") (p := p) (pos := pos) call_isiT (hg i) (hm i) (by decide +kernel) (pa_cons (h1 i) (pa_cons (pe_tup (x1 := k) (pos := p4) (pa_cons (pe_bltn (v := .ty T) (hgT i) (hmT i) hv rfl hx hxd) (pa_cons (pe_bltn (v := .ty U) (hgU i) (hmU i) hvU rfl hxU hxdU) pa_nil (hs4 i)) (hs3 i))) pa_nil (hs2 i)) (hs1 i)) (by decide) (by decide) (hs1 i) (hpl i)
    rw [hK i] at this
    exact this, fun n ρ r eq F H σ T' Q hR hP => ?_⟩
  unfold fIsi2 at eq
  cases q : fFz f n ρ with
  | none => rw [q] at eq; cases eq
  | some r1 =>
    rw [q] at eq
    refine snd_fz h2 n ρ r1 q F H σ T' _ hR ?_
    cases r1 with
    | ex x ρ' => cases eq; exact hP
    | ok c ρ1 =>
      rw [bnd_ok] at eq
      intro F1 H1 v s1 R1
      split at eq
      · rename_i d
        split at eq
        · rename_i b qb
          cases eq
          refine ⟨by show (2 : Nat) ≤ sizeLine; decide, fun tp ntp => ?_⟩
          obtain ⟨s2, q2⟩ := R1.tail.hr.newF (o := .tup [.ty T, .ty U]) ntp
          have R2 : G.R (upd F1 tp (.tup [.ty T, .ty U])) (upd H1 tp (.tup [.ty T, .ty U])) ρ1 σ T' := ⟨q2, R1.ok⟩
          obtain ⟨S, q1, q3⟩ := ty_of (R1.rp.mono (s2.trans R2.sub))
          unfold isiD2 at qb
          rw [q1] at qb
          exact ⟨v, tp, [.ty T, .ty U], _, [.type T, .type U], b, rfl, upd_same, .cons (.ty T) (.cons (.ty U) .nil), q3, kitAny2 qb, hP _ _ _ (s1.trans s2) (R2.push (.bl b))⟩
        · cases eq
      · cases eq
end
end L3

set_option maxHeartbeats 1000000
namespace L3
open PySem PySem.Spec L2 PyProof.Rows
/-! ### x.m(e, ..), x a slot's cell -/
section
variable {ι : Type} {G : Gd} {X : ι → Cx} {W : WX} {e : Expr} {es : List Expr} {pos : Pos}
def fMth (ok : Cl → Bool) (k : Nat) (f : Fn (List Bv)) (g : Cl → List D → Option (D × Cl)) : Fn Cl := fun n ρ => match (ρ[k]?).join with
  | some c0 => if ok c0 = true then bnd (fFzs f n ρ) fun as ρ1 => match (ρ1[k]?).join with
    | some c => match g c as with
      | some (d, c') => some (.ok (.fz d) (ρ1.set k (some c')))
      | none => none
    | none => none
  else none
  | none => none
def SndM (G : Gd) (T : String) (ok : Cl → Bool) (r : V → List V → Hp → VK → Prop) (g : Cl → List D → Option (D × Cl)) : Prop :=
  (∀ c v F H A, ok c = true → Same F H → G.CR F H c v A → tyV G.K T v H) ∧
  ∀ c as d c', g c as = some (d, c') → ∀ F H L v ws (Q : VK), G.HR F H ((c, v) :: L) → RpA G.K F ws as → (∀ F' H' u, Same F F' → G.HR F' H' ((c', v) :: (.fz d, u) :: L) → Q u H') → r v ws H Q
theorem snd_mth {T : String} {ok : Cl → Bool} {k : Nat} {t : TA} {f : Fn (List Bv)} {r : V → List V → Hp → VK → Prop} {g : Cl → List D → Option (D × Cl)} (ht : SndBs G W t f) (hs : SndM G T ok r g) : SndE G W (tBM G.K T r (tVar k) t) (fMth ok k f g) := fun n ρ rr eq F H σ T' Q hR hP => by
  unfold fMth at eq
  split at eq
  case h_2 => cases eq
  rename_i c0 q0
  split at eq
  case isFalse => cases eq
  rename_i hok
  obtain ⟨v, hv, A, cr⟩ := hR.at (join_some q0)
  refine ⟨v, hv, hs.1 c0 v F H A hok hR.sub cr, ?_⟩
  cases q : fFzs f n ρ with
  | none => rw [q] at eq; cases eq
  | some r1 =>
    rw [q] at eq
    refine snd_fzs ht n ρ r1 q F H σ T' _ hR ?_
    cases r1 with
    | ex x ρ' => cases eq; exact hP
    | ok as ρ1 =>
      rw [bnd_ok] at eq
      intro F1 H1 ws s1 R1 ra
      split at eq
      case h_2 => cases eq
      rename_i c q1
      split at eq
      case h_2 => cases eq
      rename_i d c' q2
      cases eq
      obtain ⟨w, hw, R2⟩ := R.take R1 (join_some q1)
      rw [hv] at hw
      cases hw
      refine hs.2 c as d c' q2 F1 H1 _ v ws _ R2.hr' ra fun F' H' u s2 hr => ?_
      have hk : k < ρ1.length := (List.getElem?_eq_some_iff.mp (join_some q1)).1
      have R3 : G.R F' H' (ρ1.set k none) σ ((c', v) :: (.fz d, u) :: T') := by
        refine ⟨hr.perm ?_, R2.ok⟩
        have p1 : (eL (ρ1.set k none) σ ++ (c', v) :: (Cl.fz d, u) :: T').Perm ((c', v) :: (Cl.fz d, u) :: (eL (ρ1.set k none) σ ++ T')) :=
          (mid _ _ _).trans (List.Perm.cons _ (mid _ _ _))
        exact p1.symm
      have R4 := R.put R3 (c := c') (i := k) (by rw [List.getElem?_set_self hk]) hv
      rw [List.set_set] at R4
      exact hP F' H' u (s1.trans s2) R4
theorem xe_mth {T : String} {ok : Cl → Bool} {k : Nat} {x m : Str} {p1 p2 : Pos} {f : Fn (List Bv)} {r : V → List V → Hp → VK → Prop} {g : Cl → List D → Option (D × Cl)} (hK : ∀ i, (X i).K = G.K) (hp : ∀ t, (∀ j, PA (X j) (e :: es) t) → ∀ j, PE (X j) (.Call (.Attribute (.Name x p1) m p2) (e :: es) [] pos) (tBM (X j).K T r (tVar k) t)) (hs : SndM G T ok r g) (h : XBs G X W (e :: es) f) :
    XE G X W (.Call (.Attribute (.Name x p1) m p2) (e :: es) [] pos) (fMth ok k f g) := by
  obtain ⟨t, h1, h2⟩ := h
  exact ⟨_, fun i => by have := hp t h1 i; rw [hK i] at this; exact this, snd_mth h2 hs⟩
/-! ### lists' methods -/
def isL : Cl → Bool
  | .lst _ => true
  | _ => false
theorem isL_ty : ∀ c v F H A, isL c = true → Same F H → G.CR F H c v A → tyV G.K "list" v H := fun c v F H A h s cr => by
  cases cr with
  | lst h1 h2 r => exact .inl ⟨rfl, _, .inl (.inl h1)⟩
  | fz _ => cases h
  | dct _ _ _ => cases h
  | dtt _ _ _ => cases h
  | dlk _ _ => cases h
  | dlt _ _ => cases h
  | bx _ _ _ _ _ _ => cases h
  | ins _ _ _ _ _ => cases h
  | exn _ _ _ => cases h
def gApp : Cl → List D → Option (D × Cl)
  | .lst ds, [d] => if Nat.ble ds.length 10000000 = true then some (.none, .lst (ds ++ [d])) else none
  | _, _ => none
theorem sm_app : SndM G "list" isL rAppend gApp := ⟨isL_ty, fun c as d c' eq F H L v ws Q hr ra hQ => by
  unfold gApp at eq
  split at eq
  case h_2 => cases eq
  rename_i ds y
  split at eq
  case isFalse => cases eq
  rename_i hl
  cases eq
  obtain ⟨A, cr⟩ := hr.head
  cases cr with
  | lst h1 h2 r =>
    cases ra with
    | cons ry ra =>
      cases ra
      have hl := Nat.le_of_ble_eq_true hl
      refine ⟨_, _, _, rfl, rfl, h1, by rw [r.length, sizeLine_eq]; omega, hQ F _ .non (Same.refl _) ?_⟩
      have h3 := hr.mut (c' := .lst (ds ++ [y])) (fun A h => by cases h; rfl) (.lst upd_same h2 (r.append (.cons ry .nil)))
      exact (HR.push h3 .non).swap⟩
/-! ### in, not in -/
def flatD : D → Bool
  | .none => true
  | .bool _ => true
  | .int _ => true
  | .str _ => true
  | _ => false
theorem flat_rp {K : PySem.W.Frag} {F : Hp} {v : V} {d : D} (h : Rp K F v d) (hd : flatD d = true) : flatV v = true := by
  cases h <;> first | rfl | cases hd
theorem flat_rpA {K : PySem.W.Frag} {F : Hp} : ∀ {vs : List V} {ds : List D}, RpA K F vs ds → ds.all flatD = true → vs.all flatV = true
  | _, _, .nil, _ => rfl
  | _, _, .cons h r, hd => by
    rw [List.all_cons, Bool.and_eq_true] at hd ⊢
    exact ⟨flat_rp h hd.1, flat_rpA r hd.2⟩
theorem eqV_rp {K : PySem.W.Frag} {F : Hp} {v w : V} {d e : D} (h : Rp K F v d) (h' : Rp K F w e) (hd : flatD d = true) (he : flatD e = true) : eqV v w = PyData.eqv d e := by
  cases h <;> first | (cases hd; done) | (cases h' <;> first | (cases he; done) | (simp only [PyData.eqv]; rfl))
theorem inV_rp {K : PySem.W.Frag} {F : Hp} {v : V} {d : D} (h : Rp K F v d) (hd : flatD d = true) : ∀ {vs : List V} {ds : List D}, RpA K F vs ds → ds.all flatD = true → inV v vs = ds.any fun z => PyData.eqv z d
  | _, _, .nil, _ => rfl
  | _, _, .cons h' r, he => by
    rw [List.all_cons, Bool.and_eq_true] at he
    show (eqV _ v || inV v _) = _
    rw [eqV_rp h' h he.1 hd, inV_rp h hd r he.2]; rfl
def seqD (c : Cl) : Option (List D) := match c.data with
  | some (.list ds) => some ds
  | some (.tuple ds) => some ds
  | _ => none
/-- neg: not in -/
def gIn (neg : Bool) : List Cl → Option Cl
  | [.fz d, c] => match seqD c with
    | some ds => if (flatD d && ds.all flatD) = true then some (.fz (.bool (if neg = true then !(ds.any fun z => PyData.eqv z d) else ds.any fun z => PyData.eqv z d))) else
      match c.data with
      | some (.list ds) => if (SeqAt.shaped d && SeqAt.shaped (.list ds)) = true then some (.fz (.bool (if neg = true then !(ds.any fun z => PyData.eqv z d) else ds.any fun z => PyData.eqv z d))) else none
      | _ => none
    | none => none
  | _ => none
def rInA (K : PySem.W.Frag) (neg : Bool) : R2 := fun x y H Q => rIn K neg x y H Q ∨ (if neg = true then rNotInD K x y H Q else rInD K x y H Q)
theorem op_inA {Y : Cx} (hu : Y.A.units + 65 < cLine) : OpR Y (compareOp .In) (rInA Y.K false) := by
  intro pins s σ H x y v u Q I rx ry h
  rcases h with h | h
  · exact op_in_seq pins s σ H x y v u Q I rx ry h
  · exact op_inD hu pins s σ H x y v u Q I rx ry h
theorem op_notInA {Y : Cx} (hu : Y.A.units + 65 < cLine) : OpR Y (compareOp .NotIn) (rInA Y.K true) := by
  intro pins s σ H x y v u Q I rx ry h
  rcases h with h | h
  · exact op_notIn_seq pins s σ H x y v u Q I rx ry h
  · exact op_notInD hu pins s σ H x y v u Q I rx ry h
theorem prm_in {neg : Bool} : Prm G (l2 (rInA G.K neg)) (gIn neg) := fun F H L cs vs c Q hr hc e hQ => by
  unfold gIn at e
  split at e
  case h_2 => cases e
  rename_i d cc
  obtain ⟨v1, v2, A1, A2, rfl, h1, h2⟩ := crs2 hc
  have r1 := h1.rpF rfl
  split at e
  case h_2 => cases e
  rename_i ds q
  split at e
  · rename_i hz
    rw [Bool.and_eq_true] at hz
    cases e
    unfold seqD at q
    split at q
    · rename_i q1
      cases q
      obtain ⟨a, ws, rfl, s1, ra⟩ := h2.seqL hr.sub q1
      refine .inl ⟨a, ws, rfl, .inl s1, flat_rp r1 hz.1, flat_rpA ra hz.2, ?_⟩
      rw [inV_rp r1 hz.1 ra hz.2]
      exact hQ F H _ (Same.refl _) (hr.push (.bl _))
    · rename_i q1
      cases q
      obtain ⟨a, ws, rfl, s1, ra⟩ := h2.seqT hr.sub q1
      refine .inl ⟨a, ws, rfl, .inr (sameT hr.sub s1), flat_rp r1 hz.1, flat_rpA ra hz.2, ?_⟩
      rw [inV_rp r1 hz.1 ra hz.2]
      exact hQ F H _ (Same.refl _) (hr.push (.bl _))
    · cases q
  · split at e
    · rename_i ds' q1
      split at e
      · rename_i hz
        rw [Bool.and_eq_true] at hz
        cases e
        have d1 := (h1.rp hr.sub rfl).dp (SeqAt.canLay_of_shaped hz.1)
        have d2 := (h2.rp hr.sub q1).dp (SeqAt.canLay_of_shaped hz.2)
        refine .inr ?_
        cases neg with
        | true =>
          rw [if_pos rfl]
          exact ⟨d, ds', d1, d2, hz.1, hz.2, hQ F H _ (Same.refl _) (hr.push (.bl _))⟩
        | false =>
          rw [if_neg Bool.false_ne_true]
          exact ⟨d, ds', d1, d2, hz.1, hz.2, hQ F H _ (Same.refl _) (hr.push (.bl _))⟩
      · cases e
    · cases e
end
end L3
namespace L3
open PySem PySem.Spec L2 PyProof.Rows
/-! ### a, b = x, y, where the two stores are not swapped: a tuple is made and taken apart -/
section
variable {ι : Type} {G : Gd} {X : ι → Cx} {W : WX} {P : List Nat}
theorem xs_parU {i j : Nat} {a b : Expr} {f g : Fn Cl} {st : Stmt} (hi : i ∉ P) (hj : j ∉ P) (hp : ∀ t u, (∀ j, PE (X j) a t) → (∀ j, PE (X j) b u) → ∀ k, PS (X k) st (tAsg (tTup (tCons t (tCons u tNil))) (gTup (X k).K 2 (gCons (gName i) (gCons (gName j) gNil))))) (hK : ∀ i, (X i).K = G.K) (h : XE G X W a f) (h' : XE G X W b g) : XS G X W P st (sPar i j f g) := by
  obtain ⟨t, h1, h2⟩ := h
  obtain ⟨u, h3, h4⟩ := h'
  refine ⟨_, fun k => by have := hp t u h1 h3 k; rw [hK k] at this; exact this, fun n ρ o e F H σ T D hR hP => ?_⟩
  unfold sPar at e
  cases q : f n ρ with
  | none => rw [q] at e; cases e
  | some r1 =>
    rw [q] at e
    refine h2 n ρ r1 q F H σ T _ hR ?_
    cases r1 with
    | ex x ρ' => cases e; exact hP.px
    | ok c ρ1 =>
      rw [bS_ok] at e
      intro F1 H1 v s1 R1
      cases q2 : g n ρ1 with
      | none => rw [q2] at e; cases e
      | some r2 =>
        rw [q2] at e
        refine h4 n ρ1 r2 q2 F1 H1 σ _ _ R1 ?_
        cases r2 with
        | ex x ρ' =>
          cases e
          exact fun F' H' cls d s r q => hP.px F' H' cls d (s1.trans s) r.tail q
        | ok d ρ2 =>
          rw [bS_ok] at e
          intro F2 H2 w s2 R2
          split at e
          · rename_i hl
            cases e
            refine ⟨by show (2 : Nat) ≤ sizeLine; decide, fun p np => ?_⟩
            obtain ⟨s3, q3⟩ := R2.hr.newF (o := .tup [v, w]) np
            refine ⟨p, [v, w], rfl, .inl (.inl upd_same), rfl, v, [w], rfl, w, [], rfl, rfl, ?_⟩
            refine hP (upd F2 p (.tup [v, w])) _ _ ((s1.trans s2).trans s3) ?_ ((Kp.set hi).trans (Kp.set hj))
            have R2' : G.R (upd F2 p (.tup [v, w])) (upd H2 p (.tup [v, w])) ρ2 σ ((d, w) :: (c, v) :: T) := ⟨q3, R2.ok⟩
            have R3 := R2'.swap.set (i := i) hl.1
            exact R3.set (by rw [List.length_set]; exact hl.2)
          · cases e
theorem xs_parA {i j : Nat} {a b : Expr} {f g : Fn Cl} {x y : Str} {px py pt pt2 pos : Pos} {kt k2 : Nat} (hi : i ∉ P) (hj : j ∉ P) (hK : ∀ i, (X i).K = G.K)
    (hp : (∀ t u, (∀ j, PE (X j) a t) → (∀ j, PE (X j) b u) → ∀ k, PS (X k) (.Assign [.Tuple [.Name x px, .Name y py] kt pt] (.Tuple [a, b] k2 pt2) pos) (tPar i j (tCons t (tCons u tNil)))) ∨ (∀ t u, (∀ j, PE (X j) a t) → (∀ j, PE (X j) b u) → ∀ k, PS (X k) (.Assign [.Tuple [.Name x px, .Name y py] kt pt] (.Tuple [a, b] k2 pt2) pos) (tAsg (tTup (tCons t (tCons u tNil))) (gTup (X k).K 2 (gCons (gName i) (gCons (gName j) gNil))))))
    (h : XE G X W a f) (h' : XE G X W b g) : XS G X W P (.Assign [.Tuple [.Name x px, .Name y py] kt pt] (.Tuple [a, b] k2 pt2) pos) (sPar i j f g) := by
  rcases hp with hp | hp
  · exact xs_par hi hj hp h h'
  · exact xs_parU hi hj hp hK h h'
end
end L3

set_option maxHeartbeats 1000000
namespace L3
open PySem PySem.Spec L2 PyProof.Rows
/-! ### dict comprehensions -/
def putD {κ : Type} [DecidableEq κ] (es : List (κ × D)) (k : κ) (d : D) : List (κ × D) :=
  if (es.any fun kv => decide (kv.1 = k)) = true then es.map (fun kv => if kv.1 = k then (kv.1, d) else kv) else es ++ [(k, d)]
theorem any_ks {K : PySem.W.Frag} {F : Hp} {κ : Type} [DecidableEq κ] (k : κ) : ∀ {kvs : List (κ × V)} {es : List (κ × D)}, RpKs K F kvs es → (kvs.any fun kv => decide (kv.1 = k)) = es.any fun kv => decide (kv.1 = k)
  | _, _, .nil => rfl
  | _, _, .cons h r => by
    rw [List.any_cons, List.any_cons, any_ks k r]
theorem map_ks {K : PySem.W.Frag} {F : Hp} {κ : Type} [DecidableEq κ] {k : κ} {v : V} {d : D} (h : Rp K F v d) : ∀ {kvs : List (κ × V)} {es : List (κ × D)}, RpKs K F kvs es → RpKs K F (kvs.map fun kv => if kv.1 = k then (kv.1, v) else kv) (es.map fun kv => if kv.1 = k then (kv.1, d) else kv)
  | _, _, .nil => .nil
  | _, _, .cons (k := k') h' r => by
    rw [List.map_cons, List.map_cons]
    by_cases e : k' = k
    · rw [if_pos e, if_pos e]
      exact .cons h (map_ks h r)
    · rw [if_neg e, if_neg e]
      exact .cons h' (map_ks h r)
theorem putD_rp {K : PySem.W.Frag} {F : Hp} {κ : Type} [DecidableEq κ] {kvs : List (κ × V)} {es : List (κ × D)} (r : RpKs K F kvs es) (k : κ) {v : V} {d : D} (h : Rp K F v d) : RpKs K F (putK kvs k v) (putD es k d) := by
  unfold putK putD
  rw [any_ks k r]
  split
  · exact map_ks h r
  · exact r.append (.cons h .nil)
theorem RpKs.len {K : PySem.W.Frag} {F : Hp} {κ : Type} : ∀ {kvs : List (κ × V)} {es : List (κ × D)}, RpKs K F kvs es → kvs.length = es.length
  | _, _, .nil => rfl
  | _, _, .cons _ r => congrArg (· + 1) (RpKs.len r)
theorem putD_len {κ : Type} [DecidableEq κ] (es : List (κ × D)) (k : κ) (d : D) : (putD es k d).length ≤ es.length + 1 := by
  unfold putD
  split
  · rw [List.length_map]; omega
  · rw [List.length_append]; exact Nat.le_refl _
def keyD : D → Option Key
  | .int i => some (.inl i)
  | .str x => some (.inr x)
  | _ => none
theorem keyD_rp {K : PySem.W.Frag} {F : Hp} {v : V} {d : D} {k : Key} (h : Rp K F v d) (e : keyD d = some k) : v = kV k := by
  cases h <;> first | (cases e; done) | (cases e; rfl)
def dcF (N : Nat) (g : FG) (t : Fn Bool) (ek ev : Fn Bv) (vs : List Nat) (n : Nat) : List D → En → List (Key × D) → Option (Rz Cl)
  | [], ρ, acc => some (.ok (.dct acc) ρ)
  | d :: ds, ρ, acc => match g d ρ with
    | some ρ2 => if ρ2.length = N then (match t n ρ2 with
      | some (.ok true ρ3) => match fFz ek n ρ3 with
        | some (.ok (.fz kd) ρ4) => match keyD kd with
          | some k => match fFz ev n ρ4 with
            | some (.ok (.fz y) ρ5) => dcF N g t ek ev vs n ds (wipR ρ5 vs) (putD acc k y)
            | _ => none
          | none => none
        | _ => none
      | some (.ok false ρ3) => dcF N g t ek ev vs n ds (wipR ρ3 vs) acc
      | _ => none) else none
    | none => none
def fDc (N : Nat) (vs : List Nat) (i : Fn (List D)) (g : FG) (t : Fn Bool) (ek ev : Fn Bv) : Fn Cl := fun n ρ => bnd (i n ρ) fun ds ρ1 =>
  if (vs.all (fun j => decide (j < N)) && decide (ρ1.length = N) && decide (ds.length ≤ 1000000)) = true then dcF N g t ek ev vs n ds (wipR ρ1 vs) [] else none
section
variable {ι : Type} {G : Gd} {X : ι → Cx} {W : WX}
theorem snd_dc {N : Nat} {vs : List Nat} {wi : TI} {tg : TG} {tt : TT} {tk tv : TE} {i : Fn (List D)} {g : FG} {t : Fn Bool} {ek ev : Fn Bv} (hi : SndI G W wi i) (hg : SndG G (outP N vs) tg g) (ht : SndT G W0 tt t) (hek : SndB G W0 tk ek) (hev : SndB G W0 tv ev) : SndE G W (tDc wi tg tt tk tv vs) (fDc N vs i g t ek ev) := fun n ρ r eq F H σ T Q hR hP => by
  unfold fDc at eq
  cases q : i n ρ with
  | none => rw [q] at eq; cases eq
  | some r1 =>
    rw [q] at eq
    refine hi n ρ r1 q F H σ T _ hR ?_
    cases r1 with
    | ex x ρ' => cases eq; exact hP
    | ok ds ρ1 =>
      rw [bnd_ok] at eq
      split at eq
      case isFalse => cases eq
      rename_i hh
      rw [Bool.and_eq_true, Bool.and_eq_true] at hh
      obtain ⟨⟨hn, hN⟩, hz⟩ := hh
      have hN := of_decide_eq_true hN
      have hn : ∀ j ∈ vs, (wipR ρ1 vs)[j]? = some none := fun j hj => wipR_at ρ1 vs j hj (by
        have := of_decide_eq_true (List.all_eq_true.mp hn j hj)
        omega)
      have hz := of_decide_eq_true hz
      intro F1 H1 J s1 R1 ok Dn hD
      have lσ : ρ1.length = σ.length := R1.ok.len
      have Rw : G.R F1 H1 (wipR ρ1 vs) (wipe σ vs) T := R1.wip vs
      have Rs : G.R F1 (upd H1 Dn (.dK [])) (wipR ρ1 vs) (wipe σ vs) ((.dct [], .ref Dn) :: T) := .mk' (Rw.hr.newO hD (.dct upd_same (Rw.sub.free hD) .nil)) Rw.ok
      refine ⟨fun k m H' => ∃ ρ' F' acc, m = ds.length - k ∧ k ≤ ds.length ∧ acc.length ≤ k ∧ Same F1 F' ∧ G.R F' H' ρ' (wipe σ vs) ((.dct acc, .ref Dn) :: T) ∧ (∀ j ∈ vs, ρ'[j]? = some none) ∧ ρ'.length = N ∧ dcF N g t ek ev vs n (ds.drop k) ρ' acc = some r,
        ⟨ds.length, wipR ρ1 vs, F1, [], by simp, Nat.zero_le _, Nat.le_refl _, Same.refl _, Rs, hn, by rw [wipR_len]; exact hN, by rw [List.drop_zero]; exact eq⟩, ?_⟩
      rintro k m H' ⟨ρ', F', acc, rfl, hk, ha, s', R', hn', hN', eo⟩
      by_cases hlt : k < ds.length
      case neg =>
        have ek' : k = ds.length := by omega
        subst ek'
        rw [List.drop_length] at eo
        cases eo
        refine .inl ⟨ok.stop F' H' _ _ s' R'.hr (Nat.le_refl _), hP F' H' _ (s1.trans s') (R'.agree (wipe_length _ _).symm fun j c hc => (wipe_out fun m => by rw [hn' j m] at hc; cases hc).symm)⟩
      rw [List.drop_eq_getElem_cons hlt] at eo
      unfold dcF at eo
      cases q1 : g ds[k] ρ' with
      | none => rw [q1] at eo; cases eo
      | some ρ2 =>
        rw [q1] at eo
        dsimp only at eo
        by_cases l2 : ρ2.length = N
        case neg => rw [if_neg l2] at eo; cases eo
        rw [if_pos l2] at eo
        refine .inr ⟨ok.go F' H' _ k s' R'.hr hlt, fun H3 => ∃ ρ3 F3 acc3, acc3.length ≤ k + 1 ∧ Same F1 F3 ∧ G.R F3 H3 ρ3 (wipe σ vs) ((.dct acc3, .ref Dn) :: T) ∧ (∀ j ∈ vs, ρ3[j]? = some none) ∧ ρ3.length = N ∧ dcF N g t ek ev vs n (ds.drop (k + 1)) ρ3 acc3 = some r, ?_, ?_⟩
        · rintro H3 ⟨ρ3, F3, acc3, ha3, s3, R3, hn3, hN3, e3⟩
          exact ⟨ds.length - (k + 1), by omega, ρ3, F3, acc3, rfl, hlt, ha3, s3, R3, hn3, hN3, e3⟩
        · intro x H2 hy
          obtain ⟨F2, s2, hr2, rx⟩ := ok.yld F' H' _ k x H2 ds[k] s' R'.hr (List.getElem?_eq_getElem hlt) hy
          refine hg ds[k] ρ' ρ2 q1 F2 H2 (wipe σ vs) _ x _ ⟨hr2, R'.ok⟩ rx fun σ4 R4 k4 => ?_
          have l4 : σ4.length = σ.length := by
            have h1 := R4.ok.len
            have h2 := R'.ok.len
            rw [wipe_length] at h2
            omega
          have w4 : wipe σ4 vs = wipe σ vs := by
            have e1 : wipe σ4 vs = wipe (wipe σ vs) vs := wipe_eq (by rw [l4, wipe_length]) fun j hj m => by
              refine k4 j (List.mem_filter.mpr ⟨List.mem_range.mpr ?_, by simp [m]⟩)
              rw [wipe_length] at hj
              omega
            rw [e1]
            exact wipe_eq (wipe_length _ _) fun j hj m => wipe_out m
          refine ⟨w4, ?_⟩
          have s02 := s'.trans s2
          have back : ∀ {ρ9 : En} {F9 H9 : Hp} {acc9 : List (Key × D)}, G.R F9 H9 ρ9 σ4 ((.dct acc9, .ref Dn) :: T) → (∀ j ∈ vs, (wipR ρ9 vs)[j]? = some none) ∧ (wipR ρ9 vs).length = N := fun {ρ9 F9 H9 acc9} R9 => by
            have h1 := R9.ok.len
            have h2 := R4.ok.len
            refine ⟨fun j hj => wipR_at ρ9 vs j hj ?_, by rw [wipR_len]; omega⟩
            have := (List.getElem?_eq_some_iff.mp (hn' j hj)).1
            omega
          cases q2 : t n ρ2 with
          | none => rw [q2] at eo; cases eo
          | some o2 =>
            rw [q2] at eo
            refine ht n ρ2 o2 q2 F2 H2 σ4 _ _ R4 ?_
            cases o2 with
            | ex x ρ3 => cases eo
            | ok b ρ3 =>
              intro F3 H3 s3 R3
              cases b with
              | false =>
                rw [if_neg Bool.false_ne_true]
                dsimp only at eo
                have Rn := R3.wip vs
                rw [w4] at Rn
                exact ⟨wipR ρ3 vs, F3, acc, Nat.le_succ_of_le ha, s02.trans s3, Rn, (back R3).1, (back R3).2, eo⟩
              | true =>
                rw [if_pos rfl]
                dsimp only at eo
                cases q3 : fFz ek n ρ3 with
                | none => rw [q3] at eo; cases eo
                | some o3 =>
                  rw [q3] at eo
                  refine snd_fz hek n ρ3 o3 q3 F3 H3 σ4 _ _ R3 ?_
                  cases o3 with
                  | ex x ρ4 => cases eo
                  | ok c ρ4 =>
                    intro F4 H4 y s4 R4'
                    cases c with
                    | lst _ => cases eo
                    | dct _ => cases eo
                    | dtt _ => cases eo
                    | dlk _ => cases eo
                    | dlt _ => cases eo
                    | bx _ _ => cases eo
                    | ins _ _ => cases eo
                    | exn _ _ => cases eo
                    | fz kd =>
                      dsimp only at eo
                      cases qk : keyD kd with
                      | none => rw [qk] at eo; cases eo
                      | some key =>
                        rw [qk] at eo
                        dsimp only at eo
                        have ey := keyD_rp R4'.rp qk
                        have R5 := R4'.tail
                        cases q4 : fFz ev n ρ4 with
                        | none => rw [q4] at eo; cases eo
                        | some o4 =>
                          rw [q4] at eo
                          refine snd_fz hev n ρ4 o4 q4 F4 H4 σ4 _ _ R5 ?_
                          cases o4 with
                          | ex x ρ5 => cases eo
                          | ok c2 ρ5 =>
                            intro F5 H5 z s5 R5'
                            cases c2 with
                            | lst _ => cases eo
                            | dct _ => cases eo
                            | dtt _ => cases eo
                            | dlk _ => cases eo
                            | dlt _ => cases eo
                            | bx _ _ => cases eo
                            | ins _ _ => cases eo
                            | exn _ _ => cases eo
                            | fz dz =>
                              dsimp only at eo
                              have rz := R5'.rp
                              have R6 := R5'.tail
                              obtain ⟨A, cr⟩ := R6.cr
                              cases cr with
                              | @dct a kvs es h1 h2 r2 =>
                                refine ⟨kvs, key, ey, h1, ?_, ?_⟩
                                · rw [r2.len]
                                  exact Nat.lt_of_le_of_lt (Nat.le_trans ha (Nat.le_trans hk hz)) tM
                                · have R7 : G.R F5 (upd H5 Dn (.dK (putK kvs key z))) ρ5 σ4 ((.dct (putD acc key dz), .ref Dn) :: T) :=
                                    .mk' (R6.hr'.mut (fun A h => by cases h; rfl) (.dct upd_same h2 (putD_rp r2 key rz))) R6.ok
                                  have Rn := R7.wip vs
                                  rw [w4] at Rn
                                  refine ⟨wipR ρ5 vs, F5, putD acc key dz, ?_, ((s02.trans s3).trans s4).trans s5, Rn, (back R7).1, (back R7).2, eo⟩
                                  have := putD_len acc key dz
                                  omega
variable {P : List Nat}
theorem xe_dc0 {kx vx tg iter : Expr} {scope : Scope} {own : List (Str × Nat)} {pos : Pos} {N : Nat} {i : Fn (List D)} {g : FG} {ek ev : Fn Bv} (hc : ∀ j, (X j).calm = true) (hN : ∀ j, (X j).N.Nodup) (hi : XI G X W tg iter i) (ok : ∀ j, BlkOk (X j).N (X j).env.scope scope own)
    (hg : XG G (blkX X scope) (outP N (own.map (·.2))) tg g) (hk : XB G (blkX X scope) W0 kx ek) (he : XB G (blkX X scope) W0 vx ev) (hs : ∀ j, ∀ x, foldedSetIterable iter (X j).env x = pure x) :
    XE G X W (.DictComp kx vx [⟨tg, iter, [], 0⟩] scope pos) (fDc N (own.map (·.2)) i g fYes ek ev) := by
  obtain ⟨wi, a1, a2⟩ := hi
  obtain ⟨tg', b1, b2⟩ := hg
  obtain ⟨tk, d1, d2⟩ := hk
  obtain ⟨te, c1, c2⟩ := he
  refine ⟨_, fun j => pe_dc (hc j) (hN j) (a1 j) (ok j) (fun s H C cl fp => b1 (j, ⟨s, H, C, cl, fp⟩)) (fun _ _ _ _ _ => pts_nil) (fun s H C cl fp => d1 (j, ⟨s, H, C, cl, fp⟩)) (fun s H C cl fp => c1 (j, ⟨s, H, C, cl, fp⟩)) (hs j), snd_dc a2 b2 (fun n ρ r e F H σ T Q hR hP => ?_) d2 c2⟩
  cases e
  exact hP F H (Same.refl _) hR
/-! ### len of a dict too -/
def gLenA : List Cl → Option Cl
  | [.dct es] => some (.fz (.int es.length))
  | cs => gLen cs
def rLenB (K : PySem.W.Frag) : List V → Hp → VK → Prop := fun xs H Q => rLenA K xs H Q ∨ ∃ a kvs, xs = [V.ref a] ∧ H a = some (.dK kvs) ∧ Q (.int kvs.length) H
theorem call_lenB {Y : Cx} : CallR Y (.builtin "len") (rLenB Y.K) := call_lenA.or call_lenD
theorem prm_lenA : Prm G (rLenB G.K) gLenA := fun F H L cs vs c Q hr hc e hQ => by
  unfold gLenA at e
  split at e
  · rename_i es
    cases e
    obtain ⟨v1, A1, rfl, h1⟩ := crs1 hc
    cases h1 with
    | dct h1 h2 r => exact .inr ⟨_, _, rfl, h1, by rw [r.len]; exact hQ F H _ (Same.refl _) (hr.push (.int _))⟩
  · exact .inl (prm_len F H L cs vs c Q hr hc e hQ)
end
end L3

set_option maxHeartbeats 1000000
namespace L2
open PySem PySem.Spec PyProof.Rows
/-- the keys of a dict at hand: it is locked from here on -/
def iKeysL (td : TE) : TI := fun σ H R => td σ H fun x H1 => ∃ d kvs, x = .ref d ∧ ((∃ o, H1 d = some (.frz o (.dK kvs)) ∧ R (Itk d o kvs) H1) ∨ (H1 d = some (.dK kvs) ∧ ∀ o, R (Itk d o kvs) (upd H1 d (.frz o (.dK kvs)))))
theorem pi_keysL {X : Cx} {tg e : Expr} {td : TE} (he : PE X e td) : PI X tg e (iKeysL td) where
  run pins s σ H R I h := thn (he.run pins s σ H _ I h) fun u s1 got => by
    have ⟨x, H1, J, rel, d, kvs, ex, q⟩ := got
    cases ex
    cases rel
    have go : ∀ {o : Obj} {H2 : Hp}, Inv X pins σ H2 s1 → H2 d = some (.frz o (.dK kvs)) → R (Itk d o kvs) H2 → wpAny (model X.prog X.w) X.A (pyIter (.ref d)) (PIE X pins σ tg R) X.xe s1 := fun L at_ r => by
      have ⟨hs, gd, hx, _, _, _, dt, sz, _, _⟩ := L.frzK at_
      exact iter_keys hs gd hx dt (pi_one (tk := s1.toks) L _ (turn_keys _ dt) ⟨_, Heap.get?_push_size _ rfl, rfl, by rw [sz] <;> rfl⟩ r)
    rcases q with ⟨_, at_, r⟩ | ⟨at_, r⟩
    · exact go J at_ r
    · have ⟨o, L⟩ := J.lock at_ trivial
      exact go L upd_same (r o)
end L2
namespace L3
open PySem PySem.Spec L2 PyProof.Rows
theorem u1 {k : Nat} {A : Around} (hr : Room k A) : A.units + 1 < cLine := by
  have := hr.un
  omega
/-! ### dicts held by a slot -/
def getK (es : List (Key × D)) (k : Key) : Option D := (es.find? fun p => decide (p.1 = k)).map (·.2)
theorem getK_rp {K : PySem.W.Frag} {F : Hp} (k : Key) : ∀ {kvs : List (Key × V)} {es : List (Key × D)}, RpKs K F kvs es → (getK es k = none ∧ valV kvs k = none) ∨ ∃ v d, getK es k = some d ∧ valV kvs k = some v ∧ Rp K F v d
  | _, _, .nil => .inl ⟨rfl, rfl⟩
  | _, _, .cons (k := k') (v := v) (d := d) h r => by
    by_cases e : k' = k
    · refine .inr ⟨v, d, ?_, valV_pos e, h⟩
      simp [getK, List.find?_cons, e]
    · have e1 : ∀ es, getK ((k', d) :: es) k = getK es k := fun es => by simp [getK, List.find?_cons, e]
      rw [e1, valV_neg (p := (k', v)) e]
      exact getK_rp k r
def keysD (es : List (Key × D)) : List D := es.map fun p => kD p.1
theorem rp_kV {K : PySem.W.Frag} {F : Hp} : ∀ k : Key, Rp K F (kV k) (kD k)
  | .inl i => .int i
  | .inr x => .str x
theorem keys_rp {K : PySem.W.Frag} {F : Hp} : ∀ {kvs : List (Key × V)} {es : List (Key × D)}, RpKs K F kvs es → ∀ (i : Nat) (d : D), (keysD es)[i]? = some d → ∀ k v, kvs[i]? = some (k, v) → Rp K F (kV k) d
  | _, _, .cons (k := k') h r, 0, d, e, k, v, e2 => by
    cases e
    cases e2
    exact rp_kV _
  | _, _, .cons h r, i + 1, d, e, k, v, e2 => keys_rp r i d e k v e2
section
variable {G : Gd} {F : Hp} {a : Addr} {o : Obj} {kvs : List (Key × V)} {es : List (Key × D)}
theorem itok_keys (h : F a = some (.frz o (.dK kvs))) (r : RpKs G.K F kvs es) : ItOk G (Itk a o kvs) F (keysD es) where
  go := fun F' H' L i s hr hi => ⟨hr.sub _ _ (s _ _ h), by rw [r.len]; simpa [keysD] using hi⟩
  yld := fun F' H' L i x H'' d s hr hd hy => by
    obtain ⟨rfl, k, v, hk, rfl⟩ := hy
    exact ⟨F', Same.refl _, hr, (keys_rp r i d hd k v hk).mono s⟩
  stop := fun F' H' L i s hr hi => ⟨hr.sub _ _ (s _ _ h), by rw [r.len]; simpa [keysD] using hi⟩
end
/-- an object of one's own is frozen as another -/
theorem HR.lock {K : PySem.W.Frag} {cl : Str → Addr → Prop} {F H : Hp} {L : List (Cl × V)} {p : Addr} {o : HO} {c c' : Cl} (h : HR K cl F H ((c, .ref p) :: L)) (h1 : ∀ A, CR K cl F H c (.ref p) A → A = [p]) (hc : ∀ F', Same F F' → F' p = some o → CR K cl F' (upd H p o) c' (.ref p) []) : ∃ F', Same F F' ∧ F' p = some o ∧ HR K cl F' (upd H p o) ((c', .ref p) :: L) := by
  obtain ⟨s, A, n, q⟩ := h
  cases q with
  | cons q r =>
    have e := h1 _ q
    subst e
    have n' := List.nodup_cons.mp n
    have fp := (q.fr p (List.mem_singleton.mpr rfl)).1
    have sm : Same F (upd F p o) := fun b u e => by rw [upd_ne (ne_of_none e fp)]; exact e
    refine ⟨upd F p o, sm, upd_same, fun b u e => ?_, _, n'.2, .cons (hc _ sm upd_same) (r.mono sm fun a ha => ?_)⟩
    · by_cases hb : b = p
      · subst hb; rw [upd_same] at e ⊢; exact e
      · rw [upd_ne hb] at e ⊢; exact s _ _ e
    · have ne : a ≠ p := fun z => n'.1 (z ▸ ha)
      rw [upd_ne ne, upd_ne ne]
      exact ⟨(r.fr a ha).1, rfl⟩
section
variable {ι : Type} {G : Gd} {X : ι → Cx} {W : WX} {P : List Nat} {e ie tg : Expr} {pos : Pos}
def fIDct (k : Nat) : Fn (List D) := fun n ρ => match (ρ[k]?).join with
  | some (.dct es) => some (.ok (keysD es) (ρ.set k (some (.dlk es))))
  | some (.dlk es) => some (.ok (keysD es) ρ)
  | _ => none
theorem snd_idct {k : Nat} : SndI G W (iKeysL (tVar k)) (fIDct k) := fun n ρ r eq F H σ T Q hR hP => by
  unfold fIDct at eq
  split at eq
  · rename_i es q
    cases eq
    obtain ⟨v, hv, R1⟩ := R.take hR (join_some q)
    refine ⟨v, hv, ?_⟩
    obtain ⟨A, cr⟩ := R1.cr
    cases cr with
    | @dct a kvs _ h1 h2 r =>
      refine ⟨a, kvs, rfl, .inr ⟨h1, fun o => ?_⟩⟩
      obtain ⟨F', s, hF, h3⟩ := HR.lock (o := .frz o (.dK kvs)) (c' := .dlk es) R1.hr' (fun A h => by cases h; rfl) (fun F' s hF => .dlk hF (r.mono s))
      have hk : k < ρ.length := (List.getElem?_eq_some_iff.mp (join_some q)).1
      have R2 : G.R F' (upd H a (.frz o (.dK kvs))) (ρ.set k none) σ ((.dlk es, .ref a) :: T) := .mk' h3 R1.ok
      have R3 := R.put R2 (c := .dlk es) (i := k) (by rw [List.getElem?_set_self hk]) hv
      rw [List.set_set] at R3
      exact hP F' _ _ s R3 (itok_keys hF (r.mono s))
  · rename_i es q
    cases eq
    obtain ⟨v, hv, A, cr⟩ := hR.at (join_some q)
    refine ⟨v, hv, ?_⟩
    cases cr with
    | @dlk a o kvs _ h1 r => exact ⟨a, kvs, rfl, .inl ⟨o, hR.sub _ _ h1, hP F H _ (Same.refl _) hR (itok_keys h1 r)⟩⟩
  · cases eq
theorem xi_dct {k : Nat} (h : ∀ j, PE (X j) e (tVar k)) : XI G X W tg e (fIDct k) := ⟨_, fun j => pi_keysL (h j), snd_idct⟩
/-- d[k] -/
def dctE : Cl → Option (List (Key × D))
  | .dct es => some es
  | .dlk es => some es
  | _ => none
def gIxD : List Cl → Option Cl
  | [c, .fz kd] => match dctE c, keyD kd with
    | some es, some k => (getK es k).map .fz
    | _, _ => none
  | _ => none
def rIxK : R2 := fun x y H Q => ∃ a v, x = .ref a ∧ DGet H a y (some v) ∧ Q v H
theorem dctE_cr {F H : Hp} {c : Cl} {v : V} {A : List Addr} {es : List (Key × D)} (h : G.CR F H c v A) (s : Same F H) (e : dctE c = some es) : ∃ a kvs, v = .ref a ∧ Rd H a (.dK kvs) ∧ RpKs G.K F kvs es := by
  cases h with
  | dct h1 h2 r => cases e; exact ⟨_, _, rfl, .inl h1, r⟩
  | dlk h1 r => cases e; exact ⟨_, _, rfl, .inr ⟨_, s _ _ h1⟩, r⟩
  | _ => cases e
theorem prm_ixD : Prm G (l2 rIxK) gIxD := fun F H L cs vs c Q hr hc e hQ => by
  unfold gIxD at e
  split at e
  · obtain ⟨v1, v2, A1, A2, rfl, h1, h2⟩ := crs2 hc
    split at e
    · rename_i es k q1 q2
      obtain ⟨a, kvs, rfl, hd, r⟩ := dctE_cr h1 hr.sub q1
      have e2 := keyD_rp (h2.rpF rfl) q2
      rcases getK_rp k r with ⟨z, _⟩ | ⟨v, d, g1, g2, rd⟩
      · rw [z] at e; cases e
      · rw [g1] at e
        cases e
        exact ⟨a, v, rfl, .inl ⟨kvs, k, hd, e2, g2.symm⟩, hQ F H _ (Same.refl _) (hr.push rd)⟩
    · cases e
  · cases e
theorem xe_ixD {a b : Expr} {fa fb : Fn Bv} (hu : ∀ j, (X j).A.units + 1 < cLine) (ha : XB G X W a fa) (hb : XB G X W b fb) (hs : NoSl b) : XE G X W (.Subscript a b pos) (f2 fa fb gIxD) := by
  obtain ⟨ta, h1, h2⟩ := ha
  obtain ⟨tb, h3, h4⟩ := hb
  exact ⟨_, fun i => pe_dget (hu i) (h1 i) (h3 i) hs, snd_prm (r := l2 rIxK) (snd_cons h2 (snd_cons h4 snd_nil)) prm_ixD⟩
/-- d.get(k, x) -/
def fDG (k : Nat) (f : Fn (List Bv)) : Fn Cl := fun n ρ => match (ρ[k]?).join with
  | some c0 => if (dctE c0).isSome = true then bnd (fFzs f n ρ) fun as ρ1 => match (ρ1[k]?).join, as with
    | some c, [kd, dd] => match dctE c, keyD kd with
      | some es, some key => some (.ok (.fz ((getK es key).getD dd)) ρ1)
      | _, _ => none
    | _, _ => none
  else none
  | none => none
theorem snd_dg {k : Nat} {t u : TE} {f g : Fn Bv} (h : SndB G W t f) (h' : SndB G W u g) : SndE G W (tDGet2 (tVar k) t u) (fDG k (fCons f (fCons g fNil))) := fun n ρ rr eq F H σ T' Q hR hP => by
  unfold fDG at eq
  split at eq
  case h_2 => cases eq
  rename_i c0 q0
  split at eq
  case isFalse => cases eq
  rename_i hok
  obtain ⟨es0, hes0⟩ := Option.isSome_iff_exists.mp hok
  obtain ⟨v, hv, A, cr⟩ := hR.at (join_some q0)
  obtain ⟨a, kvs0, rfl, hd0, _⟩ := dctE_cr cr hR.sub hes0
  refine ⟨_, hv, a, rfl, .inl ⟨kvs0, hd0⟩, ?_⟩
  cases q : fFzs (fCons f (fCons g fNil)) n ρ with
  | none => rw [q] at eq; cases eq
  | some r1 =>
    rw [q] at eq
    refine snd_fzs (snd_cons h (snd_cons h' snd_nil)) n ρ r1 q F H σ T' (fun vs H3 => match vs with | [y, z] => ∃ o, DGet H3 a y o ∧ Q (o.getD z) H3 | _ => False) hR ?_
    cases r1 with
    | ex x ρ' => cases eq; exact hP
    | ok as ρ1 =>
      rw [bnd_ok] at eq
      intro F1 H1 ws s1 R1 ra
      split at eq
      case h_2 => cases eq
      rename_i c kd dd q1
      cases ra with
      | cons r1 ra => cases ra with
        | cons r2 ra => cases ra with
          | nil =>
            split at eq
            case h_2 => cases eq
            rename_i es key e1 e2
            cases eq
            obtain ⟨w, hw, A2, cr2⟩ := R1.at (join_some q1)
            rw [hv] at hw
            cases hw
            obtain ⟨a2, kvs, ea, hd, r⟩ := dctE_cr cr2 R1.sub e1
            cases ea
            have ek := keyD_rp r1 e2
            rcases getK_rp key r with ⟨g1, g2⟩ | ⟨v, d, g1, g2, rd⟩
            · refine ⟨none, .inl ⟨kvs, key, hd, ek, g2.symm⟩, ?_⟩
              exact hP F1 H1 _ s1 (R1.push (by rw [g1]; exact r2))
            · refine ⟨some v, .inl ⟨kvs, key, hd, ek, g2.symm⟩, ?_⟩
              exact hP F1 H1 _ s1 (R1.push (by rw [g1]; exact rd))
theorem xe_dg {k : Nat} {x : Str} {p1 apos : Pos} {f g : Fn Bv} {e e2 : Expr} (hu : ∀ j, (X j).A.units + 1 < cLine) (hx : ∀ j, PE (X j) (.Name x p1) (tVar k)) (h : XB G X W e f) (h' : XB G X W e2 g) (m : ∀ j, M2 (X j) (.Name x p1) "get" apos e e2 pos) :
    XE G X W (.Call (.Attribute (.Name x p1) "get" apos) [e, e2] [] pos) (fDG k (fCons f (fCons g fNil))) := by
  obtain ⟨t, h1, h2⟩ := h
  obtain ⟨u, h3, h4⟩ := h'
  exact ⟨_, fun i => pe_dget2 (hu i) (hx i) (h1 i) (h3 i) (m i), snd_dg h2 h4⟩
/-! ### d[k] = e -/
def setIxD (ρ : En) (k : Nat) (j d : D) : Option En := match (ρ[k]?).join with
  | some (.dct es) => match keyD j with
    | some key => if Nat.ble es.length 1000000 = true then some (ρ.set k (some (.dct (putD es key d)))) else none
    | none => none
  | _ => none
theorem setIxD_ok {F H : Hp} {ρ ρ' : En} {σ : L2.St} {T : List (Cl × V)} {k : Nat} {j d : D} {vj vd o : V} (e : setIxD ρ k j d = some ρ') (hR : G.R F H ρ σ T) (rj : Rp G.K F vj j) (rd : Rp G.K F vd d) (ho : σ[k]? = some (some o)) {Q : Hp → Prop} (hQ : ∀ H', G.R F H' ρ' σ T → Q H') : rSetD o vj vd H Q := by
  unfold setIxD at e
  split at e
  · rename_i es q
    split at e
    · rename_i key qk
      split at e
      · rename_i hl
        cases e
        have hl := Nat.le_of_ble_eq_true hl
        obtain ⟨w, h1, R'⟩ := R.take hR (join_some q)
        rw [ho] at h1
        cases h1
        have ek := keyD_rp rj qk
        obtain ⟨A, cr⟩ := R'.cr
        cases cr with
        | @dct a kvs _ h1 h2 r =>
          refine ⟨_, _, rfl, ek ▸ DPut.k h1 (by rw [r.len, sizeLine_eq]; omega), hQ _ ?_⟩
          have R2 : G.R F (upd H a (.dK (putK kvs key vd))) (ρ.set k none) σ ((.dct (putD es key d), .ref a) :: T) :=
            .mk' (R'.hr'.mut (fun A h => by cases h; rfl) (.dct upd_same h2 (putD_rp r key rd))) R'.ok
          have hk : k < ρ.length := (List.getElem?_eq_some_iff.mp (join_some q)).1
          have R3 := R.put R2 (c := .dct (putD es key d)) (i := k) (by rw [List.getElem?_set_self hk]) ho
          rw [List.set_set] at R3
          exact R3
      · cases e
    · cases e
  · cases e
def sSetIxD (k : Nat) (fe fi : Fn Bv) : FS := fun n ρ => bS (fFz fe n ρ) fun c ρ1 => match c with
  | .fz d => if ((ρ1[k]?).join).isSome = true then bS (fFz fi n ρ1) fun c2 ρ2 => match c2 with
    | .fz j => match setIxD ρ2 k j d with
      | some ρ3 => some (.nx ρ3)
      | none => none
    | _ => none
  else none
  | _ => none
theorem xs_setIxD {k : Nat} {x : Str} {px ps : Pos} {fe fi : Fn Bv} (hu : ∀ j, (X j).A.units + 1 < cLine) (hx : ∀ j, PE (X j) (.Name x px) (tVar k)) (hi : XB G X W ie fi) (he : XB G X W e fe)
    (hs : ∀ j, swapsWithSole [.Subscript (.Name x px) ie ps] e pos.line (X j).env = pure false) (hw : ∀ j, swappedStores [.Subscript (.Name x px) ie ps] e (X j).env = pure none) (h1 : ∀ j, (assignEach [.Subscript (.Name x px) ie ps] (X j).env).map (·.2) = [assign (.Subscript (.Name x px) ie ps) (X j).env])
    (ha : ∀ j v, assign (.Subscript (.Name x px) ie ps) (X j).env v = (do
      let ov ← holding [v] (eval (.Name x px) (X j).env)
      let iv ← holding [v, ov] (eval ie (X j).env)
      standAt ps
      holding [v, ov, iv] (setItem ov iv v)
      release [v, ov, iv] [])) : XS G X W P (.Assign [.Subscript (.Name x px) ie ps] e pos) (sSetIxD k fe fi) := by
  obtain ⟨ti, a1, a2⟩ := hi
  obtain ⟨te, b1, b2⟩ := he
  refine ⟨_, fun j => ps_asg (b1 j) (pg_sub (hx j) (a1 j) (set_dict (hu j)) (ha j)) (hs j) (hw j) (h1 j), fun n ρ o eq F H σ T D hR hP => ?_⟩
  unfold sSetIxD at eq
  cases q : fFz fe n ρ with
  | none => rw [q] at eq; cases eq
  | some r1 =>
    rw [q] at eq
    refine snd_fz b2 n ρ r1 q F H σ T _ hR ?_
    cases r1 with
    | ex x ρ' => cases eq; exact hP.px
    | ok c ρ1 =>
      rw [bS_ok] at eq
      intro F1 H1 v s1 R1
      cases c with
      | fz d =>
        dsimp only at eq
        split at eq
        · rename_i hk
          obtain ⟨ov, ho⟩ := slot_of R1 hk
          refine ⟨ov, ho, ?_⟩
          cases q2 : fFz fi n ρ1 with
          | none => rw [q2] at eq; cases eq
          | some r2 =>
            rw [q2] at eq
            refine snd_fz a2 n ρ1 r2 q2 F1 H1 σ _ _ R1 ?_
            cases r2 with
            | ex x ρ' =>
              cases eq
              exact fun F' H' cls d s r xr => hP F' H' σ cls d (s1.trans s) r.tail (Kp.refl _) xr
            | ok c2 ρ2 =>
              rw [bS_ok] at eq
              intro F2 H2 v2 s2 R2
              cases c2 with
              | fz dj =>
                dsimp only at eq
                cases q3 : setIxD ρ2 k dj d with
                | none => rw [q3] at eq; cases eq
                | some ρ3 =>
                  rw [q3] at eq
                  cases eq
                  refine setIxD_ok q3 R2.tail.tail R2.rp R2.tail.rp ho fun H' R' => hP F2 H' σ (s1.trans s2) R' (Kp.refl _)
              | lst _ => cases eq
              | dct _ => cases eq
              | dtt _ => cases eq
              | dlk _ => cases eq
              | dlt _ => cases eq
              | bx _ _ => cases eq
              | ins _ _ => cases eq
              | exn _ _ => cases eq
        · cases eq
      | lst _ => cases eq
      | dct _ => cases eq
      | dtt _ => cases eq
      | dlk _ => cases eq
      | dlt _ => cases eq
      | bx _ _ => cases eq
      | ins _ _ => cases eq
      | exn _ _ => cases eq
/-! ### the greatest of three -/
def gMax3 : List Cl → Option Cl
  | [.fz (.int i), .fz (.int j), .fz (.int k)] => some (.fz (.int (if (if i < j then j else i) < k then k else (if i < j then j else i))))
  | _ => none
theorem prm_max3 : Prm G (rNuC3 nuMax3) gMax3 := fun F H L cs vs c Q hr hc e hQ => by
  unfold gMax3 at e
  split at e
  · rename_i i j k
    cases hc with
    | cons h1 r => cases r with
      | cons h2 r => cases r with
        | cons h3 r =>
          cases r
          obtain ⟨A1, h1⟩ := h1
          obtain ⟨A2, h2⟩ := h2
          obtain ⟨A3, h3⟩ := h3
          cases cr_int h1; cases cr_int h2; cases cr_int h3
          cases e
          refine ⟨_, _, _, _, rfl, ?_, hQ F H _ (Same.refl _) (hr.push (.int _))⟩
          show ((nuLt (V.int i) (V.int j)).map fun c => if c = true then V.int j else V.int i).bind (fun m => nuMax2 m (V.int k)) = _
          show ((some (decide (i < j))).map fun c => if c = true then V.int j else V.int i).bind (fun m => nuMax2 m (V.int k)) = _
          by_cases h : i < j
          · rw [decide_eq_true h, if_pos h]
            show ((some (decide (j < k))).map fun c => if c = true then V.int k else V.int j) = _
            by_cases h2 : j < k
            · rw [decide_eq_true h2, if_pos h2]; rfl
            · rw [decide_eq_false h2, if_neg h2]; rfl
          · rw [decide_eq_false h, if_neg h]
            show ((some (decide (i < k))).map fun c => if c = true then V.int k else V.int i) = _
            by_cases h2 : i < k
            · rw [decide_eq_true h2, if_pos h2]; rfl
            · rw [decide_eq_false h2, if_neg h2]; rfl
  · cases e
/-! ### names that a comprehension hides come back -/
def restR (ρ : En) : List Nat → En → En
  | [], ρ' => ρ'
  | j :: vs, ρ' => restR ρ vs (match ρ[j]?, ρ'[j]? with
    | some (some (.fz d)), some none => ρ'.set j (some (.fz d))
    | _, _ => ρ')
theorem rest_ok {F F' H H' : Hp} {ρ : En} {σ : L2.St} {T T' : List (Cl × V)} (hR : G.R F H ρ σ T) (s : Same F F') : ∀ (vs : List Nat) (ρ' : En), G.R F' H' ρ' σ T' → G.R F' H' (restR ρ vs ρ') σ T'
  | [], _, h => h
  | j :: vs, ρ', h => by
    refine rest_ok hR s vs _ ?_
    split
    · rename_i d h1 h2
      obtain ⟨v, hv, A, cr⟩ := hR.at h1
      exact R.put (h.push ((cr.rpF rfl).mono s)) h2 hv
    · exact h
def fRest (vs : List Nat) (f : Fn Cl) : Fn Cl := fun n ρ => match f n ρ with
  | some (.ok c ρ') => some (.ok c (restR ρ vs ρ'))
  | r => r
theorem xe_rest (vs : List Nat) {f : Fn Cl} (h : XE G X W e f) : XE G X W e (fRest vs f) := by
  obtain ⟨t, h1, h2⟩ := h
  refine ⟨t, h1, fun n ρ r eq F H σ T Q hR hP => ?_⟩
  unfold fRest at eq
  split at eq
  · rename_i c ρ' q
    cases eq
    exact h2 n ρ _ q F H σ T Q hR fun F' H' v s R' => hP F' H' v s (rest_ok hR s vs ρ' R')
  · exact h2 n ρ r eq F H σ T Q hR hP
/-! ### lists in a handler: not too long -/
theorem sl_nil : ∀ (x : Ex) (ds : List D), (fun _ : Ex => some ([] : List D)) x = some ds → ds.length ≤ 0 := fun x ds h => by
  cases h
  exact Nat.le_refl _
theorem sl_str {g : Ex → Option (List D)} {n : Nat} {d : D} (h : ∀ x ds, g x = some ds → ds.length ≤ n) : ∀ (x : Ex) (ds : List D), (g x).map (d :: ·) = some ds → ds.length ≤ n + 1 := fun x ds e => by
  cases q : g x with
  | none => rw [q] at e; cases e
  | some l =>
    rw [q] at e
    cases e
    exact Nat.succ_le_succ (h x l q)
theorem sl_fld {f : Ex → Option D} {g : Ex → Option (List D)} {n : Nat} (h : ∀ x ds, g x = some ds → ds.length ≤ n) : ∀ (x : Ex) (ds : List D), ((f x).bind fun d => (g x).map (d :: ·)) = some ds → ds.length ≤ n + 1 := fun x ds e => by
  cases q : f x with
  | none => rw [q] at e; cases e
  | some d =>
    rw [q] at e
    exact sl_str h x ds e
/-! max of a list of ints -/
def maxI : List Int → Int
  | [] => 0
  | x :: xs => match xs with
    | [] => x
    | _ :: _ => if x < maxI xs then maxI xs else x
theorem maxI_ok : ∀ ns : List Int, ns ≠ [] → maxI ns ∈ ns ∧ ∀ y ∈ ns, y ≤ maxI ns
  | [], h => absurd rfl h
  | [x], _ => ⟨List.mem_singleton.mpr rfl, fun y hy => by rw [List.mem_singleton.mp hy]; exact Int.le_refl _⟩
  | x :: y :: r, _ => by
    obtain ⟨h1, h2⟩ := maxI_ok (y :: r) (by simp)
    have e : maxI (x :: y :: r) = if x < maxI (y :: r) then maxI (y :: r) else x := rfl
    rw [e]
    by_cases h : x < maxI (y :: r)
    · rw [if_pos h]
      refine ⟨List.mem_cons_of_mem _ h1, fun z hz => ?_⟩
      rcases List.mem_cons.mp hz with q | q
      · omega
      · exact h2 z q
    · rw [if_neg h]
      refine ⟨List.mem_cons_self, fun z hz => ?_⟩
      rcases List.mem_cons.mp hz with q | q
      · omega
      · have := h2 z q
        omega
def gMaxL : List Cl → Option Cl
  | [c] => match c.data with
    | some (.list ds) => match intsD ds with
      | some ns => if ns.length = 0 then none else some (.fz (.int (maxI ns)))
      | none => none
    | _ => none
  | _ => none
theorem prm_maxL : Prm G (rMax G.K) gMaxL := fun F H L cs vs c Q hr hc e hQ => by
  unfold gMaxL at e
  split at e
  · obtain ⟨v1, A1, rfl, h1⟩ := crs1 hc
    split at e
    · rename_i ds q
      obtain ⟨a, ws, rfl, q1, r1⟩ := h1.seqL hr.sub q
      cases q2 : intsD ds with
      | none => rw [q2] at e; cases e
      | some ns =>
        rw [q2] at e
        dsimp only at e
        split at e
        · cases e
        · rename_i h0
          cases e
          have ed := intsD_ok q2
          subst ed
          have ew := r1.ints
          subst ew
          obtain ⟨m1, m2⟩ := maxI_ok ns fun z => h0 (by rw [z]; rfl)
          refine ⟨_, _, rfl, q1, by omega, fun m h2 h3 => ?_⟩
          have : m = maxI ns := Int.le_antisymm (m2 m h2) (h3 _ m1)
          rw [this]
          exact hQ F H _ (Same.refl _) (hr.push (.int _))
    · cases e
  · cases e
/-! a, b, .. = a list by its name: the list is looked at, not frozen -/
def sUnp (k n : Nat) (g : FGs) : FS := fun _ ρ => match (ρ[k]?).join with
  | some (.lst ds) => if ds.length = n then (match g ds ρ with
    | some ρ2 => some (.nx ρ2)
    | none => none) else none
  | _ => none
theorem xs_unp {k n m : Nat} {x : Str} {px p2 : Pos} {es : List Expr} {f : FGs} (hK : ∀ j, (X j).K = G.K) (hx : ∀ j, PE (X j) (.Name x px) (tVar k)) (hc : ∀ i, (X i).calm = true) (h : XGs G X P es f) (hn : ∀ i, (assignEach es (X i).env).length = n) (hst : ∀ i, (assignEach es (X i).env).findIdx? (·.1) = none)
    (hs : ∀ i, swapsWithSole [.Tuple es m p2] (.Name x px) pos.line (X i).env = pure false) (hw : ∀ i, swappedStores [.Tuple es m p2] (.Name x px) (X i).env = pure none)
    (h1 : ∀ i, (assignEach [.Tuple es m p2] (X i).env).map (·.2) = [assign (.Tuple es m p2) (X i).env]) : XS G X W P (.Assign [.Tuple es m p2] (.Name x px) pos) (sUnp k n f) := by
  obtain ⟨t, b1, b2⟩ := h
  refine ⟨_, fun i => ps_asg (hx i) (by have := pg_lst (k := m) (pos := p2) (hc i) (b1 i) (hn i) (hst i); rw [hK i] at this; exact this) (hs i) (hw i) (h1 i), fun n' ρ o e F H σ T D hR hP => ?_⟩
  unfold sUnp at e
  split at e
  case h_2 => cases e
  rename_i ds q
  split at e
  case isFalse => cases e
  rename_i hl
  cases q2 : f ds ρ with
  | none => rw [q2] at e; cases e
  | some ρ2 =>
    rw [q2] at e
    cases e
    obtain ⟨v, h1, R'⟩ := R.take hR (join_some q)
    obtain ⟨A, cr⟩ := R'.cr
    cases cr with
    | lst a1 a2 r =>
      refine ⟨_, h1, _, _, rfl, .inl (.inl a1), by rw [r.length]; exact hl, ?_⟩
      exact b2 ds ρ ρ2 q2 F H σ T _ _ hR r fun σ' R2 k => hP F H σ' (Same.refl _) R2 k
end
end L3

set_option maxHeartbeats 1000000
namespace L2
open PySem PySem.Spec PyProof.Rows
/-- a text of one sign so often -/
theorem op_repS {X : Cx} : OpR X (binaryOp .Mult) (fun x y H Q => ∃ (c n : Nat), x = .str ⟨#[c]⟩ ∧ y = .int (n : Int) ∧ n ≤ 1000000 ∧ Q (.str ⟨(List.replicate n c).toArray⟩) H) := by
  intro pins s σ H x y v u Q I rx ry h
  obtain ⟨c, n, rfl, rfl, hn, q⟩ := h
  obtain ⟨t, rfl⟩ := rx
  obtain ⟨t', rfl⟩ := ry
  have l1 : (⟨#[c]⟩ : Str).length = 1 := rfl
  have f0 : ∀ (m : Nat) (acc : List Nat), List.foldl (fun x1 x2 => x1 ++ x2) acc.toArray (List.replicate m #[c]) = (acc ++ List.replicate m c).toArray := fun m => by
    induction m with
    | zero => intro acc; simp
    | succ m ih =>
      intro acc
      rw [List.replicate_succ, List.foldl_cons]
      have : acc.toArray ++ #[c] = (acc ++ [c]).toArray := by simp
      rw [this, ih, List.replicate_succ, List.append_assoc]
      rfl
  have sz : (sizeLine : Nat) = 16777216 := sizeLine_eq
  have hrg : (decide ((n : Int) < -(2 ^ 63 : Int)) || decide ((n : Int) ≥ 2 ^ 63)) = false := by
    rw [decide_eq_false (by omega), decide_eq_false (by omega)]; rfl
  by_cases h0 : n = 0
  · subst h0
    refine PySem.P.mul_str hrg (fun h => absurd (show ((0 : Nat) : Int) < 1 by decide) h) (fun h => absurd (show ((0 : Nat) : Int) < 1 by decide) h) ?_
    rw [if_pos (by decide)]
    exact ⟨by decide, ⟨.str _, H, I.tok _, ⟨_, rfl⟩, q⟩⟩
  by_cases h1 : n = 1
  · subst h1
    refine PySem.P.mul_str hrg (fun _ h => nomatch (show true = false from h)) (fun _ h => nomatch (show true = false from h)) ?_
    rw [if_neg (by decide), if_pos (by rfl)]
    exact ⟨.str _, H, I, ⟨_, rfl⟩, q⟩
  have h2 : 2 ≤ n := by omega
  have n1 : ¬ ((n : Int) < 1) := by omega
  have b1 : ((n : Int) == 1 || (⟨#[c]⟩ : Str).length == 0) = false := by
    rw [l1, Bool.or_eq_false_iff]
    exact ⟨beq_eq_false_iff_ne.mpr (by omega), rfl⟩
  refine PySem.P.mul_str hrg (fun _ _ => ?_) (fun _ _ => ?_) ?_
  · rw [l1]
    have : (1 : Int) ≤ (2 ^ 63 - 1) / (n : Int) := by
      refine Int.le_ediv_of_mul_le (by omega) ?_
      omega
    omega
  · unfold Builtin.Str.tooLong
    refine decide_eq_false ?_
    rw [l1, Nat.one_mul, Int.toNat_natCast]
    omega
  · rw [if_neg n1, if_neg (by rw [b1]; exact Bool.false_ne_true)]
    have e : (⟨List.foldl (fun x1 x2 => x1 ++ x2) #[] (List.replicate (n : Int).toNat (⟨#[c]⟩ : Str).cps)⟩ : Str) = ⟨(List.replicate n c).toArray⟩ := by
      have := f0 n []
      rw [List.nil_append] at this
      rw [Int.toNat_natCast]
      exact congrArg Str.mk this
    rw [e]
    refine ⟨?_, ⟨.str _, H, I.tok _, ⟨_, rfl⟩, q⟩⟩
    show (List.replicate n c).toArray.size ≤ sizeLine
    rw [List.size_toArray, List.length_replicate]
    omega
end L2
namespace L3
open PySem PySem.Spec L2 PyProof.Rows
/-! ### texts -/
section
variable {ι : Type} {G : Gd} {X : ι → Cx} {W : WX} {P : List Nat} {e e2 ie tg : Expr} {pos : Pos}
def gRepS : List Cl → Option Cl
  | [.fz (.str x), .fz (.int k)] => match x.cps.toList with
    | [c] => if (Nat.ble k.toNat 1000000 && decide (0 ≤ k)) = true then some (.fz (.str ⟨(List.replicate k.toNat c).toArray⟩)) else none
    | _ => none
  | _ => none
theorem str_one {x : Str} {c : Nat} (h : x.cps.toList = [c]) : x = ⟨#[c]⟩ := by
  obtain ⟨a⟩ := x
  congr 1
  have : a.toList = [c] := h
  exact Array.toList_inj.mp this
theorem prm_repS : Prm G (l2 (fun x y H Q => ∃ (c n : Nat), x = V.str ⟨#[c]⟩ ∧ y = V.int (n : Int) ∧ n ≤ 1000000 ∧ Q (.str ⟨(List.replicate n c).toArray⟩) H)) gRepS := fun F H L cs vs c Q hr hc e hQ => by
  unfold gRepS at e
  split at e
  · rename_i x k
    obtain ⟨v1, v2, A1, A2, rfl, h1, h2⟩ := crs2 hc
    cases cr_str h1; cases cr_int h2
    split at e
    · rename_i c hx
      split at e
      · rename_i hk
        simp only [Bool.and_eq_true, decide_eq_true_eq] at hk
        obtain ⟨b, d⟩ := hk
        have b := Nat.le_of_ble_eq_true b
        cases e
        have := str_one hx
        subst this
        obtain ⟨n, rfl⟩ : ∃ n : Nat, k = n := ⟨k.toNat, by omega⟩
        rw [Int.toNat_natCast] at b
        refine ⟨c, n, rfl, rfl, b, ?_⟩
        exact hQ F H _ (Same.refl _) (hr.push (.str _))
      · cases e
    · cases e
  · cases e
/-! int of a text, text of an int -/
def gIntA : List Cl → Option Cl
  | [.fz (.str x)] => if Nat.ble x.length 640 = true then (intText? x).map fun n => .fz (.int n) else none
  | cs => gInt cs
theorem call_intA {Y : Cx} : CallR Y (.type "int") (fun xs H Q => ((∃ i, xs = [.int i] ∧ Q (.int i) H) ∨ ∃ k, xs = [.bl k] ∧ Q (.int (if k then 1 else 0)) H) ∨ ∃ a n, xs = [.str a] ∧ PySem.intText? a = some n ∧ a.length ≤ 640 ∧ Q (.int n) H) := call_int1.or call_int_str
theorem prm_intA : Prm G (fun xs H Q => ((∃ i, xs = [V.int i] ∧ Q (.int i) H) ∨ ∃ k, xs = [V.bl k] ∧ Q (.int (if k then 1 else 0)) H) ∨ ∃ a n, xs = [V.str a] ∧ PySem.intText? a = some n ∧ a.length ≤ 640 ∧ Q (.int n) H) gIntA := fun F H L cs vs c Q hr hc e hQ => by
  unfold gIntA at e
  split at e
  · rename_i x
    obtain ⟨v1, A1, rfl, h1⟩ := crs1 hc
    cases cr_str h1
    split at e
    · rename_i hl
      have hl := Nat.le_of_ble_eq_true hl
      cases q : intText? x with
      | none => rw [q] at e; cases e
      | some n =>
        rw [q] at e
        cases e
        exact .inr ⟨_, n, rfl, q, hl, hQ F H _ (Same.refl _) (hr.push (.int _))⟩
    · cases e
  · exact .inl (prm_int F H L cs vs c Q hr hc e hQ)
def txt (i : Int) : Str := Str.ofString (toString i)
def gStr : List Cl → Option Cl
  | [.fz (.int i)] => if Nat.blt i.natAbs.log2 1920 = true then some (.fz (.str (txt i))) else none
  | _ => none
theorem prm_str : Prm G (fun xs H Q => ∃ i, xs = [V.int i] ∧ i.natAbs.log2 < 1920 ∧ Q (.str (toString i)) H) gStr := fun F H L cs vs c Q hr hc e hQ => by
  unfold gStr at e
  split at e
  · rename_i i
    obtain ⟨v1, A1, rfl, h1⟩ := crs1 hc
    cases cr_int h1
    split at e
    · rename_i hl
      cases e
      exact ⟨i, rfl, Nat.le_of_ble_eq_true hl, hQ F H _ (Same.refl _) (hr.push (.str _))⟩
    · cases e
  · cases e
/-! one sign in a text -/
def gInS (neg : Bool) : List Cl → Option Cl
  | [.fz (.str x), .fz (.str z)] => match x.cps.toList with
    | [c] => some (.fz (.bool (if neg = true then !decide (c ∈ z.cps.toList) else decide (c ∈ z.cps.toList))))
    | _ => none
  | _ => none
theorem prm_inS : Prm G (l2 rInS) (gInS false) := fun F H L cs vs c Q hr hc e hQ => by
  unfold gInS at e
  split at e
  · obtain ⟨v1, v2, A1, A2, rfl, h1, h2⟩ := crs2 hc
    cases cr_str h1; cases cr_str h2
    split at e
    · rename_i c hx
      cases e
      have := str_one hx
      subst this
      exact ⟨c, _, rfl, rfl, hQ F H _ (Same.refl _) (hr.push (.bl _))⟩
    · cases e
  · cases e
/-! signs of a text, one by one -/
def signsD (x : Str) : List D := x.cps.toList.map fun c => .str ⟨#[c]⟩
theorem itok_str {F : Hp} (x : Str) : ItOk G (Its x) F (signsD x) where
  go := fun F' H' L i s hr hi => by
    have : i < x.cps.toList.length := by simpa [signsD] using hi
    show i < x.cps.size
    simpa using this
  yld := fun F' H' L i v H'' d s hr hd hy => by
    obtain ⟨rfl, c, hc, rfl⟩ := hy
    refine ⟨F', Same.refl _, hr, ?_⟩
    unfold signsD at hd
    rw [List.getElem?_map] at hd
    have hc : x.cps.toList[i]? = some c := by simpa using hc
    rw [hc] at hd
    cases hd
    exact .str _
  stop := fun F' H' L i s hr hi => by
    have : x.cps.toList.length ≤ i := by simpa [signsD] using hi
    show x.cps.size ≤ i
    simpa using this
def fIStr (f : Fn Bv) : Fn (List D) := fun n ρ => bnd (fFz f n ρ) fun c ρ1 => match c with
  | .fz (.str x) => some (.ok (signsD x) ρ1)
  | _ => none
theorem snd_istr {t : TE} {f : Fn Bv} (h : SndB G W t f) : SndI G W (iStr t) (fIStr f) := fun n ρ r e F H σ T Q hR hP => by
  unfold fIStr at e
  cases q : fFz f n ρ with
  | none => rw [q] at e; cases e
  | some r1 =>
    rw [q] at e
    refine snd_fz h n ρ r1 q F H σ T _ hR ?_
    cases r1 with
    | ex x ρ' => cases e; exact hP
    | ok c ρ1 =>
      rw [bnd_ok] at e
      intro F1 H1 v s1 R1
      split at e
      · rename_i x
        cases e
        have := R1.rp
        cases this
        exact ⟨x, rfl, hP F1 H1 _ s1 R1.tail (itok_str x)⟩
      · cases e
theorem xi_str {f : Fn Bv} (h : XB G X W e f) : XI G X W tg e (fIStr f) := by
  obtain ⟨t, h1, h2⟩ := h
  exact ⟨_, fun i => pi_str (h1 i), snd_istr h2⟩
/-! methods of a text -/
def fMvS (f0 : Fn Bv) (fs : Fn (List Bv)) (g : Str → List D → Option Cl) : Fn Cl := fun n ρ => bnd (fFz f0 n ρ) fun c ρ1 => match c with
  | .fz (.str x) => bnd (fFzs fs n ρ1) fun as ρ2 => match g x as with
    | some r => some (.ok r ρ2)
    | none => none
  | _ => none
def SndMV (G : Gd) (r : V → List V → Hp → VK → Prop) (g : Str → List D → Option Cl) : Prop :=
  ∀ x as c, g x as = some c → ∀ F H L ws (Q : VK), G.HR F H L → RpA G.K F ws as → (∀ F' H' u, Same F F' → G.HR F' H' ((c, u) :: L) → Q u H') → r (.str x) ws H Q
theorem snd_mvS {t : TE} {ta : TA} {f0 : Fn Bv} {fs : Fn (List Bv)} {r : V → List V → Hp → VK → Prop} {g : Str → List D → Option Cl} (h0 : SndB G W t f0) (hs : SndBs G W ta fs) (hg : SndMV G r g) : SndE G W (tBM G.K "str" r t ta) (fMvS f0 fs g) := fun n ρ rr e F H σ T Q hR hP => by
  unfold fMvS at e
  cases q : fFz f0 n ρ with
  | none => rw [q] at e; cases e
  | some r1 =>
    rw [q] at e
    refine snd_fz h0 n ρ r1 q F H σ T _ hR ?_
    cases r1 with
    | ex x ρ' => cases e; exact hP
    | ok c ρ1 =>
      rw [bnd_ok] at e
      intro F1 H1 v s1 R1
      split at e
      case h_2 => cases e
      rename_i x
      have rv := R1.rp
      cases rv
      refine ⟨rfl, ?_⟩
      cases q2 : fFzs fs n ρ1 with
      | none => rw [q2] at e; cases e
      | some r2 =>
        rw [q2] at e
        refine snd_fzs hs n ρ1 r2 q2 F1 H1 σ T _ R1.tail ?_
        cases r2 with
        | ex y ρ' =>
          cases e
          exact fun F' H' cls d s R' hx => hP F' H' cls d (s1.trans s) R' hx
        | ok as ρ2 =>
          rw [bnd_ok] at e
          intro F2 H2 ws s2 R2 ra
          split at e
          case h_2 => cases e
          rename_i cr qc
          cases e
          exact hg x as cr qc F2 H2 _ ws _ R2.hr ra fun F' H' u s hr => hP F' H' u ((s1.trans s2).trans s) (.mk' hr R2.ok)
def gSplit : Str → List D → Option Cl
  | a, [.str b] => if (!(b.length == 0) && Nat.ble a.length 10000000) = true then some (.lst ((Txt.split a b).map .str)) else none
  | _, _ => none
def rSplit1 : V → List V → Hp → VK → Prop := fun x xs H Q => ∃ a b, x = .str a ∧ xs = [.str b] ∧ (b.length == 0) = false ∧ a.length + 2 ≤ sizeLine ∧ rNewStrs (Txt.split a b) H Q
theorem rpA_strs {K : PySem.W.Frag} {F : Hp} : ∀ ys : List Str, RpA K F (ys.map V.str) (ys.map .str)
  | [] => .nil
  | y :: ys => .cons (.str y) (rpA_strs ys)
theorem smv_split : SndMV G rSplit1 gSplit := fun x as c e F H L ws Q hr ra hQ => by
  unfold gSplit at e
  split at e
  · rename_i b
    split at e
    · rename_i hh
      rw [Bool.and_eq_true] at hh
      cases e
      cases ra with
      | cons r1 ra =>
        cases ra
        cases r1
        have hl := Nat.le_of_ble_eq_true hh.2
        refine ⟨x, b, rfl, rfl, by simpa using hh.1, by rw [sizeLine_eq]; omega, fun p hp => hQ F _ _ (Same.refl _) (HR.lstN hr hp (rpA_strs _))⟩
    · cases e
  · cases e
def strsD : List D → Option (List Str)
  | [] => some []
  | .str x :: ds => match strsD ds with
    | some xs => some (x :: xs)
    | none => none
  | _ => none
theorem strsD_rp {K : PySem.W.Frag} {F : Hp} : ∀ {vs : List V} {ds : List D} {ys : List Str}, RpA K F vs ds → strsD ds = some ys → vs = ys.map V.str
  | _, _, ys, .nil, h => by cases h; rfl
  | _, _, ys, .cons (v := v) (d := d) (ds := ds) r ra, h => by
    cases d with
    | str x =>
      cases r
      have h : (match strsD ds with | some xs => some (x :: xs) | none => none) = some ys := h
      cases q : strsD ds with
      | none => rw [q] at h; cases h
      | some xs =>
        rw [q] at h
        cases h
        rw [strsD_rp ra q]; rfl
    | _ => cases h
def gJoin : Str → List D → Option Cl
  | a, [d] => match asSeq d with
    | some ds => match strsD ds with
      | some ys => if Nat.ble ((ys.map (·.length)).sum + ys.length * a.length) 10000000 = true then some (.fz (.str (Txt.join a ys))) else none
      | none => none
    | none => none
  | _, _ => none
def rJoin1 (K : PySem.W.Frag) : V → List V → Hp → VK → Prop := fun x xs H Q => ∃ a p, ∃ ys : List Str, x = .str a ∧ xs = [.ref p] ∧ (SqL K H p (ys.map V.str) ∨ SqT K H p (ys.map V.str)) ∧
    (ys.map (·.length)).sum + ys.length * a.length ≤ 16777216 ∧ Q (.str (Txt.join a ys)) H
theorem smv_join : SndMV G (rJoin1 G.K) gJoin := fun x as c e F H L ws Q hr ra hQ => by
  unfold gJoin at e
  split at e
  case h_2 => cases e
  rename_i d
  split at e
  case h_2 => cases e
  rename_i ds q1
  split at e
  case h_2 => cases e
  rename_i ys q2
  split at e
  case isFalse => cases e
  rename_i hz
  have hz := Nat.le_of_ble_eq_true hz
  cases e
  cases ra with
  | cons r1 ra =>
    cases ra
    unfold asSeq at q1
    split at q1
    · cases q1
      cases r1 with
      | lst h1 r =>
        have := strsD_rp r q2
        subst this
        exact ⟨x, _, ys, rfl, rfl, .inl (hr.sub.seq h1), by omega, hQ F H _ (Same.refl _) (hr.push (.str _))⟩
    · cases q1
      cases r1 with
      | tup h1 r =>
        have := strsD_rp r q2
        subst this
        exact ⟨x, _, ys, rfl, rfl, .inr (sameT hr.sub h1), by omega, hQ F H _ (Same.refl _) (hr.push (.str _))⟩
    · cases q1
theorem xe_mvS {o : Expr} {es : List Expr} {m : Str} {p2 : Pos} {f0 : Fn Bv} {fs : Fn (List Bv)} {r : V → List V → Hp → VK → Prop} {g : Str → List D → Option Cl} (hK : ∀ i, (X i).K = G.K)
    (hp : ∀ (to : TE) (t : TA), (∀ j, PE (X j) o to) → (∀ j, PA (X j) (e :: es) t) → ∀ j, PE (X j) (.Call (.Attribute o m p2) (e :: es) [] pos) (tBM (X j).K "str" r to t)) (hs : SndMV G r g) (h0 : XB G X W o f0) (h : XBs G X W (e :: es) fs) :
    XE G X W (.Call (.Attribute o m p2) (e :: es) [] pos) (fMvS f0 fs g) := by
  obtain ⟨to, a1, a2⟩ := h0
  obtain ⟨t, h1, h2⟩ := h
  exact ⟨_, fun i => by have := hp to t a1 h1 i; rw [hK i] at this; exact this, snd_mvS a2 h2 hs⟩
end
end L3

set_option maxHeartbeats 1000000
namespace L2
open PySem PySem.Spec PyProof.Rows
/-! ### sorted(d): ints as keys, however many -/
def rSortDK : List V → Hp → VK → Prop := fun us H Q => ∃ (d : Addr) (ps : List (Key × V)) (is : List Int), us = [.ref d] ∧ Rd H d (.dK ps) ∧ ps.map (·.1) = is.map Sum.inl ∧
  ∀ (js : List Int) (q : Addr), js.Perm is → js.Pairwise (· ≤ ·) → H q = none → Q (.ref q) (upd H q (.lst (js.map V.int)))
theorem int_key {b : Int} {v : Value} (h : keyIs (.inl b) v = true) : ∃ t, v = .int b t := by
  rcases keyIs_shape h with ⟨_, t, e, ev⟩ | ⟨_, _, e, _⟩
  · exact ⟨t, Sum.inl.inj e ▸ ev⟩
  · exact nomatch e
/-- list.sort of ints, on a list just laid: the heap keeps what stood, and the list holds them in order -/
theorem sort_laid {prog : Program} {w : World} {A : Around} {E : Value → Shared → Prop} {s : Shared} {us : List Value} {is : List Int} {Q : Value → Shared → Prop} (each : IntsAre us is) (room : us.length ≤ sizeLine)
    (q : ∀ (h' : Heap) (js : List Int) (ws : List Value) (n : Nat), js.Perm is → js.Pairwise (· ≤ ·) → IntsAre ws js → (∀ c o, s.heap.get? c = some o → h'.get? c = some o) →
      h'.get? s.heap.objs.size = some { cls := .type "list", data := .seq ws.toArray n } → Q .none { s with heap := h' }) :
    wpAny (model prog w) A (call (.builtin "list.sort") [.ref s.heap.objs.size]) Q E { s with heap := s.heap.push (seqObj "list" us.toArray 0) } := by
  have here : (s.heap.push (seqObj "list" us.toArray 0)).get? s.heap.objs.size = some (seqObj "list" us.toArray 0) := Heap.get?_push_size _ rfl
  refine wpAny_call_entry PyProof.Rows.slot_list_sort ⟨_, here, rfl⟩ PyProof.Rows.entry_list_sort (SrtO.list_sort_ord (s := { s with heap := s.heap.push (seqObj "list" us.toArray 0) }) SrtO.swo_int here room (fun two => SrtO.ints_sortable each two) fun res srt bag => ⟨_, rfl, ?_⟩) (PyProof.Rows.args_list_sort _)
  have ⟨all, perm, up⟩ := SrtO.ints_out each srt bag
  have ⟨n, at_⟩ := PyProof.Rows.sortedHeap_at (vs := us) (out := res.toArray) here
  refine q _ _ _ n perm up all (fun c o e => ?_) at_
  have lt := Heap.lt_size e
  exact (PyProof.Rows.sortedHeap_old (Nat.ne_of_lt lt) (by rw [size_push']; exact Nat.lt_succ_of_lt lt)).trans (Heap.get?_push_of_some _ e)
theorem cr_sortDK {X : Cx} (hcm : X.calm = true) : CallR X (.builtin "sorted") rSortDK := by
  rintro pins s σ H _ us Q I rel ⟨d, kvs, is, rfl, rd, ks, q⟩
  have ⟨u, eu, ru⟩ := vals1 rel
  cases eu
  cases ru
  have ⟨fit, lo, ws, rk, dd⟩ := dk_rd I.hok rd
  have ⟨ep, at_⟩ := dd.dictAt
  have keys : ws.map (·.1) = is.map Sum.inl := rk.keys.symm.trans ks
  have len : ws.length = is.length := by simpa using congrArg List.length keys
  have room : ws.length ≤ sizeLine := rk.length ▸ fit
  refine Calls.call_function_entry PyProof.Rows.kind_sorted PyProof.Rows.plain_sorted PyProof.Rows.entry_sorted (PyProof.Rows.args_sorted1 _) ?_
  unfold Builtin.«sorted»
  refine wpAny_bind (m := checkCount "sorted" 1 1 _) (wpAny_pure (wpAny_bind (PySem.W.kdu_collect (A := X.A.in1) (PySem.W.kdl_dict (knd := mixKind X.prog X.w) (kvs := ws) (ep := ep) lo) (I.ok.hd hcm) at_ room fun h1 tk got kept each => ?_)))
  have many : got.toList.length = is.length := by rw [Array.length_toList, each.1, len]
  have whole : IntsAre got.toList is := ints_each many fun j v e => by
    have ⟨k, y, e1, e2⟩ := each.2 j v ((Array.getElem?_toList ..).symm.trans e)
    have e3 : (is.map Sum.inl)[j]? = some k := by rw [← keys, List.getElem?_map, e1]; rfl
    rw [List.getElem?_map] at e3
    have ⟨b, eb, ek⟩ := Option.map_eq_some_iff.mp e3
    have ⟨t, et⟩ := int_key (b := b) (v := v) (ek ▸ e2)
    exact ⟨b, t, eb, et⟩
  have room' : got.toList.length ≤ sizeLine := by rw [many, ← len]; exact room
  have J : Inv X pins σ H { s with heap := h1, toks := tk } := I.kept kept
  refine wpAny_bind (wpAny_newList (wpAny_bind (wpAny_holding (sort_laid (s := { s with heap := h1, toks := tk }) whole room' fun h2 js vs n perm up all old at2 => ?_))) room')
  have L := J.laid (t' := tk) (o := .lst (js.map V.int)) old (Nat.le_refl _) ⟨by rw [List.length_map, perm.length_eq, ← many]; exact room', vs, n, vals_of_ints all, at2⟩
  exact wpAny_pure ⟨_, rfl, .ref h1.objs.size, _, L, rfl, q _ _ perm up (J.hok.fresh (Nat.le_refl _))⟩
end L2
namespace L3
open PySem PySem.Spec L2 PyProof.Rows
/-! ### what sorting comes to -/
def insI (x : Int) : List Int → List Int
  | [] => [x]
  | y :: ys => if x ≤ y then x :: y :: ys else y :: insI x ys
def sortI : List Int → List Int
  | [] => []
  | x :: xs => insI x (sortI xs)
theorem insI_perm (x : Int) : ∀ ys : List Int, (insI x ys).Perm (x :: ys)
  | [] => .refl _
  | y :: ys => by
    unfold insI
    split
    · exact .refl _
    · exact (List.Perm.cons y (insI_perm x ys)).trans (.swap x y ys)
theorem sortI_perm : ∀ xs : List Int, (sortI xs).Perm xs
  | [] => .refl _
  | x :: xs => (insI_perm x _).trans (List.Perm.cons x (sortI_perm xs))
theorem insI_pw (x : Int) : ∀ ys : List Int, ys.Pairwise (· ≤ ·) → (insI x ys).Pairwise (· ≤ ·)
  | [], _ => List.pairwise_singleton _ _
  | y :: ys, h => by
    have h' := List.pairwise_cons.mp h
    unfold insI
    split
    · rename_i hx
      refine List.pairwise_cons.mpr ⟨fun z hz => ?_, h⟩
      rcases List.mem_cons.mp hz with e | hz
      · rw [e]; exact hx
      · exact Int.le_trans hx (h'.1 z hz)
    · rename_i hx
      refine List.pairwise_cons.mpr ⟨fun z hz => ?_, insI_pw x ys h'.2⟩
      rcases List.mem_cons.mp ((insI_perm x ys).mem_iff.mp hz) with e | hz
      · rw [e]; omega
      · exact h'.1 z hz
theorem sortI_pw : ∀ xs : List Int, (sortI xs).Pairwise (· ≤ ·)
  | [] => .nil
  | x :: xs => insI_pw x _ (sortI_pw xs)
theorem pw_uniq : ∀ xs ys : List Int, xs.Perm ys → xs.Pairwise (· ≤ ·) → ys.Pairwise (· ≤ ·) → xs = ys
  | [], ys, p, _, _ => (List.Perm.nil_eq p)
  | x :: xs, [], p, _, _ => by have := p.length_eq; simp at this
  | x :: xs, y :: ys, p, h1, h2 => by
    have a1 := List.pairwise_cons.mp h1
    have a2 := List.pairwise_cons.mp h2
    have e : x = y := by
      have m1 : x ∈ y :: ys := p.mem_iff.mp List.mem_cons_self
      have m2 : y ∈ x :: xs := p.mem_iff.mpr List.mem_cons_self
      rcases List.mem_cons.mp m1 with e | m1
      · exact e
      · rcases List.mem_cons.mp m2 with e | m2
        · exact e.symm
        · have b1 := a2.1 x m1
          have b2 := a1.1 y m2
          omega
    subst e
    rw [pw_uniq xs ys ((List.perm_cons x).mp p) a1.2 a2.2]
theorem sort_is {xs ys : List Int} (p : ys.Perm xs) (h : ys.Pairwise (· ≤ ·)) : ys = sortI xs :=
  pw_uniq _ _ (p.trans (sortI_perm xs).symm) h (sortI_pw xs)
def intKeys {α : Type} : List (Key × α) → Option (List Int)
  | [] => some []
  | (.inl i, _) :: r => (intKeys r).map (i :: ·)
  | (.inr _, _) :: _ => none
theorem intKeys_ok {α β : Type} : ∀ {kvs : List (Key × α)} {es : List (Key × β)} {is : List Int}, kvs.map (·.1) = es.map (·.1) → intKeys es = some is → kvs.map (·.1) = is.map Sum.inl
  | kvs, [], is, h, e => by cases e; simpa using h
  | [], (.inl i, d) :: es, is, h, e => by simp at h
  | (k, v) :: kvs, (.inl i, d) :: es, is, h, e => by
    rw [List.map_cons, List.map_cons, List.cons.injEq] at h
    unfold intKeys at e
    cases q : intKeys es with
    | none => rw [q] at e; cases e
    | some js =>
      rw [q] at e
      cases e
      rw [List.map_cons, List.map_cons, h.1, intKeys_ok h.2 q]
  | _, (.inr _, _) :: _, _, _, e => by cases e
theorem rpks_keys {K : PySem.W.Frag} {F : Hp} {κ : Type} : ∀ {kvs : List (κ × V)} {es : List (κ × D)}, RpKs K F kvs es → kvs.map (·.1) = es.map (·.1)
  | _, _, .nil => rfl
  | _, _, .cons h r => by rw [List.map_cons, List.map_cons, rpks_keys r]
section
variable {G : Gd}
def gSortD : List Cl → Option Cl
  | [c] => match dctE c with
    | some es => (intKeys es).map fun is => .lst ((sortI is).map PyData.int)
    | none => none
  | _ => none
theorem prm_sortD : Prm G rSortDK gSortD := fun F H L cs vs c Q hr hc e hQ => by
  unfold gSortD at e
  split at e
  · rename_i c0
    obtain ⟨v1, A1, rfl, h1⟩ := crs1 hc
    cases q : dctE c0 with
    | none => rw [q] at e; cases e
    | some es =>
      rw [q] at e
      dsimp only at e
      cases q2 : intKeys es with
      | none => rw [q2] at e; cases e
      | some is =>
        rw [q2] at e
        cases e
        obtain ⟨a, kvs, rfl, hd, rk⟩ := dctE_cr h1 hr.sub q
        refine ⟨a, kvs, is, rfl, hd, intKeys_ok (rpks_keys rk) q2, fun js p hp hs hn => ?_⟩
        rw [sort_is hp hs]
        exact hQ F _ _ (Same.refl _) (HR.lstN hr hn (RpA.of_ints _))
  · cases e
def gSortL : List Cl → Option Cl
  | [c] => match c.data with
    | some (.list ds) => (intsD ds).map fun is => .lst ((sortI is).map PyData.int)
    | _ => none
  | _ => none
theorem prm_sortL : Prm G (rSortedI G.K) gSortL := fun F H L cs vs c Q hr hc e hQ => by
  unfold gSortL at e
  split at e
  · obtain ⟨v1, A1, rfl, h1⟩ := crs1 hc
    split at e
    · rename_i ds q
      cases q2 : intsD ds with
      | none => rw [q2] at e; cases e
      | some is =>
        rw [q2] at e
        cases e
        obtain ⟨a, ws, rfl, q1, r1⟩ := h1.seqL hr.sub q
        cases intsD_ok q2
        have ew := r1.ints
        subst ew
        refine ⟨a, is, rfl, q1, fun js p hp hs hn => ?_⟩
        rw [sort_is hp hs]
        exact hQ F _ _ (Same.refl _) (HR.lstN hr hn (RpA.of_ints _))
    · cases e
  · cases e
end
/-! ### {k: v} -/
section
variable {ι : Type} {G : Gd} {X : ι → Cx} {W : WX} {e1 e2 : Expr} {pos : Pos}
def fDct1 (f g : Fn Bv) : Fn Cl := fun n ρ => bnd (fFz f n ρ) fun c1 ρ1 => bnd (fFz g n ρ1) fun c2 ρ2 => match c1, c2 with
  | .fz kd, .fz d => match keyD kd with
    | some k => some (.ok (.dct [(k, d)]) ρ2)
    | none => none
  | _, _ => none
theorem keyD_kV {K : PySem.W.Frag} {F : Hp} {kd : D} {k : Key} {v : V} (e : keyD kd = some k) (r : Rp K F v kd) : v = kV k := by
  unfold keyD at e
  split at e
  · cases e; cases r; rfl
  · cases e; cases r; rfl
  · cases e
theorem xe_dct1 {f g : Fn Bv} (h : XB G X W e1 f) (h' : XB G X W e2 g) : XE G X W (.Dict [some e1] [e2] pos) (fDct1 f g) := by
  obtain ⟨t, a1, a2⟩ := h
  obtain ⟨u, b1, b2⟩ := h'
  refine ⟨_, fun i => pe_disp (pps_cons (a1 i) (b1 i) pps_nil) rfl rfl (by simp) (by simp), fun n ρ r eq F H σ T Q hR hP => ?_⟩
  unfold fDct1 at eq
  intro p hp
  have fp : F p = none := by
    cases q : F p with
    | none => rfl
    | some o => rw [hR.sub _ _ q] at hp; cases hp
  have R0 : G.R F (upd H p (.dK [])) ρ σ ((.dct [], .ref p) :: T) := .mk' (hR.hr.newO hp (.dct upd_same fp .nil)) hR.ok
  cases q : fFz f n ρ with
  | none => rw [q] at eq; cases eq
  | some r1 =>
    rw [q] at eq
    refine snd_fz a2 n ρ r1 q F _ σ _ _ R0 ?_
    cases r1 with
    | ex x ρ' => cases eq; exact fun F' H' cls d s R xr => hP F' H' cls d s R.tail xr
    | ok c ρ1 =>
      rw [bnd_ok] at eq
      intro F1 H1 v1 s1 R1
      cases q2 : fFz g n ρ1 with
      | none => rw [q2] at eq; cases eq
      | some r2 =>
        rw [q2] at eq
        refine snd_fz b2 n ρ1 r2 q2 F1 H1 σ _ _ R1 ?_
        cases r2 with
        | ex x ρ' => cases eq; exact fun F' H' cls d s R xr => hP F' H' cls d (s1.trans s) R.tail.tail xr
        | ok c2 ρ2 =>
          rw [bnd_ok] at eq
          intro F2 H2 v2 s2 R2
          split at eq
          · rename_i kd d
            cases q3 : keyD kd with
            | none => rw [q3] at eq; cases eq
            | some k =>
              rw [q3] at eq
              cases eq
              have rd := R2.rp
              have rk := R2.tail.rp
              have ek := keyD_kV q3 rk
              have R' := R2.tail.tail
              obtain ⟨A, cr⟩ := R'.cr
              cases cr with
              | @dct a kvs _ h1 h2 rr =>
                cases rr
                refine ⟨h1, [(k, v2)], by rw [ek]; rfl, by simp, ?_⟩
                exact hP F2 _ _ (s1.trans s2) (.mk' (R'.hr'.mut (fun A h => by cases h; rfl) (.dct upd_same h2 (.cons rd .nil))) R'.ok)
          · cases eq
end
/-! ### the list [d, dict], a cell of its own -/
section
variable {G : Gd}
theorem HR.box {F H : Hp} {L : List (Cl × V)} {d : D} {es : List (Key × D)} {v : V} {b p : Addr} (h : G.HR F H ((.dct es, .ref b) :: (.fz d, v) :: L)) (hp : H p = none) : G.HR F (upd H p (.lst [v, .ref b])) ((.bx d es, .ref p) :: L) := by
  obtain ⟨s, A, n, q⟩ := h
  cases q with
  | cons q1 q =>
    cases q with
    | cons q2 r =>
      cases q1 with
      | @dct _ kvs _ h1 h2 rk =>
        cases q2 with
        | fz rd =>
          rename_i B
          have n' : ([b] ++ B).Nodup := n
          have hb : b ≠ p := ne_of_none h1 hp
          have nB : ∀ a ∈ B, a ≠ p := fun a ha => by
            obtain ⟨_, u, h3⟩ := r.fr a ha
            exact ne_of_none h3 hp
          have c1 := List.nodup_cons.mp n'
          refine ⟨fun a u e => ?_, [p, b] ++ B, ?_, .cons (.bx upd_same (s.free hp) rd (by rw [upd_ne hb]; exact h1) h2 rk) (r.mono (Same.refl _) fun a ha => ⟨(r.fr a ha).1, upd_ne (nB a ha)⟩)⟩
          · rw [upd_ne (ne_of_none (s _ _ e) hp)]
            exact s _ _ e
          · refine List.nodup_cons.mpr ⟨fun m => ?_, List.nodup_cons.mpr ⟨c1.1, c1.2⟩⟩
            rcases List.mem_cons.mp m with z | z
            · exact hb z.symm
            · exact nB p z rfl
theorem HR.unbox {F H : Hp} {L : List (Cl × V)} {d : D} {es : List (Key × D)} {w : V} (h : G.HR F H ((.bx d es, w) :: L)) : ∃ a v b, w = .ref a ∧ H a = some (.lst [v, .ref b]) ∧ G.HR F H ((.fz d, v) :: (.dct es, .ref b) :: L) := by
  obtain ⟨s, A, n, q⟩ := h
  cases q with
  | cons q1 r =>
    cases q1 with
    | @bx a b v _ kvs _ h1 h2 rd h3 h4 rk =>
      rename_i B
      have n' : ([a, b] ++ B).Nodup := n
      have c1 := List.nodup_cons.mp n'
      exact ⟨a, v, b, rfl, h1, s, [] ++ ([b] ++ B), c1.2, .cons (.fz rd) (.cons (.dct h3 h4 rk) r)⟩
end
section
variable {ι : Type} {G : Gd} {X : ι → Cx} {W : WX} {P : List Nat} {e e1 e2 : Expr} {pos : Pos}
def fBx (f : Fn Bv) (k : Nat) : Fn Cl := fun n ρ => bnd (fFz f n ρ) fun c ρ1 => match c, (ρ1[k]?).join with
  | .fz d, some (.dct es) => some (.ok (.bx d es) (ρ1.set k none))
  | _, _ => none
theorem xe_bx {f : Fn Bv} {k : Nat} (h : XB G X W e1 f) (hx : ∀ j, PE (X j) e2 (tVar k)) (hs : ∀ i, starEach [e1, e2] (X i).env = (false, eval e1 (X i).env) :: starEach [e2] (X i).env) (hs2 : ∀ i, starEach [e2] (X i).env = (false, eval e2 (X i).env) :: starEach [] (X i).env) :
    XE G X W (.List [e1, e2] pos) (fBx f k) := by
  obtain ⟨t, a1, a2⟩ := h
  refine ⟨_, fun i => pe_lst (pa_cons (a1 i) (pa_cons (hx i) pa_nil (hs2 i)) (hs i)), fun n ρ r eq F H σ T Q hR hP => ?_⟩
  unfold fBx at eq
  cases q : fFz f n ρ with
  | none => rw [q] at eq; cases eq
  | some r1 =>
    rw [q] at eq
    refine snd_fz a2 n ρ r1 q F H σ T _ hR ?_
    cases r1 with
    | ex x ρ' => cases eq; exact hP
    | ok c ρ1 =>
      rw [bnd_ok] at eq
      intro F1 H1 v s1 R1
      split at eq
      · rename_i d es q2
        cases eq
        obtain ⟨w, hw, R2⟩ := R.take R1 (join_some q2)
        refine ⟨w, hw, ?_⟩
        obtain ⟨A, cr⟩ := R2.cr
        cases cr with
        | @dct b kvs _ h1 h2 rk =>
          refine ⟨by show 2 ≤ sizeLine; decide, fun p hp => ?_⟩
          exact hP F1 _ _ s1 (.mk' (HR.box (R2.hr'.perm (.cons _ List.perm_middle)) hp) R2.ok)
      · cases eq
/-- x, y = a list [d, dict] -/
def sUnb (i j : Nat) (f : Fn Cl) : FS := fun n ρ => bS (f n ρ) fun c ρ1 => match c with
  | .bx d es => if i < ρ1.length ∧ j < ρ1.length ∧ i ≠ j then some (.nx ((ρ1.set i (some (.fz d))).set j (some (.dct es)))) else none
  | _ => none
theorem xs_unb {i j m : Nat} {x y : Str} {px py p2 : Pos} {f : Fn Cl} (hK : ∀ k, (X k).K = G.K) (hc : ∀ k, (X k).calm = true) (hi : i ∉ P) (hj : j ∉ P) (hgi : ∀ k, PG (X k) (.Name x px) (gName i)) (hgj : ∀ k, PG (X k) (.Name y py) (gName j)) (h : XE G X W e f)
    (ha : ∀ k, (assignEach [.Name x px, .Name y py] (X k).env).map (·.2) = assign (.Name x px) (X k).env :: (assignEach [.Name y py] (X k).env).map (·.2)) (ha2 : ∀ k, (assignEach [.Name y py] (X k).env).map (·.2) = assign (.Name y py) (X k).env :: (assignEach [] (X k).env).map (·.2))
    (hn : ∀ k, (assignEach [.Name x px, .Name y py] (X k).env).length = 2) (hst : ∀ k, (assignEach [.Name x px, .Name y py] (X k).env).findIdx? (·.1) = none)
    (hs : ∀ k, swapsWithSole [.Tuple [.Name x px, .Name y py] m p2] e pos.line (X k).env = pure false) (hw : ∀ k, swappedStores [.Tuple [.Name x px, .Name y py] m p2] e (X k).env = pure none)
    (h1 : ∀ k, (assignEach [.Tuple [.Name x px, .Name y py] m p2] (X k).env).map (·.2) = [assign (.Tuple [.Name x px, .Name y py] m p2) (X k).env]) : XS G X W P (.Assign [.Tuple [.Name x px, .Name y py] m p2] e pos) (sUnb i j f) := by
  obtain ⟨t, a1, a2⟩ := h
  refine ⟨_, fun k => ps_asg (a1 k) (by have := pg_lst (k := m) (pos := p2) (hc k) (pgs_cons (hgi k) (pgs_cons (hgj k) pgs_nil (ha2 k)) (ha k)) (hn k) (hst k); rw [hK k] at this; exact this) (hs k) (hw k) (h1 k), fun n ρ o eq F H σ T D hR hP => ?_⟩
  unfold sUnb at eq
  cases q : f n ρ with
  | none => rw [q] at eq; cases eq
  | some r1 =>
    rw [q] at eq
    refine a2 n ρ r1 q F H σ T _ hR ?_
    cases r1 with
    | ex x ρ' => cases eq; exact hP.px
    | ok c ρ1 =>
      rw [bS_ok] at eq
      intro F1 H1 v s1 R1
      split at eq
      · rename_i d es
        split at eq
        case isFalse => cases eq
        rename_i hl
        cases eq
        obtain ⟨a, vd, b, rfl, ha', hr⟩ := HR.unbox R1.hr'
        refine ⟨a, _, rfl, .inl (.inl ha'), rfl, _, _, rfl, _, _, rfl, rfl, ?_⟩
        have R2 : G.R F1 H1 ρ1 σ ((.fz d, vd) :: (.dct es, .ref b) :: T) := .mk' (hr.perm (.cons _ List.perm_middle.symm)) R1.ok
        have R3 := R.set (R.set R2 hl.1) (i := j) (by rw [List.length_set]; exact hl.2.1)
        exact hP F1 H1 _ s1 R3 ((Kp.set hi).trans (Kp.set hj))
      · cases eq
end
end L3

set_option maxHeartbeats 1000000
namespace L3
open PySem PySem.Spec L2 PyProof.Rows HT
/-! ### t[::k] -/
def evN (n k : Nat) : Nat := if n = 0 then 0 else (n - 1) / k + 1
def evL {α : Type} (k : Nat) (xs : List α) : List α := (List.range (evN xs.length k)).filterMap fun j => xs[j * k]?
theorem stpN_ev (n k : Nat) : stpN ((k + 1 : Nat) : Int) n = evN n (k + 1) := by
  have pos : ¬ (((k + 1 : Nat) : Int) < 0) := by omega
  have two : Builtin.Slice.sliceAdjust none none ((k + 1 : Nat) : Int) (n : Int) = (0, (n : Int)) := by
    show ((if ((k + 1 : Nat) : Int) < 0 then _ else _), (if ((k + 1 : Nat) : Int) < 0 then _ else _)) = _
    simp only [if_neg pos]
  unfold stpN stpO
  rw [two]
  unfold Builtin.Slice.slicePlaces evN
  rw [if_pos (by omega)]
  by_cases z : n = 0
  · simp [z]
  · rw [if_neg z, if_pos (by omega), show (n : Int) - 0 - 1 = ((n - 1 : Nat) : Int) by omega, ← Int.natCast_ediv]
    generalize (n - 1) / (k + 1) = q
    omega
theorem stpO_ev (n k : Nat) : stpO ((k + 1 : Nat) : Int) n = 0 := by
  have pos : ¬ (((k + 1 : Nat) : Int) < 0) := by omega
  exact (if_neg pos : (if ((k + 1 : Nat) : Int) < 0 then (n : Int) - 1 else 0) = 0)
theorem stpL_ev {α : Type} (k : Nat) (xs : List α) : stpL ((k + 1 : Nat) : Int) xs = evL (k + 1) xs := by
  unfold stpL stpJ evL
  rw [stpN_ev, stpO_ev, List.filterMap_map]
  exact fm_congr fun j _ => by
    show xs[(0 + (j : Int) * ((k + 1 : Nat) : Int)).toNat]? = _
    rw [Int.zero_add, ← Int.natCast_mul, Int.toNat_natCast]
theorem evL_le {α : Type} (k : Nat) (xs : List α) : (evL k xs).length ≤ xs.length := by
  unfold evL
  refine Nat.le_trans (List.length_filterMap_le _ _) ?_
  rw [List.length_range]
  unfold evN
  split
  · omega
  · have := Nat.div_le_self (xs.length - 1) k
    omega
theorem RpA.picks {K : PySem.W.Frag} {F : Hp} {vs : List V} {ds : List D} (h : RpA K F vs ds) : ∀ js : List Nat, RpA K F (js.filterMap fun j => vs[j]?) (js.filterMap fun j => ds[j]?)
  | [] => .nil
  | j :: js => by
    rw [List.filterMap_cons, List.filterMap_cons]
    have hl := h.length
    cases q : vs[j]? with
    | none =>
      have hj : ¬ j < vs.length := fun z => by rw [List.getElem?_eq_getElem z] at q; cases q
      have : ds[j]? = none := List.getElem?_eq_none (by omega)
      rw [this]
      exact RpA.picks h js
    | some x =>
      obtain ⟨d, hd, rd⟩ := h.getV q
      rw [hd]
      exact .cons rd (RpA.picks h js)
theorem evL_eq {α : Type} (k : Nat) (xs : List α) : evL k xs = ((List.range (evN xs.length k)).map fun j => j * k).filterMap fun j => xs[j]? := by
  unfold evL
  rw [List.filterMap_map]; rfl
theorem RpA.every {K : PySem.W.Frag} {F : Hp} {vs : List V} {ds : List D} (h : RpA K F vs ds) (k : Nat) : RpA K F (evL k vs) (evL k ds) := by
  rw [evL_eq, evL_eq, h.length]
  exact RpA.picks h _
def tStepA (K : PySem.W.Frag) (te tk : TE) : TE := fun σ H Q => te σ H fun x H1 => tPart tk σ H1 fun o H2 => ∃ (a : Addr) (xs : List V) (k : Nat), x = .ref a ∧ o = some ((k + 2 : Nat) : Int) ∧ SqT K H2 a xs ∧ ∀ p, H2 p = none → Q (.ref p) (upd H2 p (.tup (evL (k + 2) xs)))
theorem pe_stepA {X : Cx} {e ek : Expr} {te tk : TE} {p3 pos : Pos} (he : PE X e te) (hk : PE X ek tk) : PE X (.Subscript e (.Slice none none (some ek) p3) pos) (tStepA X.K te tk) :=
  pe_stp (r := fun x σ H Q => tPart tk σ H fun o H2 => ∃ (a : Addr) (xs : List V) (k : Nat), x = .ref a ∧ o = some ((k + 2 : Nat) : Int) ∧ SqT X.K H2 a xs ∧ ∀ p, H2 p = none → Q (.ref p) (upd H2 p (.tup (evL (k + 2) xs))))
    (fun _ _ _ _ q => q) (fun _ _ _ _ ⟨a, xs, k, ex, eo, h, q⟩ => ⟨a, xs, _, ex, eo, by omega, by omega, by rw [stpL_ev]; exact evL_le _ _, h, by rw [stpL_ev]; exact q⟩) he hk
section
variable {ι : Type} {G : Gd} {X : ι → Cx} {W : WX} {e ek : Expr} {pos : Pos}
def fStep (f g : Fn Bv) : Fn Cl := fun n ρ => bnd (fFz f n ρ) fun c ρ1 => bnd (fFz g n ρ1) fun c2 ρ2 => match c, c2 with
  | .fz (.tuple ds), .fz (.int k) => if 2 ≤ k then some (.ok (.fz (.tuple (evL k.toNat ds))) ρ2) else none
  | _, _ => none
theorem xe_step {f g : Fn Bv} {p3 : Pos} (hK : ∀ i, (X i).K = G.K) (h : XB G X W e f) (h' : XB G X W ek g) : XE G X W (.Subscript e (.Slice none none (some ek) p3) pos) (fStep f g) := by
  obtain ⟨t, h1, h2⟩ := h
  obtain ⟨u, h3, h4⟩ := h'
  refine ⟨_, fun i => by
    have := pe_stepA (p3 := p3) (pos := pos) (h1 i) (h3 i)
    rw [hK i] at this
    exact this, fun n ρ r eq F H σ T' Q hR hP => ?_⟩
  unfold fStep at eq
  cases q : fFz f n ρ with
  | none => rw [q] at eq; cases eq
  | some r1 =>
    rw [q] at eq
    refine snd_fz h2 n ρ r1 q F H σ T' _ hR ?_
    cases r1 with
    | ex x ρ' => cases eq; exact hP
    | ok c ρ1 =>
      rw [bnd_ok] at eq
      intro F1 H1 v s1 R1
      cases q2 : fFz g n ρ1 with
      | none => rw [q2] at eq; cases eq
      | some r2 =>
        rw [q2] at eq
        refine snd_fz h4 n ρ1 r2 q2 F1 H1 σ _ _ R1 ?_
        cases r2 with
        | ex x ρ' => cases eq; exact fun F' H' cls d s R xr => hP F' H' cls d (s1.trans s) R.tail xr
        | ok c2 ρ2 =>
          rw [bnd_ok] at eq
          intro F2 H2 v2 s2 R2
          split at eq
          · rename_i ds k
            split at eq
            case isFalse => cases eq
            rename_i hk
            cases eq
            have ri := R2.rp
            have rt := R2.tail.rp
            cases ri
            cases rt with
            | tup hq ra =>
              rename_i a vs
              obtain ⟨m, hm⟩ : ∃ m : Nat, k.toNat = m + 2 := ⟨k.toNat - 2, by omega⟩
              refine ⟨k, rfl, a, vs, m, rfl, by congr 1; omega, sameT R2.sub hq, fun p hp => ?_⟩
              rw [hm] at hP
              obtain ⟨s3, R3⟩ := R2.tail.tail.newTup hp (ra.every (m + 2))
              exact hP _ _ _ (s1.trans (s2.trans s3)) R3
          · cases eq
end
/-! ### list(range(a, b)) -/
section
variable {ι : Type} {G : Gd} {X : ι → Cx} {W : WX} {e e2 : Expr} {p pos p' pos' : Pos}
def fLstRg (f g : Fn Bv) : Fn Cl := fun n ρ => bnd (fFz f n ρ) fun c ρ1 => bnd (fFz g n ρ1) fun c2 ρ2 => match c, c2 with
  | .fz (.int i), .fz (.int j) => if (Nat.ble i.natAbs 1000000 && Nat.ble j.natAbs 1000000) = true then some (.ok (.lst (rngD i (j - i).toNat)) ρ2) else none
  | _, _ => none
theorem rgA (K : PySem.W.Frag) (F : Hp) (f : Nat → Int) : ∀ l : List Nat, RpA K F (l.map fun k => V.int (f k)) (l.map fun k => PyData.int (f k))
  | [] => .nil
  | _ :: l => .cons (.int _) (rgA K F f l)
theorem xe_lstRg {f g : Fn Bv} (hc : ∀ i, (X i).calm = true) (hg : ∀ i, Gl (X i) "list") (hm : ∀ i, (X i).mg "list" = none) (hg2 : ∀ i, Gl (X i) "range") (hm2 : ∀ i, (X i).mg "range" = none) (h : XB G X W e f) (h' : XB G X W e2 g)
    (na : ∀ i, starEach [e, e2] (X i).env = (false, eval e (X i).env) :: starEach [e2] (X i).env) (nb : ∀ i, starEach [e2] (X i).env = (false, eval e2 (X i).env) :: starEach [] (X i).env)
    (nc : ∀ i, starEach [.Call (.Name "range" p) [e, e2] [] pos] (X i).env = (false, eval (.Call (.Name "range" p) [e, e2] [] pos) (X i).env) :: starEach [] (X i).env) :
    XE G X W (.Call (.Name "list" p') [.Call (.Name "range" p) [e, e2] [] pos] [] pos') (fLstRg f g) := by
  obtain ⟨t, h1, h2⟩ := h
  obtain ⟨t', h1', h2'⟩ := h'
  refine ⟨_, fun i => pe_listRg (hc i) (hg i) (hm i) (prg_2 (hg2 i) (hm2 i) (h1 i) (h1' i) (na i) (nb i) (by rw [nb i]; rfl)) (nc i), fun n ρ r eq F H σ T' Q hR hP => ?_⟩
  unfold fLstRg at eq
  cases q : fFz f n ρ with
  | none => rw [q] at eq; cases eq
  | some r1 =>
    rw [q] at eq
    refine snd_fz h2 n ρ r1 q F H σ T' _ hR ?_
    cases r1 with
    | ex x ρ' => cases eq; exact hP
    | ok c ρ1 =>
      rw [bnd_ok] at eq
      intro F1 H1 v s1 R1
      cases q2 : fFz g n ρ1 with
      | none => rw [q2] at eq; cases eq
      | some r2 =>
        rw [q2] at eq
        refine snd_fz h2' n ρ1 r2 q2 F1 H1 σ _ _ R1 ?_
        cases r2 with
        | ex x ρ' => cases eq; exact fun F' H' cls d s R xr => hP F' H' cls d (s1.trans s) R.tail xr
        | ok c2 ρ2 =>
          rw [bnd_ok] at eq
          intro F2 H2 v2 s2 R2
          split at eq
          · rename_i i j
            split at eq
            case isFalse => cases eq
            rename_i hk
            cases eq
            rw [Bool.and_eq_true] at hk
            have k1 := Nat.le_of_ble_eq_true hk.1
            have k2 := Nat.le_of_ble_eq_true hk.2
            have ri := R2.rp
            have rt := R2.tail.rp
            cases ri
            cases rt
            refine ⟨i, j, rfl, rfl, ⟨by omega, by omega, by omega, by omega, by omega⟩, fun p hp => ?_⟩
            exact hP _ _ _ (s1.trans s2) (R.newLst R2.tail.tail hp (rgA _ _ (fun k => i + (k : Int)) _))
          · cases eq
end
/-! ### a tuple of ints that stands as a global -/
def TupIs (K : PySem.W.Frag) (t : Addr) (ns : List Int) : Prop := ∃ o its n, K.lookup t = some o ∧ o.cls = .type "tuple" ∧ o.data = .seq its n ∧ its.size ≤ sizeLine ∧ Vals (ns.map V.int) its.toList
theorem rp_ints (K : PySem.W.Frag) (F : Hp) : ∀ ns : List Int, RpA K F (ns.map V.int) (ns.map PyData.int)
  | [] => .nil
  | _ :: ns => .cons (.int _) (rp_ints K F ns)
theorem tup_rp {K : PySem.W.Frag} {t : Addr} {ns : List Int} (h : TupIs K t ns) (F : Hp) : Rp K F (.ref t) (.tuple (ns.map PyData.int)) := by
  obtain ⟨o, its, n, h1, h2, h3, h4, h5⟩ := h
  exact .tup (.inr (.inr ⟨o, its, n, h1, h2, h3, h4, h5⟩)) (rp_ints K F ns)
def vI (n : Int) : Value → Bool
  | .int m _ => decide (m = n)
  | _ => false
theorem vI_ok {n : Int} {v : Value} (h : vI n v = true) : RelV (.int n) v := by
  unfold vI at h
  split at h
  · cases of_decide_eq_true h
    exact ⟨_, rfl⟩
  · cases h
def vIs : List Int → List Value → Bool
  | [], [] => true
  | n :: ns, v :: vs => vI n v && vIs ns vs
  | _, _ => false
theorem vals_ints : ∀ (ns : List Int) {us : List Value}, vIs ns us = true → Vals (ns.map V.int) us
  | [], [], _ => .nil
  | n :: ns, v :: vs, h => by
    rw [vIs, Bool.and_eq_true] at h
    exact .cons (vI_ok h.1) (vals_ints ns h.2)
theorem tupIs_mk {K : PySem.W.Frag} {t : Addr} {ns : List Int} {od : Option Addr} {its : Array Value} {n : Nat} {sl : Array (Option Value)} (h : K.lookup t = some ⟨.type "tuple", od, .seq its n, sl⟩) (hz : its.size ≤ sizeLine) (hv : Vals (ns.map V.int) its.toList) : TupIs K t ns := ⟨_, its, n, h, rfl, rfl, hz, hv⟩
/-! ### sum(t) of a tuple of ints -/
def rSumT (K : PySem.W.Frag) : List V → Hp → VK → Prop := fun vs H Q => ∃ (a : Addr) (ns : List Int), vs = [V.ref a] ∧ SqT K H a (ns.map V.int) ∧ Q (.int ns.sum) H
theorem cr_sumT {X : Cx} (hc : X.calm = true) : CallR X (.builtin "sum") (rSumT X.K) := by
  intro pins s σ H vs us Q I r h
  obtain ⟨a, ns, rfl, hs, q⟩ := h
  obtain ⟨its, rv, hl, _⟩ := I.tuple hs
  rw [Vals.ref1 r]
  have hi := rv.ints
  obtain ⟨xs, hx⟩ := hi.allInts.items
  have hn : numsOf its.toArray.toList = ns := by rw [show its.toArray.toList = its from rfl, hi.numsOf]
  have hl' : s.heap.IsTuple a its.toArray := hl
  rw [hx] at hl' hn
  rw [nums_intItems] at hn
  refine PySem.W.ktm_sumG (I.ok.hd hc) hl' fun h' tk t' hk => ?_
  refine ⟨.int _, H, I.kept hk, ⟨_, rfl⟩, ?_⟩
  rw [preSum_eq, List.take_of_length_le (by simp), hn]
  exact q
def gSumT : List Cl → Option Cl
  | [c] => match c.data with
    | some (.tuple ds) => (intsD ds).map fun ns => .fz (.int ns.sum)
    | _ => none
  | _ => none
theorem prm_sumT {G : Gd} : Prm G (rSumT G.K) gSumT := fun F H L cs vs c Q hr hc e hQ => by
  unfold gSumT at e
  split at e
  · obtain ⟨v1, A1, rfl, h1⟩ := crs1 hc
    split at e
    · rename_i ds q
      obtain ⟨a, ws, rfl, q1, r1⟩ := h1.seqT hr.sub q
      cases q2 : intsD ds with
      | none => rw [q2] at e; cases e
      | some ns =>
        rw [q2] at e
        cases e
        have ed := intsD_ok q2
        subst ed
        have ew := r1.ints
        subst ew
        exact ⟨_, _, rfl, sameT hr.sub q1, hQ F H _ (Same.refl _) (hr.push (.int _))⟩
    · cases e
  · cases e
/-! ### no promise -/
theorem ok_none {P : Program} {w : World} {K : PySem.W.Frag} {mg : Str → Option Value} {base : Heap} {CX : CXT} {x qual : Str} {st : Stmt} {f : Addr} {fd : FuncData} {ps : List Str} {k np : Nat} {G : Gd} (F : Fun K x qual st f fd) (hnp : ps.length = np) : FnOk P w K mg base CX k f fd ps (spM G np fun _ => none) :=
  ⟨fun vs H Q E h => by rw [hnp]; exact h.1, fun A outer s H args us vs Q E hr he hb hv hs => by
    obtain ⟨_, _, _, _, _, _, _, e, _⟩ := hs
    cases e⟩
end L3

namespace L3
open PySem PySem.Spec PySem.W
/-! ### a zip of two lists in any state: its last pair let go, still out, or gone -/
/-- the zip's record: v0 the pair it gave out last, v1 whether it knows that it is out -/
abbrev zO (TI TO : Addr) (v0 v1 : Value) : Obj := { cls := .type "zip", dict := none, data := .fields #[v0, v1, .bool false, .ref TI, .ref TO], slots := #[] }
/-- the zip at h: its record, its pair of iterators, its own pair, the iterators, .. -/
structure ZR (z TI TO i1 i2 l1 l2 : Addr) (h : Heap) (v0 v1 a b : Value) (m n : Nat) : Prop where
  z : h.get? z = some (zO TI TO v0 v1)
  ti : IsPair h TI (.ref i1) (.ref i2)
  to : IsPair h TO a b
  i1 : h.IsListIter i1 l1 m
  i2 : h.IsListIter i2 l2 n
/-- .. and the lists -/
structure ZS (z TI TO i1 i2 l1 l2 : Addr) (xs ys : Array Value) (h : Heap) (v0 v1 a b : Value) (m n : Nat) : Prop extends ZR z TI TO i1 i2 l1 l2 h v0 v1 a b m n where
  l1 : h.IsList l1 xs
  l2 : h.IsList l2 ys
section
variable {z TI TO i1 i2 l1 l2 : Addr} {xs ys : Array Value} {h h' : Heap} {v0 v1 v0' v1' a b a' b' : Value} {m n : Nat}
theorem ZS.onZ (S : ZS z TI TO i1 i2 l1 l2 xs ys h v0 v1 a b m n) (D : ZipApart z TI TO i1 i2 l1 l2) (k : Heap.SameBut z h h') (e : h'.get? z = some (zO TI TO v0' v1')) : ZS z TI TO i1 i2 l1 l2 xs ys h' v0' v1' a b m n :=
  ⟨⟨e, k.extBut _ _ D.TIz S.ti, k.extBut _ _ D.TOz S.to, S.i1.extBut k.extBut D.i1z, S.i2.extBut k.extBut D.i2z⟩, S.l1.extBut k.extBut D.l1z, S.l2.extBut k.extBut D.l2z⟩
theorem ZS.onT (S : ZS z TI TO i1 i2 l1 l2 xs ys h v0 v1 a b m n) (D : ZipApart z TI TO i1 i2 l1 l2) (k : Heap.SameBut TO h h') (e : IsPair h' TO a' b') : ZS z TI TO i1 i2 l1 l2 xs ys h' v0 v1 a' b' m n :=
  ⟨⟨k.extBut _ _ D.TOz.symm S.z, k.extBut _ _ D.TITO S.ti, e, S.i1.extBut k.extBut D.TOi1.symm, S.i2.extBut k.extBut D.TOi2.symm⟩, S.l1.extBut k.extBut D.l1TO, S.l2.extBut k.extBut D.l2TO⟩
theorem ZS.on1 (S : ZS z TI TO i1 i2 l1 l2 xs ys h v0 v1 a b m n) (D : ZipApart z TI TO i1 i2 l1 l2) (k : Heap.SameBut i1 h h') (e : h'.IsListIter i1 l1 (m + 1)) : ZS z TI TO i1 i2 l1 l2 xs ys h' v0 v1 a b (m + 1) n :=
  ⟨⟨k.extBut _ _ D.i1z.symm S.z, k.extBut _ _ D.TIi1 S.ti, k.extBut _ _ D.TOi1 S.to, e, S.i2.extBut k.extBut D.i12.symm⟩, S.l1.extBut k.extBut D.l1i1, S.l2.extBut k.extBut D.l2i1⟩
theorem ZS.on2 (S : ZS z TI TO i1 i2 l1 l2 xs ys h v0 v1 a b m n) (D : ZipApart z TI TO i1 i2 l1 l2) (k : Heap.SameBut i2 h h') (e : h'.IsListIter i2 l2 (n + 1)) : ZS z TI TO i1 i2 l1 l2 xs ys h' v0 v1 a b m (n + 1) :=
  ⟨⟨k.extBut _ _ D.i2z.symm S.z, k.extBut _ _ D.TIi2 S.ti, k.extBut _ _ D.TOi2 S.to, S.i1.extBut k.extBut D.i12, e⟩, S.l1.extBut k.extBut D.l1i2, S.l2.extBut k.extBut D.l2i2⟩
theorem ZR.all (S : ZR z TI TO i1 i2 l1 l2 h v0 v1 a b m n) (k : ∀ c ∈ [z, TI, TO, i1, i2], ∀ o, h.get? c = some o → h'.get? c = some o) : ZR z TI TO i1 i2 l1 l2 h' v0 v1 a b m n :=
  ⟨k z (by simp) _ S.z, k TI (by simp) _ S.ti, k TO (by simp) _ S.to, S.i1.at (k i1 (by simp)), S.i2.at (k i2 (by simp))⟩
theorem ZS.all (S : ZS z TI TO i1 i2 l1 l2 xs ys h v0 v1 a b m n) (k : ∀ c o, h.get? c = some o → h'.get? c = some o) : ZS z TI TO i1 i2 l1 l2 xs ys h' v0 v1 a b m n :=
  ⟨S.toZR.all fun c _ => k c, S.l1.at (k _), S.l2.at (k _)⟩
end
section
variable {prog : Program} {w : World} {A : Around} {E : Value → Shared → Prop} {s : Shared} {z TI TO i1 i2 l1 l2 : Addr} {m n : Nat} {xs ys : Array Value}
/-- the pair that it gave out before may be taken again -/
abbrev ZFree (prog : Program) (w : World) (z : Addr) (s : Shared) : Prop := ∀ {A : Around} {E : Value → Shared → Prop} {Q : Bool → Shared → Prop}, Q true s → wpAny (model prog w) A (Builtin.SmallTypes.ownedTupleIsFree (.ref z)) Q E s
theorem zfree_none {v1 : Value} (e : s.heap.get? z = some (zO TI TO .none v1)) : ZFree prog w z s := fun q => by
  unfold Builtin.SmallTypes.ownedTupleIsFree
  wp_walk
  exact q
theorem zfree_gone {v1 : Value} {T : Addr} (e : s.heap.get? z = some (zO TI TO (rawInt T) v1)) (no : s.heap.get? T = none) : ZFree prog w z s := fun {A E Q} q => by
  have look : ∀ {Q : Option Obj → Shared → Prop}, Q none s → wpAny (model prog w) A (loadIfAlive ((T : Int).toNat)) Q E s := fun {Q} q _ _ _ => (show Q (s.heap.get? T) s by rw [no]; exact q)
  unfold Builtin.SmallTypes.ownedTupleIsFree
  wp_walk using look
  exact q
set_option maxHeartbeats 4000000 in
/-- then it draws from both lists into that pair, and gives out a new one -/
theorem zip_take {x y a b v0 v1 : Value} {Q : Value → Shared → Prop} (D : ZipApart z TI TO i1 i2 l1 l2) (S : ZS z TI TO i1 i2 l1 l2 xs ys s.heap v0 v1 a b m n) (free : ZFree prog w z s) (hx : xs[m]? = some x) (hy : ys[n]? = some y)
    (hQ : ∀ h', ZS z TI TO i1 i2 l1 l2 xs ys h' (rawInt s.heap.objs.size) (.bool false) x y (m + 1) (n + 1) → IsPair h' s.heap.objs.size x y → h'.objs.size = s.heap.objs.size + 1 →
      (∀ c o, c ≠ z → c ≠ TO → c ≠ i1 → c ≠ i2 → s.heap.get? c = some o → h'.get? c = some o) → Q (.ref s.heap.objs.size) { s with heap := h' }) :
    wpAny (model prog w) A (Builtin.«zip.__next__» ⟨[.ref z], []⟩) (fun fin s' => ∃ v, fin = .done (.ret v) ∧ Q v s') E s := by
  have r := S.z
  have t := S.ti
  unfold Builtin.«zip.__next__»
  wp_walk using free, wpAny_setField_rec S.z (show 0 < 5 by decide)
  intro h1 e1 k1
  have S := S.onZ D k1 e1
  wp_walk using wpAny_onRaise, wpAny_nextOf_list_item S.i1 S.l1 hx
  intro h2 e2 k2
  have S := S.on1 D k2 e2
  wp_walk using wpAny_seqItems S.to rfl, wpAny_updateSeq_pair S.to
  intro h3 e3 k3
  have S := S.onT D k3 e3
  wp_walk using wpAny_onRaise, wpAny_nextOf_list_item S.i2 S.l2 hy
  intro h4 e4 k4
  have S := S.on2 D k4 e4
  wp_walk using wpAny_seqItems S.to rfl, wpAny_updateSeq_pair S.to
  intro h5 e5 k5
  have S := S.onT D k5 e5
  have r := S.z
  wp_walk using wpAny_seqItems S.to rfl
  have size : h5.objs.size = s.heap.objs.size := k5.1.trans (k4.1.trans (k3.1.trans (k2.1.trans k1.1)))
  have kept : ∀ c o, c ≠ z → c ≠ TO → c ≠ i1 → c ≠ i2 → s.heap.get? c = some o → h5.get? c = some o := fun c o cz cT c1 c2 e => k5.extBut c o cT (k4.extBut c o c2 (k3.extBut c o cT (k2.extBut c o c1 (k1.extBut c o cz e))))
  have ne : h5.objs.size ≠ z := Nat.ne_of_gt (Heap.lt_size r)
  have S := S.all (h' := h5.push { cls := .type "tuple", data := .seq #[x, y] }) fun c o e => Heap.get?_push_of_some _ e
  have S := S.onZ D (.update ..) (Heap.get?_update_self (Obj.mapFields fun x => x.setIfInBounds 0 (rawInt h5.objs.size)) S.z rfl)
  have S := S.onZ D (.update ..) (Heap.get?_update_self (Obj.mapFields fun x => x.setIfInBounds 1 (.bool false)) S.z rfl)
  have up : ∀ c o, c ≠ z → (h5.push { cls := .type "tuple", data := .seq #[x, y] }).get? c = some o → (((h5.push { cls := .type "tuple", data := .seq #[x, y] }).update z (Obj.mapFields fun x => x.setIfInBounds 0 (rawInt h5.objs.size))).update z (Obj.mapFields fun x => x.setIfInBounds 1 (.bool false))).get? c = some o :=
    fun c o cz e => (Heap.SameBut.update ..).extBut c o cz ((Heap.SameBut.update ..).extBut c o cz e)
  refine ⟨_, rfl, ?_⟩
  have := hQ _ (size ▸ S) (size ▸ up _ _ ne (Heap.get?_push_size _ rfl)) (by rw [Heap.size_after_update, Heap.size_after_update, Heap.size_push, size]) fun c o cz cT c1 c2 e => up c o cz (Heap.get?_push_of_some _ (kept c o cz cT c1 c2 e))
  exact size ▸ this
set_option maxHeartbeats 4000000 in
/-- and where one list is at its end it says so -/
theorem zip_over {a b v0 v1 : Value} {Q : PySem.Fin → Shared → Prop} (hh : A.handled = none) (D : ZipApart z TI TO i1 i2 l1 l2) (S : ZS z TI TO i1 i2 l1 l2 xs ys s.heap v0 v1 a b m n) (free : ZFree prog w z s) (no : xs[m]? = none ∨ ys[n]? = none)
    (hE : ∀ h' e, (∀ c o, c ≠ z → c ≠ TO → c ≠ i1 → c ≠ i2 → s.heap.get? c = some o → h'.get? c = some o) → (∃ o, h'.get? e = some o ∧ o.cls = .type "StopIteration") → E (.ref e) { s with heap := h' }) :
    wpAny (model prog w) A (Builtin.«zip.__next__» ⟨[.ref z], []⟩) Q E s := by
  have r := S.z
  have t := S.ti
  unfold Builtin.«zip.__next__»
  wp_walk using free, wpAny_setField_rec S.z (show 0 < 5 by decide)
  intro h1 e1 k1
  have S := S.onZ D k1 e1
  have apart : ∀ {h2 h3 : Heap} {e : Addr} {o : Obj}, h2.get? e = some o → o.cls = .type "StopIteration" → h2.get? z = some (zO TI TO .ellipsis v1) → Heap.SameBut z h2 h3 → h3.get? e = some o := fun he hc hz k =>
    k.extBut _ _ (fun q => by rw [q, hz] at he; cases he; simp at hc) he
  cases hx : xs[m]? with
  | none =>
    wp_walk using wpAny_onRaise, wpAny_nextOf_list_end hh S.i1 S.l1 hx
    intro h2 e k2 ⟨o, he, hc⟩
    have r := k2 _ _ D.i1z.symm S.z
    wp_walk using wpAny_setField_rec r (show 0 < 5 by decide)
    intro h3 _ k3
    exact hE h3 e (fun c o cz _ c1 _ q => k3.extBut c o cz (k2 c o c1 (k1.extBut c o cz q))) ⟨o, apart he hc r k3, hc⟩
  | some x =>
    have hy : ys[n]? = none := no.resolve_left (by rw [hx]; exact fun q => nomatch q)
    wp_walk using wpAny_onRaise, wpAny_nextOf_list_item S.i1 S.l1 hx
    intro h2 e2 k2
    have S := S.on1 D k2 e2
    wp_walk using wpAny_seqItems S.to rfl, wpAny_updateSeq_pair S.to
    intro h3 e3 k3
    have S := S.onT D k3 e3
    wp_walk using wpAny_onRaise, wpAny_nextOf_list_end hh S.i2 S.l2 hy
    intro h4 e k4 ⟨o, he, hc⟩
    have r := k4 _ _ D.i2z.symm S.z
    wp_walk using wpAny_setField_rec r (show 0 < 5 by decide)
    intro h5 _ k5
    exact hE h5 e (fun c o cz cT c1 c2 q => k5.extBut c o cz (k4 c o c2 (k3.extBut c o cT (k2.extBut c o c1 (k1.extBut c o cz q))))) ⟨o, apart he hc r k5, hc⟩
/-- a zip as the turns leave it: its last pair let go, or given out and still there, or given out and gone -/
def ZipSt (z TI TO i1 i2 l1 l2 : Addr) (h : Heap) (m n : Nat) : Prop := ∃ v0 f a b, ZR z TI TO i1 i2 l1 l2 h v0 (.bool f) a b m n ∧ (v0 = .none ∨ ∃ T : Addr, v0 = rawInt T)
theorem nextZ {x y : Value} {Q : Value → Shared → Prop} (D : ZipApart z TI TO i1 i2 l1 l2) (S : ZipSt z TI TO i1 i2 l1 l2 s.heap m n) (hl1 : s.heap.IsList l1 xs) (hl2 : s.heap.IsList l2 ys) (hx : xs[m]? = some x) (hy : ys[n]? = some y)
    (hQ : ∀ h', ZipSt z TI TO i1 i2 l1 l2 h' (m + 1) (n + 1) → IsPair h' s.heap.objs.size x y → h'.objs.size = s.heap.objs.size + 1 →
      (∀ c o, c ≠ z → c ≠ TO → c ≠ i1 → c ≠ i2 → s.heap.get? c = some o → h'.get? c = some o) → Q (.ref s.heap.objs.size) { s with heap := h' }) : wpAny (model prog w) A (Builtin.SmallTypes.nextOf (.ref z)) Q E s := by
  have ⟨v0, f, a, b, R, st⟩ := S
  have S : ZS z TI TO i1 i2 l1 l2 xs ys s.heap v0 (.bool f) a b m n := ⟨R, hl1, hl2⟩
  have take := fun free : ZFree prog w z s => zip_take (A := A.in1) (E := E) (Q := fun v t => wpAny (model prog w) A (pure v) Q E t) D S free hx hy fun h' S' p z' k => wpAny_pure (hQ h' ⟨_, _, _, _, S'.toZR, .inr ⟨_, rfl⟩⟩ p z' k)
  have ty : s.TypeIs (.ref z) "zip" := ⟨_, R.z, rfl⟩
  unfold Builtin.SmallTypes.nextOf
  refine wpAny_bind (wpAny_callSpecial?_slot (name := Str.ofString "__next__") ty F.slot_zip_next (wpAny_call_entry F.slot_zip_next ty F.entry_zip_next ?_ (F.args_zip_next_1 _)))
  rcases st with rfl | ⟨T, rfl⟩
  · exact take (zfree_none R.z)
  · cases q : s.heap.get? T with
    | none => exact take (zfree_gone R.z q)
    | some o => exact zip_next_item_held D R.z q R.ti R.i1 R.i2 hl1 hl2 hx hy fun h' z' a1 a2 p sz k => wpAny_pure (hQ h' ⟨_, _, _, _, ⟨z', k _ _ D.TIz D.TIi1 D.TIi2 R.ti, k _ _ D.TOz D.TOi1 D.TOi2 R.to, a1, a2⟩, .inr ⟨_, rfl⟩⟩ p sz fun c o cz _ c1 c2 => k c o cz c1 c2)
theorem overZ {Q : Value → Shared → Prop} (hh : A.handled = none) (D : ZipApart z TI TO i1 i2 l1 l2) (S : ZipSt z TI TO i1 i2 l1 l2 s.heap m n) (hl1 : s.heap.IsList l1 xs) (hl2 : s.heap.IsList l2 ys) (no : xs[m]? = none ∨ ys[n]? = none)
    (hE : ∀ h' e, (∀ c o, c ≠ z → c ≠ TO → c ≠ i1 → c ≠ i2 → s.heap.get? c = some o → h'.get? c = some o) → (∃ o, h'.get? e = some o ∧ o.cls = .type "StopIteration") → E (.ref e) { s with heap := h' }) : wpAny (model prog w) A (Builtin.SmallTypes.nextOf (.ref z)) Q E s := by
  have ⟨v0, f, a, b, R, st⟩ := S
  have S : ZS z TI TO i1 i2 l1 l2 xs ys s.heap v0 (.bool f) a b m n := ⟨R, hl1, hl2⟩
  have ty : s.TypeIs (.ref z) "zip" := ⟨_, R.z, rfl⟩
  unfold Builtin.SmallTypes.nextOf
  refine wpAny_bind (wpAny_callSpecial?_slot (name := Str.ofString "__next__") ty F.slot_zip_next (wpAny_call_entry F.slot_zip_next ty F.entry_zip_next ?_ (F.args_zip_next_1 _)))
  rcases st with rfl | ⟨T, rfl⟩
  · exact zip_over hh D S (zfree_none R.z) no hE
  · cases q : s.heap.get? T with
    | none => exact zip_over hh D S (zfree_gone R.z q) no hE
    | some o => exact zip_next_end_held hh D R.z q R.ti R.i1 R.i2 hl1 hl2 no fun h' e k => hE h' e fun c o cz _ c1 c2 => k c o cz c1 c2
end
/-- an enumerate over a zip: it stands apart from the zip's parts -/
structure EnApart (e z TI TO i1 i2 l1 l2 : Addr) : Prop where
  z : e ≠ z
  TI : e ≠ TI
  TO : e ≠ TO
  i1 : e ≠ i1
  i2 : e ≠ i2
section
variable {prog : Program} {w : World} {A : Around} {E : Value → Shared → Prop} {s : Shared} {e z TI TO i1 i2 l1 l2 : Addr} {i m n : Nat} {xs ys : Array Value}
set_option maxHeartbeats 4000000 in
theorem enumZ_next {x y old : Value} {Q : Value → Shared → Prop} (De : EnApart e z TI TO i1 i2 l1 l2) (D : ZipApart z TI TO i1 i2 l1 l2) (he : IsEnum s.heap e z i old)
    (S : ZipSt z TI TO i1 i2 l1 l2 s.heap m n) (hl1 : s.heap.IsList l1 xs) (hl2 : s.heap.IsList l2 ys) (hx : xs[m]? = some x) (hy : ys[n]? = some y)
    (hQ : ∀ h', IsEnumOut h' e z ((i : Int) + 1) (.ref s.heap.objs.size) (s.heap.objs.size + 1) → ZipSt z TI TO i1 i2 l1 l2 h' (m + 1) (n + 1) → IsPair h' s.heap.objs.size x y →
      IsPair h' (s.heap.objs.size + 1) (.int i s.toks) (.ref s.heap.objs.size) → h'.objs.size = s.heap.objs.size + 2 → (∀ c o, c ≠ e → c ≠ z → c ≠ TO → c ≠ i1 → c ≠ i2 → s.heap.get? c = some o → h'.get? c = some o) →
      Q (.ref (s.heap.objs.size + 1)) { s with heap := h', toks := s.toks + 1 }) :
    wpAny (model prog w) A (Builtin.«enumerate.__next__» ⟨[.ref e], []⟩) (fun fin s' => ∃ v, fin = .done (.ret v) ∧ Q v s') E s := by
  obtain ⟨hp, g, d, tk, os⟩ := s
  unfold Builtin.«enumerate.__next__»
  refine wpAny_bind (m := slotArgs "__next__" 0 ⟨[.ref e], []⟩) (wpAny_pure (wpAny_bind (wpAny_field he rfl (x := .ref z) rfl (wpAny_bind (nextZ D S hl1 hl2 hx hy ?_)))))
  intro h1 S1 p1 z1 k1
  show wpAny _ _ _ _ _ ⟨h1, g, d, tk, os⟩
  have r1 := k1 e _ De.z De.TO De.i1 De.i2 he
  wp_walk using wpAny_setField_rec r1 (show 3 < 6 by decide)
  intro h2 r2 k2
  show wpAny _ _ _ _ _ ⟨h2, g, d, tk + 1, os⟩
  wp_walk using wpAny_setField_rec r2 (show 4 < 6 by decide)
  intro h3 r3 k3
  show wpAny _ _ _ _ _ ⟨h3, g, d, tk + 1, os⟩
  wp_walk using wpAny_newTuple
  have r : (h3.push { cls := .type "tuple", data := .seq #[.int i tk, .ref hp.objs.size] }).get? e = _ := Heap.get?_push_of_some _ r3
  wp_walk using wpAny_field r rfl (show _ = some Value.none from rfl)
  have size : h3.objs.size = hp.objs.size + 1 := k3.1.trans (k2.1.trans z1)
  have ne : e < hp.objs.size := Heap.lt_size he
  let U := fun (h : Heap) (j : Nat) (v : Value) => h.update e (Obj.mapFields fun x => x.setIfInBounds j v)
  let h4 := h3.push { cls := .type "tuple", data := .seq #[.int i tk, .ref hp.objs.size] }
  let h7 := U (U (U h4 5 (.ref hp.objs.size)) 0 (rawInt h3.objs.size)) 1 (.bool false)
  have up : ∀ c o, c ≠ e → h4.get? c = some o → h7.get? c = some o := fun c o ce q => (Heap.SameBut.update ..).extBut c o ce ((Heap.SameBut.update ..).extBut c o ce ((Heap.SameBut.update ..).extBut c o ce q))
  have r := Heap.get?_update_self (Obj.mapFields fun x => x.setIfInBounds 1 (.bool false)) (Heap.get?_update_self (Obj.mapFields fun x => x.setIfInBounds 0 (rawInt h3.objs.size)) (Heap.get?_update_self (Obj.mapFields fun x => x.setIfInBounds 5 (.ref hp.objs.size)) r rfl) rfl) rfl
  have old : ∀ c o, c ≠ e → h1.get? c = some o → h7.get? c = some o := fun c o ce q => up c o ce (Heap.get?_push_of_some _ (k3.extBut c o ce (k2.extBut c o ce q)))
  have ⟨v0, f, a, b, R, st⟩ := S1
  have apart : ∀ c ∈ [z, TI, TO, i1, i2], c ≠ e := fun c hc q => by
    simp only [List.mem_cons, List.not_mem_nil, or_false] at hc
    rcases hc with rfl | rfl | rfl | rfl | rfl
    · exact De.z q.symm
    · exact De.TI q.symm
    · exact De.TO q.symm
    · exact De.i1 q.symm
    · exact De.i2 q.symm
  refine ⟨_, rfl, ?_⟩
  have fin := hQ h7 (size ▸ r) ⟨v0, f, a, b, R.all fun c hc o => old c o (apart c hc), st⟩ (old _ _ (Nat.ne_of_gt ne) p1) (size ▸ up _ _ (size ▸ Nat.ne_of_gt (Nat.lt_succ_of_lt ne)) (Heap.get?_push_size _ rfl))
    (by show h7.objs.size = _; simp only [h7, U, h4, Heap.size_after_update, Heap.size_push, size]) fun c o ce cz cT c1 c2 q => old c o ce (k1 c o cz cT c1 c2 q)
  show Q (.ref h3.objs.size) ⟨h7, g, d, tk + 1, os⟩
  rw [size]
  exact fin
  all_goals (show 2 ≤ sizeLine; decide)
theorem pyNext_enumZ {x y old : Value} {Q : Option Value → Shared → Prop} (De : EnApart e z TI TO i1 i2 l1 l2) (D : ZipApart z TI TO i1 i2 l1 l2) (he : IsEnum s.heap e z i old)
    (S : ZipSt z TI TO i1 i2 l1 l2 s.heap m n) (hl1 : s.heap.IsList l1 xs) (hl2 : s.heap.IsList l2 ys) (hx : xs[m]? = some x) (hy : ys[n]? = some y)
    (hQ : ∀ h', IsEnumOut h' e z ((i : Int) + 1) (.ref s.heap.objs.size) (s.heap.objs.size + 1) → ZipSt z TI TO i1 i2 l1 l2 h' (m + 1) (n + 1) → IsPair h' s.heap.objs.size x y →
      IsPair h' (s.heap.objs.size + 1) (.int i s.toks) (.ref s.heap.objs.size) → h'.objs.size = s.heap.objs.size + 2 → (∀ c o, c ≠ e → c ≠ z → c ≠ TO → c ≠ i1 → c ≠ i2 → s.heap.get? c = some o → h'.get? c = some o) →
      Q (some (.ref (s.heap.objs.size + 1))) { s with heap := h', toks := s.toks + 1 }) : wpAny (model prog w) A (pyNext (.ref e)) Q E s := by
  have ty : s.TypeIs (.ref e) "enumerate" := ⟨_, he, rfl⟩
  unfold pyNext
  exact wpAny_bind (wpAny_attempt (wpAny_callSpecial?_slot (name := Str.ofString "__next__") ty F.slot_enumerate_next (wpAny_call_entry F.slot_enumerate_next ty F.entry_enumerate_next
    (enumZ_next De D he S hl1 hl2 hx hy fun h' o S' p q z k => wpAny_pure (hQ h' o S' p q z k)) (F.args_enumerate_next_1 _))))
theorem pyStop_enumZ {k : Int} {old : Value} {Q : Option Value → Shared → Prop} (hh : A.handled = none) (D : ZipApart z TI TO i1 i2 l1 l2) (he : IsEnum s.heap e z k old) (S : ZipSt z TI TO i1 i2 l1 l2 s.heap m n) (hl1 : s.heap.IsList l1 xs) (hl2 : s.heap.IsList l2 ys)
    (no : xs[m]? = none ∨ ys[n]? = none) (hQ : ∀ h', (∀ c o, c ≠ z → c ≠ TO → c ≠ i1 → c ≠ i2 → s.heap.get? c = some o → h'.get? c = some o) → Q none { s with heap := h' }) : wpAny (model prog w) A (pyNext (.ref e)) Q E s := by
  have ty : s.TypeIs (.ref e) "enumerate" := ⟨_, he, rfl⟩
  unfold pyNext
  refine wpAny_bind (wpAny_attempt (wpAny_callSpecial?_slot (name := Str.ofString "__next__") ty F.slot_enumerate_next (wpAny_call_entry F.slot_enumerate_next ty F.entry_enumerate_next ?_ (F.args_enumerate_next_1 _))))
  unfold Builtin.«enumerate.__next__»
  refine wpAny_bind (m := slotArgs "__next__" 0 ⟨[.ref e], []⟩) (wpAny_pure (wpAny_bind (wpAny_field he rfl (x := .ref z) rfl (wpAny_bind (overZ hh D S hl1 hl2 no fun h' x k ⟨o, ho, hc⟩ => ?_)))))
  exact wpAny_bind (wpAny_isInstance (T := "StopIteration") (b := true) ⟨o, ho, hc⟩ isSubtype_stop (wpAny_pure (hQ _ k)))
end
end L3

namespace L3
open PySem PySem.Spec L2 PyProof.Rows PySem.W
open Sem (wp)
open AutoSeq1 (wpAny_loadPart')
/-! ### enumerate(zip(a, b)) of two lists -/
def Itez (K : PySem.W.Frag) (a b : Addr) : It :=
  ⟨fun i H => ∃ (xs ys : List V) (x y : V), SqL K H a xs ∧ SqL K H b ys ∧ xs[i]? = some x ∧ ys[i]? = some y,
    fun i H v H' => ∃ T U x y, v = .ref U ∧ H T = none ∧ upd H T (.tup [x, y]) U = none ∧ H' = upd (upd H T (.tup [x, y])) U (.tup [.int (i : Nat), .ref T]) ∧ (∀ xs, SqL K H a xs → xs[i]? = some x) ∧ ∀ ys, SqL K H b ys → ys[i]? = some y,
    fun i H => ∃ xs ys : List V, SqL K H a xs ∧ SqL K H b ys ∧ (xs.length ≤ i ∨ ys.length ≤ i)⟩
theorem fpOk_upd {X : Cx} {pins : List (Addr × Obj)} {H : Hp} {c T : Addr} {o : HO} (h : FpOk X pins H c) (hne : c ≠ T) : FpOk X pins (L2.upd H T o) c := by
  obtain ⟨h1, h2⟩ := h
  exact ⟨by rw [upd_ne hne]; exact h1, h2⟩
theorem far {k i j : Nat} (h : i ≠ j) : k + i ≠ k + j := fun q => h (Nat.add_left_cancel q)
theorem ZR.stand {z TI TO i1 i2 l1 l2 : Addr} {h : Heap} {v0 v1 a b : Value} {m n : Nat} (R : ZR z TI TO i1 i2 l1 l2 h v0 v1 a b m n) : ∀ c ∈ [z, TI, TO, i1, i2], ∃ o, h.get? c = some o ∧ ∀ v, o.data ≠ .cell v
  | _, .head _ => ⟨_, R.z, nofun⟩
  | _, .tail _ (.head _) => ⟨_, R.ti, nofun⟩
  | _, .tail _ (.tail _ (.head _)) => ⟨_, R.to, nofun⟩
  | _, .tail _ (.tail _ (.tail _ (.head _))) => R.i1.imp fun _ q => ⟨q.1, fun _ z => nomatch q.2.2.symm.trans z⟩
  | _, .tail _ (.tail _ (.tail _ (.tail _ (.head _)))) => R.i2.imp fun _ q => ⟨q.1, fun _ z => nomatch q.2.2.symm.trans z⟩
theorem ZipSt.all {z TI TO i1 i2 l1 l2 : Addr} {h h' : Heap} {m n : Nat} (S : ZipSt z TI TO i1 i2 l1 l2 h m n) (k : ∀ c ∈ [z, TI, TO, i1, i2], ∀ o, h.get? c = some o → h'.get? c = some o) : ZipSt z TI TO i1 i2 l1 l2 h' m n :=
  have ⟨v0, f, a, b, R, st⟩ := S
  ⟨v0, f, a, b, R.all k, st⟩
/-- the state of enumerate(zip(a, b)) ahead of turn i -/
def EZ (e z TI TO i1 i2 a b : Addr) (i : Nat) (h : Heap) : Prop := (∃ old, IsEnum h e z (i : Int) old) ∧ ZipSt z TI TO i1 i2 a b h i i
theorem EZ.stand {e z TI TO i1 i2 a b : Addr} {i : Nat} {h : Heap} (S : EZ e z TI TO i1 i2 a b i h) : ∀ c ∈ [e, z, TI, TO, i1, i2], ∃ o, h.get? c = some o ∧ ∀ v, o.data ≠ .cell v
  | _, .head _ => S.1.elim fun _ en => ⟨_, en, nofun⟩
  | c, .tail _ hc => have ⟨_, _, _, _, R, _⟩ := S.2; R.stand c hc
theorem turn_enumZ {P : Program} {w : World} {K : PySem.W.Frag} {elts : List Expr} {kk : Nat} {tpos : Pos} {a b e z TI TO i1 i2 : Addr} (De : EnApart e z TI TO i1 i2 a b) (D : ZipApart z TI TO i1 i2 a b) :
    Turn P w K (.Tuple elts kk tpos) (Itez K a b) [e, z, TI, TO, i1, i2] e (EZ e z TI TO i1 i2 a b) where
  mem := .head _
  obj _ _ := EZ.stand
  keep _ _ _ st k := ⟨st.1.imp fun _ en => k e (.head _) _ en, st.2.all fun c hc => k c (.tail _ hc)⟩
  item X hP hw hK calm i pins s σ H E I hf st hg := by
    cases hP; cases hw; cases hK
    have lt : ∀ c ∈ [e, z, TI, TO, i1, i2], c < s.heap.objs.size := fun c hc => (st.stand c hc).elim fun _ q => Heap.lt_size q.1
    have ⟨⟨_, en⟩, Z⟩ := st
    have ⟨xs, ys, x, y, qa, qb, ax, ay⟩ := hg
    have ⟨its, ra, pa, _⟩ := I.list qa
    have ⟨jts, rb, pb, _⟩ := I.list qb
    have ⟨u, au, ru⟩ := ra.get ax
    have ⟨t, at_, rt⟩ := rb.get ay
    refine pyNext_enumZ De D en Z pa.isList pb.isList (x := u) (y := t) ((List.getElem?_toArray ..).trans au) ((List.getElem?_toArray ..).trans at_) fun h' out Z' pair laid _ kept => ⟨_, rfl, ?_⟩
    have J := I.laid (t' := s.toks) (h' := s.heap.push { cls := .type "tuple", data := .seq #[u, t] }) (o := .tup [x, y]) (fun _ _ => Heap.get?_push_of_some _) (Nat.le_refl _) ⟨by show 2 ≤ sizeLine; decide, [u, t], .cons ru (.cons rt .nil), IsTup.new _ _⟩
    have kept' : ∀ c o, c ∉ [e, z, TI, TO, i1, i2] → (s.heap.push { cls := .type "tuple", data := .seq #[u, t] }).get? c = some o → h'.get? c = some o := fun c o nc q => by
      rcases Heap.get?_push_cases q with ⟨rfl, rfl⟩ | q
      · exact pair
      · simp only [List.mem_cons, List.not_mem_nil, or_false, not_or] at nc
        exact kept c o nc.1 nc.2.1 nc.2.2.2.1 nc.2.2.2.2.1 nc.2.2.2.2.2 q
    refine wpAny_mono (pair_laid (X := X) (x := .ref s.heap.objs.size) (s := { s with heap := s.heap.push { cls := .type "tuple", data := .seq #[u, t] } }) J (Nat.le_of_eq (Heap.size_push ..)) (fun c hc => fpOk_upd (hf c hc) (Nat.ne_of_lt (lt c hc))) (.head _)
      (fun c hc => Nat.lt_succ_of_lt (lt c hc)) (show RelV (.ref s.heap.objs.size) (.ref s.heap.objs.size) from rfl) out laid kept') (fun _ r ⟨L, en', but⟩ => ?_) fun _ _ q => q
    have apart : ∀ c ∈ [z, TI, TO, i1, i2], c ≠ e
      | _, .head _ => De.z.symm
      | _, .tail _ (.head _) => De.TI.symm
      | _, .tail _ (.tail _ (.head _)) => De.TO.symm
      | _, .tail _ (.tail _ (.tail _ (.head _))) => De.i1.symm
      | _, .tail _ (.tail _ (.tail _ (.tail _ (.head _)))) => De.i2.symm
    refine ⟨.ref (s.heap.objs.size + 1), _, L, rfl, ⟨s.heap.objs.size, s.heap.objs.size + 1, x, y, rfl, I.hok.fresh (Nat.le_refl _), ?_, rfl, fun l hl => I.list_inj hl qa ▸ ax, fun l hl => I.list_inj hl qb ▸ ay⟩,
      ⟨⟨_, by rw [Int.natCast_succ]; exact en'⟩, Z'.all fun c hc o q => (but.2 c (apart c hc)).trans q⟩, fp_none (fun c hc => Nat.lt_succ_of_lt (lt c hc)) (fp_none lt fun c hc => (hf c hc).1)⟩
    exact (upd_ne (Nat.succ_ne_self _)).trans (I.hok.fresh (Nat.le_succ _))
  done X hP hw hK calm i pins s σ H E I hf st hg := by
    cases hP; cases hw; cases hK
    have ⟨⟨_, en⟩, Z⟩ := st
    have ⟨xs, ys, qa, qb, over⟩ := hg
    have ⟨its, ra, pa, _⟩ := I.list qa
    have ⟨jts, rb, pb, _⟩ := I.list qb
    have gone : its.toArray[i]? = none ∨ jts.toArray[i]? = none := over.imp (fun q => by simp [← ra.length, q]) (fun q => by simp [← rb.length, q])
    refine pyStop_enumZ (I.ok.hd calm) D en Z pa.isList pb.isList gone fun h' kept => ⟨rfl, I.turnedL (t' := s.toks) (ch := [e, z, TI, TO, i1, i2]) (fun c o nc q => ?_) hf⟩
    simp only [List.mem_cons, List.not_mem_nil, or_false, not_or] at nc
    exact kept c o nc.2.1 nc.2.2.2.1 nc.2.2.2.2.1 nc.2.2.2.2.2 q
  self _ _ _ _ _ st h := st.1.elim fun _ en => wpAny_pyIter_enum en h
def iEnumZ (K : PySem.W.Frag) (ta : TA) : TI := fun σ H R => ta σ H fun vs H1 => ∃ a b xs ys, vs = [.ref a, .ref b] ∧ SqL K H1 a xs ∧ SqL K H1 b ys ∧ R (Itez K a b) H1
theorem pi_enumZ {X : Cx} {e e2 : Expr} {ta : TA} {p pos p0 pos0 tpos : Pos} {elts : List Expr} {kk : Nat} (hg0 : Gl X "enumerate") (hm0 : X.mg "enumerate" = none) (hg : Gl X "zip") (hm : X.mg "zip" = none) (ha : PA X [e, e2] ta)
    (na : starEach [.Call (.Name "zip" p) [e, e2] [] pos] X.env = (false, eval (.Call (.Name "zip" p) [e, e2] [] pos) X.env) :: starEach [] X.env := by rfl)
    (hs : starEach [e, e2] X.env = (false, eval e X.env) :: starEach [e2] X.env := by rfl) (hpl : (backTo pos (starEach [e2] X.env)).any (·.1) = false := by rfl) :
    PI X (.Tuple elts kk tpos) (.Call (.Name "enumerate" p0) [.Call (.Name "zip" p) [e, e2] [] pos] [] pos0) (iEnumZ X.K ta) where
  run pins s σ H R I h := by
    refine Call_ (ld_blt I hg0 hm0 boot_enumerate (PyProof.Rows.callWith_type1 (args_cons (Call_ (ld_blt I hg hm PyProof.Rows.boot_zip (PyProof.Rows.callWith_type1 (thn (ha.run pos pins s σ H _ I h) fun us s1 got => ?_) hs hpl))) na) na))
    have ⟨vs, H1, J, rel, a, b, xs, ys, ex, qa, qb, q⟩ := got
    cases ex
    cases rel with | cons r1 rel => ?_
    cases rel with | cons r2 rel => ?_
    cases rel; cases r1; cases r2
    have ⟨_, _, pa, _⟩ := J.list qa
    have ⟨_, _, pb, _⟩ := J.list qb
    refine call_zip_2 pa.isList pb.isList fun h1 hz ti to k1 k2 sz kept => args_nil ?_
    refine enum_over (s := { s1 with heap := h1 }) (H := fun h => IsZip h (s1.heap.objs.size + 4) (s1.heap.objs.size + 2) (s1.heap.objs.size + 3) .none) (it := fun _ => s1.heap.objs.size + 4) (behind := fun h => h) (fun prog w A E t Q c q => wpAny_pyIter_zip c q) hz fun h2 en _ kept2 => wpAny_pyIter_enum en ?_
    have sz : h1.objs.size = s1.heap.objs.size + 5 := sz
    have en : IsEnum h2 h1.objs.size (s1.heap.objs.size + 4) 0 .none := en
    show PIE X pins σ (.Tuple elts kk tpos) R (.ref h1.objs.size) { s1 with heap := h2 }
    rw [sz] at en ⊢
    have le : ∀ c ∈ [s1.heap.objs.size + 5, s1.heap.objs.size + 4, s1.heap.objs.size + 2, s1.heap.objs.size + 3, s1.heap.objs.size, s1.heap.objs.size + 1], s1.heap.objs.size ≤ c := fun c hc => by
      simp only [List.mem_cons, List.not_mem_nil, or_false] at hc
      omega
    have De : EnApart (s1.heap.objs.size + 5) (s1.heap.objs.size + 4) (s1.heap.objs.size + 2) (s1.heap.objs.size + 3) s1.heap.objs.size (s1.heap.objs.size + 1) a b := ⟨far (by decide), far (by decide), far (by decide), far (j := 0) (by decide), far (by decide)⟩
    exact ⟨_, _, _, _, H1, rfl, J.kept (t' := s1.toks) fun c o q => kept2 c o (kept c o q), turn_enumZ De (PySem.W.ktu_apart s1.heap.objs.size a b pa.lt pb.lt),
      ⟨⟨_, en⟩, ⟨.none, false, _, _, ⟨kept2 _ _ hz, kept2 _ _ ti, kept2 _ _ to, k1.at (kept2 _), k2.at (kept2 _)⟩, .inl rfl⟩⟩, fun c hc => J.fpOk (le c hc) (J.hok.fresh (le c hc)), q⟩
end L3

set_option maxHeartbeats 1000000
namespace L3
open PySem PySem.Spec L2 PyProof.Rows HT
/-! ### enumerate(zip(a, b)) -/
section
variable {G : Gd} {F : Hp} {a b : Addr} {vs ws : List V} {ds es : List D}
theorem itok_enumZ (h : SqL G.K F a vs) (r : RpA G.K F vs ds) (h' : SqL G.K F b ws) (r' : RpA G.K F ws es) : ItOk G (Itez G.K a b) F (enumD 0 (zipD ds es)) where
  go := fun F' H' L i s hr hi => by
    rw [enumD_len, zipD_len] at hi
    have hi1 : i < vs.length := by rw [r.length]; omega
    have hi2 : i < ws.length := by rw [r'.length]; omega
    exact ⟨vs, ws, vs[i], ws[i], (s.trans hr.sub).seq h, (s.trans hr.sub).seq h', List.getElem?_eq_getElem hi1, List.getElem?_eq_getElem hi2⟩
  yld := fun F' H' L i x H'' d s hr hd hy => by
    obtain ⟨T, U, y, z, rfl, hT, hU, rfl, hx, hz⟩ := hy
    rw [enumD_get] at hd
    cases q : (zipD ds es)[i]? with
    | none => rw [q] at hd; cases hd
    | some d' =>
      rw [q] at hd
      cases hd
      obtain ⟨d1, d2, q1, q2, rfl⟩ := zipD_get _ _ _ _ q
      obtain ⟨v, h1, h2⟩ := r.get q1
      obtain ⟨v', h1', h2'⟩ := r'.get q2
      have e := hx vs ((s.trans hr.sub).seq h)
      rw [h1] at e
      cases e
      have e := hz ws ((s.trans hr.sub).seq h')
      rw [h1'] at e
      cases e
      rw [show 0 + i = i from Nat.zero_add i]
      obtain ⟨F1, s1, hr1, rp1⟩ := pair_new hr hT (h2.mono s) (h2'.mono s)
      obtain ⟨F2, s2, hr2, rp2⟩ := pair_new hr1 hU (.int (i : Nat)) rp1
      exact ⟨F2, s1.trans s2, hr2, rp2⟩
  stop := fun F' H' L i s hr hi => ⟨vs, ws, (s.trans hr.sub).seq h, (s.trans hr.sub).seq h', by rw [r.length, r'.length]; rw [enumD_len, zipD_len] at hi; omega⟩
end
section
variable {ι : Type} {G : Gd} {X : ι → Cx} {W : WX} {e tg : Expr} {es : List Expr}
def fIEnumZ (f g : Fn Bv) : Fn (List D) := fun n ρ => bnd (fFzs (fCons f (fCons g fNil)) n ρ) fun ds ρ1 => match ds with
  | [.list xs, .list ys] => some (.ok (enumD 0 (zipD xs ys)) ρ1)
  | _ => none
theorem snd_ienumZ {t u : TE} {f g : Fn Bv} (h : SndB G W t f) (h' : SndB G W u g) : SndI G W (iEnumZ G.K (tCons t (tCons u tNil))) (fIEnumZ f g) := fun n ρ r e F H σ T Q hR hP => by
  unfold fIEnumZ at e
  cases q : fFzs (fCons f (fCons g fNil)) n ρ with
  | none => rw [q] at e; cases e
  | some r1 =>
    rw [q] at e
    refine snd_fzs (snd_cons h (snd_cons h' snd_nil)) n ρ r1 q F H σ T _ hR ?_
    cases r1 with
    | ex x ρ' => cases e; exact hP
    | ok ds ρ1 =>
      rw [bnd_ok] at e
      intro F1 H1 vs s1 R1 v1
      split at e
      · cases e
        cases v1 with
        | cons a1 v1 =>
          cases v1 with
          | cons a2 v1 =>
            cases v1
            cases a1 with
            | lst h1 r1 =>
              cases a2 with
              | lst h2 r2 => exact ⟨_, _, _, _, rfl, R1.sub.seq h1, R1.sub.seq h2, hP F1 H1 _ s1 R1 (itok_enumZ h1 r1 h2 r2)⟩
      · cases e
theorem xi_enumZ {e2 : Expr} {f g : Fn Bv} {p pos p0 pos0 tpos : Pos} {elts : List Expr} {kk : Nat} (hK : ∀ i, (X i).K = G.K) (hg0 : ∀ i, Gl (X i) "enumerate") (hm0 : ∀ i, (X i).mg "enumerate" = none) (hg : ∀ i, Gl (X i) "zip") (hm : ∀ i, (X i).mg "zip" = none) (h : XB G X W e f) (h' : XB G X W e2 g)
    (na : ∀ i, starEach [.Call (.Name "zip" p) [e, e2] [] pos] (X i).env = (false, eval (.Call (.Name "zip" p) [e, e2] [] pos) (X i).env) :: starEach [] (X i).env)
    (hs : ∀ i, starEach [e, e2] (X i).env = (false, eval e (X i).env) :: starEach [e2] (X i).env) (hs2 : ∀ i, starEach [e2] (X i).env = (false, eval e2 (X i).env) :: starEach [] (X i).env) (hpl : ∀ i, (backTo pos (starEach [e2] (X i).env)).any (·.1) = false) :
    XI G X W (.Tuple elts kk tpos) (.Call (.Name "enumerate" p0) [.Call (.Name "zip" p) [e, e2] [] pos] [] pos0) (fIEnumZ f g) := by
  obtain ⟨t, h1, h2⟩ := h
  obtain ⟨t', h1', h2'⟩ := h'
  exact ⟨_, fun i => by have := pi_enumZ (elts := elts) (kk := kk) (tpos := tpos) (p := p) (p0 := p0) (pos0 := pos0) (hg0 i) (hm0 i) (hg i) (hm i) (pa_cons (h1 i) (pa_cons (h1' i) pa_nil (hs2 i)) (hs i)) (na i) (hs i) (hpl i); rw [hK i] at this; exact this, snd_ienumZ h2 h2'⟩
end
end L3

set_option maxHeartbeats 1000000
namespace L3
open PySem PySem.Spec L2
/-! ### a list comprehension with two `for` -/
def lcF2 (N : Nat) (g : FG) (i1 : Fn (List D)) (g1 : FG) (e : Fn Bv) (vs vs1 : List Nat) (n : Nat) : List D → En → List D → Option (Rz Cl)
  | [], ρ, acc => some (.ok (.lst acc) ρ)
  | d :: ds, ρ, acc => match g d ρ with
    | some ρ2 => if ρ2.length = N then (match i1 n ρ2 with
      | some (.ok ds1 ρ3) => if (decide (ρ3.length = N) && (decide (ds1.length ≤ 1000000) && decide (acc.length ≤ 1000000))) = true then (match lcF N g1 fYes e vs1 n ds1 (wipR ρ3 vs1) acc with
        | some (.ok (.lst acc') ρ4) => lcF2 N g i1 g1 e vs vs1 n ds (wipR ρ4 vs) acc'
        | _ => none) else none
      | _ => none) else none
    | none => none
def fLc2 (N : Nat) (vs vs1 : List Nat) (i : Fn (List D)) (g : FG) (i1 : Fn (List D)) (g1 : FG) (e : Fn Bv) : Fn Cl := fun n ρ => bnd (i n ρ) fun ds ρ1 =>
  if ((vs.all (fun j => decide (j < N)) && vs1.all (fun j => vs.contains j)) && decide (ρ1.length = N)) = true then lcF2 N g i1 g1 e vs vs1 n ds (wipR ρ1 vs) [] else none
theorem tM2 : (2000000 : Nat) < sizeLine := by rw [sizeLine_eq]; decide
section
variable {ι : Type} {G : Gd} {X : ι → Cx} {W : WX}
theorem snd_lc2 {N : Nat} {vs vs1 : List Nat} {wi wi1 : TI} {tg tg1 : TG} {te : TE} {i i1 : Fn (List D)} {g g1 : FG} {e : Fn Bv} (hi : SndI G W wi i) (hg : SndG G (outP N vs) tg g) (hi1 : SndI G W0 wi1 i1) (hg1 : SndG G (outP N vs1) tg1 g1) (he : SndB G W0 te e) :
    SndE G W (tLc2 wi tg tYes wi1 tg1 tYes te vs vs1) (fLc2 N vs vs1 i g i1 g1 e) := fun n ρ r eq F H σ T Q hR hP => by
  unfold fLc2 at eq
  cases q : i n ρ with
  | none => rw [q] at eq; cases eq
  | some r1 =>
    rw [q] at eq
    refine hi n ρ r1 q F H σ T _ hR ?_
    cases r1 with
    | ex x ρ' => cases eq; exact hP
    | ok ds ρ1 =>
      rw [bnd_ok] at eq
      split at eq
      case isFalse => cases eq
      rename_i hh
      rw [Bool.and_eq_true, Bool.and_eq_true] at hh
      obtain ⟨⟨hn0, hsub⟩, hN⟩ := hh
      have hN := of_decide_eq_true hN
      have lt : ∀ j ∈ vs, j < N := fun j hj => of_decide_eq_true (List.all_eq_true.mp hn0 j hj)
      have sub : ∀ j ∈ vs1, j ∈ vs := fun j hj => by
        have := List.all_eq_true.mp hsub j hj
        simpa using this
      have hn : ∀ j ∈ vs, (wipR ρ1 vs)[j]? = some none := fun j hj => wipR_at ρ1 vs j hj (by have := lt j hj; omega)
      intro F1 H1 J s1 R1 ok Dn hD
      have lσ : ρ1.length = σ.length := R1.ok.len
      have Rw : G.R F1 H1 (wipR ρ1 vs) (wipe σ vs) T := R1.wip vs
      refine ⟨fun k m H' => ∃ ρ' F' acc, m = ds.length - k ∧ k ≤ ds.length ∧ Same F1 F' ∧ G.R F' H' ρ' (wipe σ vs) ((.lst acc, .ref Dn) :: T) ∧ (∀ j ∈ vs, ρ'[j]? = some none) ∧ ρ'.length = N ∧ lcF2 N g i1 g1 e vs vs1 n (ds.drop k) ρ' acc = some r,
        ⟨ds.length, wipR ρ1 vs, F1, [], by simp, Nat.zero_le _, Same.refl _, Rw.newLst hD .nil, hn, by rw [wipR_len]; exact hN, by rw [List.drop_zero]; exact eq⟩, ?_⟩
      rintro k m H' ⟨ρ', F', acc, rfl, hk, s', R', hn', hN', eo⟩
      by_cases hlt : k < ds.length
      · rw [List.drop_eq_getElem_cons hlt] at eo
        unfold lcF2 at eo
        cases q1 : g ds[k] ρ' with
        | none => rw [q1] at eo; cases eo
        | some ρ2 =>
          rw [q1] at eo
          dsimp only at eo
          by_cases l2 : ρ2.length = N
          case neg => rw [if_neg l2] at eo; cases eo
          rw [if_pos l2] at eo
          refine .inr ⟨ok.go F' H' _ k s' R'.hr hlt, fun H3 => ∃ ρ3 F3 acc3, Same F1 F3 ∧ G.R F3 H3 ρ3 (wipe σ vs) ((.lst acc3, .ref Dn) :: T) ∧ (∀ j ∈ vs, ρ3[j]? = some none) ∧ ρ3.length = N ∧ lcF2 N g i1 g1 e vs vs1 n (ds.drop (k + 1)) ρ3 acc3 = some r, ?_, ?_⟩
          · rintro H3 ⟨ρ3, F3, acc3, s3, R3, hn3, hN3, e3⟩
            exact ⟨ds.length - (k + 1), by omega, ρ3, F3, acc3, rfl, hlt, s3, R3, hn3, hN3, e3⟩
          · intro x H2 hy
            obtain ⟨F2, s2, hr2, rx⟩ := ok.yld F' H' _ k x H2 ds[k] s' R'.hr (List.getElem?_eq_getElem hlt) hy
            refine hg ds[k] ρ' ρ2 q1 F2 H2 (wipe σ vs) _ x _ ⟨hr2, R'.ok⟩ rx fun σ4 R4 k4 => ?_
            have l4 : σ4.length = σ.length := by
              have h1 := R4.ok.len
              have h2 := R'.ok.len
              rw [wipe_length] at h2
              omega
            have w4 : wipe σ4 vs = wipe σ vs := by
              have e1 : wipe σ4 vs = wipe (wipe σ vs) vs := wipe_eq (by rw [l4, wipe_length]) fun j hj m => by
                refine k4 j (List.mem_filter.mpr ⟨List.mem_range.mpr ?_, by simp [m]⟩)
                rw [wipe_length] at hj
                omega
              rw [e1]
              exact wipe_eq (wipe_length _ _) fun j hj m => wipe_out m
            refine ⟨w4, ?_⟩
            have s02 := s'.trans s2
            try unfold tYes
            dsimp only
            try rw [if_pos rfl]
            cases q2 : i1 n ρ2 with
            | none => rw [q2] at eo; cases eo
            | some o2 =>
              rw [q2] at eo
              refine hi1 n ρ2 o2 q2 F2 H2 σ4 _ _ R4 ?_
              cases o2 with
              | ex x ρ3 => cases eo
              | ok ds1 ρ3 =>
                intro F3 H3 J1 s3 R3 ok1
                dsimp only at eo
                split at eo
                case isFalse => cases eo
                rename_i hc
                rw [Bool.and_eq_true, Bool.and_eq_true] at hc
                have l3 := of_decide_eq_true hc.1
                have z1 := of_decide_eq_true hc.2.1
                have za := of_decide_eq_true hc.2.2
                cases q3 : lcF N g1 fYes e vs1 n ds1 (wipR ρ3 vs1) acc with
                | none => rw [q3] at eo; cases eo
                | some o3 =>
                  rw [q3] at eo
                  cases o3 with
                  | ex x ρ4 => cases eo
                  | ok c ρ4 =>
                    cases c with
                    | fz _ => cases eo
                    | dct _ => cases eo
                    | dtt _ => cases eo
                    | dlk _ => cases eo
                    | dlt _ => cases eo
                    | bx _ _ => cases eo
                    | ins _ _ => cases eo
                    | exn _ _ => cases eo
                    | lst acc' =>
                      dsimp only at eo
                      have l43 : ρ3.length = σ4.length := R3.ok.len
                      refine ⟨fun j kk H5 => ∃ ρ5 F5 acc5, kk = ds1.length - j ∧ j ≤ ds1.length ∧ acc5.length ≤ acc.length + j ∧ Same F3 F5 ∧ G.R F5 H5 ρ5 (wipe σ4 vs1) ((.lst acc5, .ref Dn) :: T) ∧ (∀ j ∈ vs1, ρ5[j]? = some none) ∧ ρ5.length = N ∧ lcF N g1 fYes e vs1 n (ds1.drop j) ρ5 acc5 = some (.ok (.lst acc') ρ4),
                        ⟨ds1.length, wipR ρ3 vs1, F3, acc, by simp, Nat.zero_le _, Nat.le_refl _, Same.refl _, R3.wip vs1, fun j hj => wipR_at ρ3 vs1 j hj (by have := lt j (sub j hj); omega), by rw [wipR_len]; exact l3, by rw [List.drop_zero]; exact q3⟩, ?_⟩
                      rintro j kk H5 ⟨ρ5, F5, acc5, rfl, hj, ha5, s5, R5, hn5, hN5, e5⟩
                      by_cases hlt1 : j < ds1.length
                      · rw [List.drop_eq_getElem_cons hlt1] at e5
                        unfold lcF at e5
                        cases p1 : g1 ds1[j] ρ5 with
                        | none => rw [p1] at e5; cases e5
                        | some ρ6 =>
                          rw [p1] at e5
                          dsimp only at e5
                          by_cases l6 : ρ6.length = N
                          case neg => rw [if_neg l6] at e5; cases e5
                          rw [if_pos l6] at e5
                          refine .inr ⟨ok1.go F5 H5 _ j s5 R5.hr hlt1, fun H7 => ∃ ρ7 F7 acc7, acc7.length ≤ acc.length + (j + 1) ∧ Same F3 F7 ∧ G.R F7 H7 ρ7 (wipe σ4 vs1) ((.lst acc7, .ref Dn) :: T) ∧ (∀ j ∈ vs1, ρ7[j]? = some none) ∧ ρ7.length = N ∧ lcF N g1 fYes e vs1 n (ds1.drop (j + 1)) ρ7 acc7 = some (.ok (.lst acc') ρ4), ?_, ?_⟩
                          · rintro H7 ⟨ρ7, F7, acc7, a7, s7, R7, hn7, hN7, e7⟩
                            exact ⟨ds1.length - (j + 1), by omega, ρ7, F7, acc7, rfl, hlt1, a7, s7, R7, hn7, hN7, e7⟩
                          · intro x1 H6 hy1
                            obtain ⟨F6, s6, hr6, rx6⟩ := ok1.yld F5 H5 _ j x1 H6 ds1[j] s5 R5.hr (List.getElem?_eq_getElem hlt1) hy1
                            refine hg1 ds1[j] ρ5 ρ6 p1 F6 H6 (wipe σ4 vs1) _ x1 _ ⟨hr6, R5.ok⟩ rx6 fun σ6 R6 k6 => ?_
                            have l6' : σ6.length = σ4.length := by
                              have h1 := R6.ok.len
                              have h2 := R5.ok.len
                              rw [wipe_length] at h2
                              omega
                            have w6 : wipe σ6 vs1 = wipe σ4 vs1 := by
                              have e1 : wipe σ6 vs1 = wipe (wipe σ4 vs1) vs1 := wipe_eq (by rw [l6', wipe_length]) fun j hj m => by
                                refine k6 j (List.mem_filter.mpr ⟨List.mem_range.mpr ?_, by simp [m]⟩)
                                rw [wipe_length] at hj
                                omega
                              rw [e1]
                              exact wipe_eq (wipe_length _ _) fun j hj m => wipe_out m
                            refine ⟨w6, ?_⟩
                            try unfold tYes
                            dsimp only
                            try rw [if_pos rfl]
                            have e5 : (match fFz e n ρ6 with
                              | some (.ok (.fz y) ρ4) => lcF N g1 fYes e vs1 n (ds1.drop (j + 1)) (wipR ρ4 vs1) (acc5 ++ [y])
                              | _ => none) = some (.ok (.lst acc') ρ4) := e5
                            cases p3 : fFz e n ρ6 with
                            | none => rw [p3] at e5; cases e5
                            | some o6 =>
                              rw [p3] at e5
                              refine snd_fz he n ρ6 o6 p3 F6 H6 σ6 _ _ R6 ?_
                              cases o6 with
                              | ex x ρ7 => cases e5
                              | ok c ρ7 =>
                                intro F7 H7 y s7 R7'
                                cases c with
                                | fz dy =>
                                  dsimp only at e5
                                  have ry := R7'.rp
                                  have R7 := R7'.tail
                                  obtain ⟨A, cr⟩ := R7.cr
                                  cases cr with
                                  | lst h1 h2 r2 =>
                                    refine ⟨_, h1, ?_, ?_⟩
                                    · rw [r2.length]
                                      exact Nat.lt_of_le_of_lt (by omega) tM2
                                    · have R8 : G.R F7 (upd H7 Dn (.lst (_ ++ [y]))) ρ7 σ6 ((.lst (acc5 ++ [dy]), .ref Dn) :: T) :=
                                        .mk' (R7.hr'.mut (fun A h => by cases h; rfl) (.lst upd_same h2 (r2.append (.cons ry .nil)))) R7.ok
                                      have Rn := R8.wip vs1
                                      rw [w6] at Rn
                                      have l8 := R8.ok.len
                                      refine ⟨wipR ρ7 vs1, F7, acc5 ++ [dy], ?_, (s5.trans s6).trans s7, Rn, fun j hj => wipR_at ρ7 vs1 j hj ?_, ?_, e5⟩
                                      · rw [List.length_append, List.length_singleton]; omega
                                      · have := lt j (sub j hj)
                                        omega
                                      · rw [wipR_len]
                                        omega
                                | lst _ => cases e5
                                | dct _ => cases e5
                                | dtt _ => cases e5
                                | dlk _ => cases e5
                                | dlt _ => cases e5
                                | bx _ _ => cases e5
                                | ins _ _ => cases e5
                                | exn _ _ => cases e5
                      · have ej : j = ds1.length := by omega
                        subst ej
                        rw [List.drop_length] at e5
                        cases e5
                        have Rn := R5.wip vs
                        have ww : wipe (wipe σ4 vs1) vs = wipe σ vs := by
                          rw [← w4]
                          exact wipe_eq (wipe_length _ _) fun j hj m => wipe_out fun z => m (sub j z)
                        rw [ww] at Rn
                        refine .inl ⟨ok1.stop F5 H5 _ _ s5 R5.hr (Nat.le_refl _), wipR ρ4 vs, F5, acc', (s02.trans s3).trans s5, Rn, fun j hj => wipR_at ρ4 vs j hj (by have := lt j hj; omega), by rw [wipR_len]; exact hN5, eo⟩
      · have ek : k = ds.length := by omega
        subst ek
        rw [List.drop_length] at eo
        cases eo
        refine .inl ⟨ok.stop F' H' _ _ s' R'.hr (Nat.le_refl _), hP F' H' _ (s1.trans s') (R'.agree (wipe_length _ _).symm fun j c hc => (wipe_out fun m => by rw [hn' j m] at hc; cases hc).symm)⟩
end
section
variable {ι : Type} {G : Gd} {X : ι → Cx} {W : WX}
theorem xe_lc2 {elt tg iter tg1 iter1 : Expr} {scope : Scope} {own : List (Str × Nat)} {vs1 : List Nat} {pos : Pos} {N : Nat} {i i1 : Fn (List D)} {g g1 : FG} {e : Fn Bv} (hc : ∀ j, (X j).calm = true) (hN : ∀ j, (X j).N.Nodup) (hi : XI G X W tg iter i) (ok : ∀ j, BlkOk (X j).N (X j).env.scope scope own)
    (hv : ∀ j ∈ vs1, j ∈ own.map (·.2)) (hg : XG G (blkX X scope) (outP N (own.map (·.2))) tg g) (hi1 : XI G (blkX X scope) W0 tg1 iter1 i1) (hg1 : XG G (blkX X scope) (outP N vs1) tg1 g1) (he : XB G (blkX X scope) W0 elt e)
    (hs : ∀ j, ∀ x, foldedSetIterable iter (X j).env x = pure x) (hs1 : ∀ env x, foldedSetIterable iter1 env x = pure x) :
    XE G X W (.ListComp elt [⟨tg, iter, [], 0⟩, ⟨tg1, iter1, [], 0⟩] scope pos) (fLc2 N (own.map (·.2)) vs1 i g i1 g1 e) := by
  obtain ⟨wi, a1, a2⟩ := hi
  obtain ⟨tg', b1, b2⟩ := hg
  obtain ⟨te, c1, c2⟩ := he
  obtain ⟨wi1, d1, d2⟩ := hi1
  obtain ⟨tg1', f1, f2⟩ := hg1
  exact ⟨_, fun j => pe_lc2 (hc j) (hN j) (a1 j) (ok j) hv (fun s H C cl fp => b1 (j, ⟨s, H, C, cl, fp⟩)) (fun _ _ _ _ _ => pts_nil) (fun s H C cl fp => d1 (j, ⟨s, H, C, cl, fp⟩)) (fun s H C cl fp => f1 (j, ⟨s, H, C, cl, fp⟩)) (fun _ _ _ _ _ => pts_nil)
    (fun s H C cl fp => c1 (j, ⟨s, H, C, cl, fp⟩)) (hs j) hs1, snd_lc2 a2 b2 d2 f2 c2⟩
end
end L3

set_option maxHeartbeats 1000000
namespace L2
open PySem PySem.Spec PyProof.Rows
/-- the keys of a dict with tuple keys: it is locked from here on -/
def iKeysLT (td : TE) : TI := fun σ H R => td σ H fun x H1 => ∃ d kvs, x = .ref d ∧ ((∃ o, H1 d = some (.frz o (.dT kvs)) ∧ R (Itkt d o kvs) H1) ∨ (H1 d = some (.dT kvs) ∧ ∀ o, R (Itkt d o kvs) (upd H1 d (.frz o (.dT kvs)))))
theorem pi_keysLT {X : Cx} {tg e : Expr} {td : TE} (he : PE X e td) : PI X tg e (iKeysLT td) where
  run pins s σ H R I h := thn (he.run pins s σ H _ I h) fun u s1 got => by
    have ⟨x, H1, J, rel, d, kvs, ex, q⟩ := got
    cases ex
    cases rel
    have go : ∀ {o : Obj} {H2 : Hp}, Inv X pins σ H2 s1 → H2 d = some (.frz o (.dT kvs)) → R (Itkt d o kvs) H2 → wpAny (model X.prog X.w) X.A (pyIter (.ref d)) (PIE X pins σ tg R) X.xe s1 := fun L at_ r => by
      have ⟨hs, gd, hx, _, _, dt, sz, _⟩ := L.frzT at_
      exact iter_keys hs gd hx dt (pi_one (tk := s1.toks) L _ (turn_keysT _ dt) ⟨_, Heap.get?_push_size _ rfl, rfl, by rw [sz] <;> rfl⟩ r)
    rcases q with ⟨_, at_, r⟩ | ⟨at_, r⟩
    · exact go J at_ r
    · have ⟨o, L⟩ := J.lock at_ trivial
      exact go L upd_same (r o)
end L2
namespace L3
open PySem PySem.Spec L2 PyProof.Rows
/-! ### dicts whose keys are tuples of ints -/
def kT (p : List Int) : List Key := p.map Sum.inl
theorem kT_kV (p : List Int) : (kT p).map kV = p.map V.int := by
  unfold kT
  rw [List.map_map]
  rfl
/-- the module holds no tuple that begins with an int -/
def NoT (K : PySem.W.Frag) : Prop := ∀ a o its n, K.lookup a = some o → o.cls = .type "tuple" → o.data = .seq its n → ∀ i t r, its.toList ≠ .int i t :: r
def tupB (o : Obj) : Bool := match o.cls, o.data with
  | .type _, .seq its _ => (match its.toList with
    | .int _ _ :: _ => false
    | _ => true)
  | _, _ => true
def noTB (K : PySem.W.Frag) : Bool := K.all fun p => tupB p.2
theorem frag_mem {a : Addr} {o : Obj} : ∀ {K : PySem.W.Frag}, K.lookup a = some o → (a, o) ∈ K
  | [], e => by cases e
  | (b, u) :: K, e => by
    rw [List.lookup_cons] at e
    split at e
    · rename_i q
      cases e
      rw [eq_of_beq q]
      exact List.mem_cons_self
    · exact List.mem_cons_of_mem _ (frag_mem e)
theorem noT_of {K : PySem.W.Frag} (h : noTB K = true) : NoT K := by
  intro a o its n e z d i t r q
  have := List.all_eq_true.mp h (a, o) (frag_mem e)
  unfold tupB at this
  dsimp only at this
  rw [z, d] at this
  dsimp only at this
  rw [q] at this
  cases this
theorem sqU_tup {K : PySem.W.Frag} {F : Hp} {a : Addr} {x : Int} {xs : List V} (hK : NoT K) (h : SqU K F a (.int x :: xs)) : F a = some (.tup (.int x :: xs)) := by
  rcases h with h | (h | ⟨_, h⟩) | ⟨o, its, n, h1, h2, h3, h4, h5⟩
  · exact h
  · cases h
  · cases h
  · exfalso
    cases q : its.toList with
    | nil => rw [q] at h5; cases h5
    | cons u us =>
      rw [q] at h5
      cases h5 with
      | cons r _ =>
        obtain ⟨t, rfl⟩ := r
        exact hK a o its n h1 h2 h3 x t us q
def keyTD : D → Option (List Int)
  | .tuple ds => match intsD ds with
    | some (x :: p) => some (x :: p)
    | _ => none
  | _ => none
theorem keyTD_rp {K : PySem.W.Frag} {F : Hp} {v : V} {d : D} {p : List Int} (hK : NoT K) (h : Rp K F v d) (e : keyTD d = some p) : ∃ b, v = .ref b ∧ F b = some (.tup ((kT p).map kV)) := by
  unfold keyTD at e
  split at e
  · rename_i ds
    split at e
    · rename_i x p' q
      cases e
      cases h with
      | tup h r =>
        have ed := intsD_ok q
        subst ed
        have ew := r.ints
        subst ew
        exact ⟨_, rfl, by rw [kT_kV]; exact sqU_tup hK h⟩
    · cases e
  · cases e
def getTT (es : List (List Key × D)) (k : List Key) : Option D := (es.find? fun p => decide (p.1 = k)).map (·.2)
theorem getTT_rp {K : PySem.W.Frag} {F : Hp} (k : List Key) : ∀ {kvs : List (List Key × V)} {es : List (List Key × D)}, RpKs K F kvs es → (getTT es k = none ∧ valV kvs k = none) ∨ ∃ v d, getTT es k = some d ∧ valV kvs k = some v ∧ Rp K F v d
  | _, _, .nil => .inl ⟨rfl, rfl⟩
  | _, _, .cons (k := k') (v := v) (d := d) h r => by
    by_cases e : k' = k
    · refine .inr ⟨v, d, ?_, valV_pos e, h⟩
      simp [getTT, List.find?_cons, e]
    · have e1 : ∀ es, getTT ((k', d) :: es) k = getTT es k := fun es => by simp [getTT, List.find?_cons, e]
      rw [e1, valV_neg (p := (k', v)) e]
      exact getTT_rp k r
def dttE : Cl → Option (List (List Key × D))
  | .dtt es => some es
  | .dlt es => some es
  | _ => none
section
variable {ι : Type} {G : Gd} {X : ι → Cx} {W : WX} {P : List Nat} {e ie tg : Expr} {pos : Pos}
def fDctT0 : Fn Cl := fun _ ρ => some (.ok (.dtt []) ρ)
theorem xe_dctT0 : XE G X W (.Dict [] [] pos) fDctT0 := ⟨_, fun _ => pe_dnewT, fun n ρ r e F H σ T Q hR hP => by
  cases e
  intro p hp
  exact hP F _ _ (Same.refl _) (.mk' (hR.hr.newO hp (.dtt upd_same (by
    cases q : F p with
    | none => rfl
    | some o => rw [hR.sub _ _ q] at hp; cases hp) .nil)) hR.ok)⟩
theorem dttE_cr {F H : Hp} {c : Cl} {v : V} {A : List Addr} {es : List (List Key × D)} (h : G.CR F H c v A) (s : Same F H) (e : dttE c = some es) : ∃ a kvs, v = .ref a ∧ Rd H a (.dT kvs) ∧ RpKs G.K F kvs es := by
  cases h with
  | dtt h1 h2 r => cases e; exact ⟨_, _, rfl, .inl h1, r⟩
  | dlt h1 r => cases e; exact ⟨_, _, rfl, .inr ⟨_, s _ _ h1⟩, r⟩
  | _ => cases e
/-- d[k] -/
def gIxT : List Cl → Option Cl
  | [c, .fz kd] => match dttE c, keyTD kd with
    | some es, some p => (getTT es (kT p)).map .fz
    | _, _ => none
  | _ => none
theorem prm_ixT (hK : NoT G.K) : Prm G (l2 rIxK) gIxT := fun F H L cs vs c Q hr hc e hQ => by
  unfold gIxT at e
  split at e
  · obtain ⟨v1, v2, A1, A2, rfl, h1, h2⟩ := crs2 hc
    split at e
    · rename_i es p q1 q2
      obtain ⟨a, kvs, rfl, hd, r⟩ := dttE_cr h1 hr.sub q1
      obtain ⟨b, rfl, hb⟩ := keyTD_rp hK (h2.rpF rfl) q2
      rcases getTT_rp (kT p) r with ⟨z, _⟩ | ⟨v, d, g1, g2, rd⟩
      · rw [z] at e; cases e
      · rw [g1] at e
        cases e
        exact ⟨a, v, rfl, .inr ⟨kvs, kT p, b, hd, rfl, hr.sub _ _ hb, g2.symm⟩, hQ F H _ (Same.refl _) (hr.push rd)⟩
    · cases e
  · cases e
theorem xe_ixT {a b : Expr} {fa fb : Fn Bv} (hK : NoT G.K) (hu : ∀ j, (X j).A.units + 1 < cLine) (ha : XB G X W a fa) (hb : XB G X W b fb) (hs : NoSl b) : XE G X W (.Subscript a b pos) (f2 fa fb gIxT) := by
  obtain ⟨ta, h1, h2⟩ := ha
  obtain ⟨tb, h3, h4⟩ := hb
  exact ⟨_, fun i => pe_dget (hu i) (h1 i) (h3 i) hs, snd_prm (r := l2 rIxK) (snd_cons h2 (snd_cons h4 snd_nil)) (prm_ixT hK)⟩
/-- k not in d -/
def gNinT : List Cl → Option Cl
  | [.fz kd, c] => match dttE c, keyTD kd with
    | some es, some p => some (.fz (.bool (!(getTT es (kT p)).isSome)))
    | _, _ => none
  | _ => none
def rNinT : R2 := fun y x H Q => ∃ a o, x = .ref a ∧ DGet H a y o ∧ Q (.bl (!o.isSome)) H
theorem prm_ninT (hK : NoT G.K) : Prm G (l2 rNinT) gNinT := fun F H L cs vs c Q hr hc e hQ => by
  unfold gNinT at e
  split at e
  · obtain ⟨v1, v2, A1, A2, rfl, h1, h2⟩ := crs2 hc
    split at e
    · rename_i es p q1 q2
      cases e
      obtain ⟨a, kvs, rfl, hd, r⟩ := dttE_cr h2 hr.sub q1
      obtain ⟨b, rfl, hb⟩ := keyTD_rp hK (h1.rpF rfl) q2
      rcases getTT_rp (kT p) r with ⟨g1, g2⟩ | ⟨v, d, g1, g2, rd⟩
      · rw [g1] at hQ
        exact ⟨a, none, rfl, .inr ⟨kvs, kT p, b, hd, rfl, hr.sub _ _ hb, g2.symm⟩, hQ F H _ (Same.refl _) (hr.push (.bl true))⟩
      · rw [g1] at hQ
        exact ⟨a, some v, rfl, .inr ⟨kvs, kT p, b, hd, rfl, hr.sub _ _ hb, g2.symm⟩, hQ F H _ (Same.refl _) (hr.push (.bl false))⟩
    · cases e
  · cases e
theorem xe_ninT {a b : Expr} {fa fb : Fn Bv} (hK : NoT G.K) (hu : ∀ j, (X j).A.units + 1 < cLine) (ha : XB G X W a fa) (hb : XB G X W b fb) (hm : behindInMarks .NotIn b = false) : XE G X W (.Compare a [.NotIn] [b] pos) (f2 fa fb gNinT) := by
  obtain ⟨ta, h1, h2⟩ := ha
  obtain ⟨tb, h3, h4⟩ := hb
  exact ⟨_, fun i => pe_cmp (pc_dnotin (hu i) (h1 i) (h3 i)) hm, snd_prm (r := l2 rNinT) (snd_cons h2 (snd_cons h4 snd_nil)) (prm_ninT hK)⟩
theorem xt_ninT {a b : Expr} {fa fb : Fn Bv} (hK : NoT G.K) (hu : ∀ j, (X j).A.units + 1 < cLine) (ha : XB G X W a fa) (hb : XB G X W b fb) (hm : behindInMarks .NotIn b = false) : XT G X W (.Compare a [.NotIn] [b] pos) (fTst (f2 fa fb gNinT)) := by
  obtain ⟨ta, h1, h2⟩ := ha
  obtain ⟨tb, h3, h4⟩ := hb
  exact ⟨_, fun i => pt_cmp (pc_dnotin (hu i) (h1 i) (h3 i)) hm, snd_tB (snd_prm (r := l2 rNinT) (snd_cons h2 (snd_cons h4 snd_nil)) (prm_ninT hK))⟩
/-- d[k] = e -/
def setIxT (ρ : En) (k : Nat) (j d : D) : Option En := match (ρ[k]?).join with
  | some (.dtt es) => match keyTD j with
    | some p => if Nat.ble es.length 1000000 = true then some (ρ.set k (some (.dtt (putD es (kT p) d)))) else none
    | none => none
  | _ => none
theorem setIxT_ok {F H : Hp} {ρ ρ' : En} {σ : L2.St} {T : List (Cl × V)} {k : Nat} {j d : D} {vj vd o : V} (hK : NoT G.K) (e : setIxT ρ k j d = some ρ') (hR : G.R F H ρ σ T) (rj : Rp G.K F vj j) (rd : Rp G.K F vd d) (ho : σ[k]? = some (some o)) {Q : Hp → Prop} (hQ : ∀ H', G.R F H' ρ' σ T → Q H') : rSetD o vj vd H Q := by
  unfold setIxT at e
  split at e
  · rename_i es q
    split at e
    · rename_i p qk
      split at e
      · rename_i hl
        cases e
        have hl := Nat.le_of_ble_eq_true hl
        obtain ⟨w, h1, R'⟩ := R.take hR (join_some q)
        rw [ho] at h1
        cases h1
        obtain ⟨b, rfl, hb⟩ := keyTD_rp hK rj qk
        obtain ⟨A, cr⟩ := R'.cr
        cases cr with
        | @dtt a kvs _ h1 h2 r =>
          refine ⟨_, _, rfl, DPut.t h1 (hR.sub _ _ hb) (by rw [r.len, sizeLine_eq]; omega), hQ _ ?_⟩
          have R2 : G.R F (upd H a (.dT (putK kvs (kT p) vd))) (ρ.set k none) σ ((.dtt (putD es (kT p) d), .ref a) :: T) :=
            .mk' (R'.hr'.mut (fun A h => by cases h; rfl) (.dtt upd_same h2 (putD_rp r (kT p) rd))) R'.ok
          have hk : k < ρ.length := (List.getElem?_eq_some_iff.mp (join_some q)).1
          have R3 := R.put R2 (c := .dtt (putD es (kT p) d)) (i := k) (by rw [List.getElem?_set_self hk]) ho
          rw [List.set_set] at R3
          exact R3
      · cases e
    · cases e
  · cases e
def sSetIxT (k : Nat) (fe fi : Fn Bv) : FS := fun n ρ => bS (fFz fe n ρ) fun c ρ1 => match c with
  | .fz d => if ((ρ1[k]?).join).isSome = true then bS (fFz fi n ρ1) fun c2 ρ2 => match c2 with
    | .fz j => match setIxT ρ2 k j d with
      | some ρ3 => some (.nx ρ3)
      | none => none
    | _ => none
  else none
  | _ => none
theorem xs_setIxT {k : Nat} {x : Str} {px ps : Pos} {fe fi : Fn Bv} (hK : NoT G.K) (hu : ∀ j, (X j).A.units + 1 < cLine) (hx : ∀ j, PE (X j) (.Name x px) (tVar k)) (hi : XB G X W ie fi) (he : XB G X W e fe)
    (hs : ∀ j, swapsWithSole [.Subscript (.Name x px) ie ps] e pos.line (X j).env = pure false) (hw : ∀ j, swappedStores [.Subscript (.Name x px) ie ps] e (X j).env = pure none) (h1 : ∀ j, (assignEach [.Subscript (.Name x px) ie ps] (X j).env).map (·.2) = [assign (.Subscript (.Name x px) ie ps) (X j).env])
    (ha : ∀ j v, assign (.Subscript (.Name x px) ie ps) (X j).env v = (do
      let ov ← holding [v] (eval (.Name x px) (X j).env)
      let iv ← holding [v, ov] (eval ie (X j).env)
      standAt ps
      holding [v, ov, iv] (setItem ov iv v)
      release [v, ov, iv] [])) : XS G X W P (.Assign [.Subscript (.Name x px) ie ps] e pos) (sSetIxT k fe fi) := by
  obtain ⟨ti, a1, a2⟩ := hi
  obtain ⟨te, b1, b2⟩ := he
  refine ⟨_, fun j => ps_asg (b1 j) (pg_sub (hx j) (a1 j) (set_dict (hu j)) (ha j)) (hs j) (hw j) (h1 j), fun n ρ o eq F H σ T D hR hP => ?_⟩
  unfold sSetIxT at eq
  cases q : fFz fe n ρ with
  | none => rw [q] at eq; cases eq
  | some r1 =>
    rw [q] at eq
    refine snd_fz b2 n ρ r1 q F H σ T _ hR ?_
    cases r1 with
    | ex x ρ' => cases eq; exact hP.px
    | ok c ρ1 =>
      rw [bS_ok] at eq
      intro F1 H1 v s1 R1
      cases c with
      | fz d =>
        dsimp only at eq
        split at eq
        · rename_i hk
          obtain ⟨ov, ho⟩ := slot_of R1 hk
          refine ⟨ov, ho, ?_⟩
          cases q2 : fFz fi n ρ1 with
          | none => rw [q2] at eq; cases eq
          | some r2 =>
            rw [q2] at eq
            refine snd_fz a2 n ρ1 r2 q2 F1 H1 σ _ _ R1 ?_
            cases r2 with
            | ex x ρ' =>
              cases eq
              exact fun F' H' cls d s r xr => hP F' H' σ cls d (s1.trans s) r.tail (Kp.refl _) xr
            | ok c2 ρ2 =>
              rw [bS_ok] at eq
              intro F2 H2 v2 s2 R2
              cases c2 with
              | fz dj =>
                dsimp only at eq
                cases q3 : setIxT ρ2 k dj d with
                | none => rw [q3] at eq; cases eq
                | some ρ3 =>
                  rw [q3] at eq
                  cases eq
                  refine setIxT_ok hK q3 R2.tail.tail R2.rp R2.tail.rp ho fun H' R' => hP F2 H' σ (s1.trans s2) R' (Kp.refl _)
              | _ => cases eq
        · cases eq
      | _ => cases eq
end
/-! ### for k in d -/
theorem CR.nt {K : PySem.W.Frag} {cl : Str → Addr → Prop} {F H : Hp} {c : Cl} {v : V} {A : List Addr} (h : CR K cl F H c v A) : ∀ a ∈ A, ∀ xs, H a ≠ some (.tup xs) := by
  intro a ha xs z
  cases h with
  | fz r => cases ha
  | lst h1 h2 r => rw [List.mem_singleton.mp ha, h1] at z; cases z
  | dct h1 h2 r => rw [List.mem_singleton.mp ha, h1] at z; cases z
  | dtt h1 h2 r => rw [List.mem_singleton.mp ha, h1] at z; cases z
  | dlk h1 r => cases ha
  | dlt h1 r => cases ha
  | bx h1 h2 r h3 h4 rk =>
    rcases List.mem_cons.mp ha with y | y
    · rw [y, h1] at z; cases z
    · rw [List.mem_singleton.mp y, h3] at z; cases z
  | ins hc h1 h2 h3 r => rw [List.mem_singleton.mp ha, h1] at z; cases z
  | exn _ _ _ => cases ha
theorem HL.nt {K : PySem.W.Frag} {cl : Str → Addr → Prop} {F H : Hp} : ∀ {L : List (Cl × V)} {A : List Addr}, HL K cl F H L A → ∀ a ∈ A, ∀ xs, H a ≠ some (.tup xs)
  | _, _, .nil, _, h => by cases h
  | _, _, .cons h r, a, ha => (List.mem_append.mp ha).elim (h.nt a) (r.nt a)
/-- a tuple that is seen is frozen -/
theorem HR.adopt {K : PySem.W.Frag} {cl : Str → Addr → Prop} {F H : Hp} {L : List (Cl × V)} {q : Addr} {xs : List V} (h : HR K cl F H L) (e : H q = some (.tup xs)) : ∃ F', Same F F' ∧ F' q = some (.tup xs) ∧ HR K cl F' H L := by
  cases f : F q with
  | some u =>
    have := h.sub _ _ f
    rw [e] at this
    cases this
    exact ⟨F, Same.refl _, f, h⟩
  | none =>
    obtain ⟨s, A, n, r⟩ := h
    have sm : Same F (upd F q (.tup xs)) := fun b u z => by rw [upd_ne (ne_of_none z f)]; exact z
    refine ⟨upd F q (.tup xs), sm, upd_same, fun b u z => ?_, A, n, r.mono sm fun a ha => ⟨?_, rfl⟩⟩
    · by_cases hb : b = q
      · subst hb; rw [upd_same] at z; rw [e]; exact z
      · rw [upd_ne hb] at z; exact s _ _ z
    · have ne : a ≠ q := fun z => r.nt a ha xs (z ▸ e)
      rw [upd_ne ne]
      exact (r.fr a ha).1
def keysT (es : List (List Key × D)) : List D := es.map fun p => .tuple (p.1.map kD)
theorem rp_kVs {K : PySem.W.Frag} {F : Hp} : ∀ ks : List Key, RpA K F (ks.map kV) (ks.map kD)
  | [] => .nil
  | k :: ks => .cons (rp_kV k) (rp_kVs ks)
theorem keysT_at {K : PySem.W.Frag} {F : Hp} : ∀ {kvs : List (List Key × V)} {es : List (List Key × D)}, RpKs K F kvs es → ∀ (i : Nat) (d : D), (keysT es)[i]? = some d → ∀ k v, kvs[i]? = some (k, v) → d = .tuple (k.map kD)
  | _, _, .cons (k := k') h r, 0, d, e, k, v, e2 => by
    cases e
    cases e2
    rfl
  | _, _, .cons h r, i + 1, d, e, k, v, e2 => keysT_at r i d e k v e2
section
variable {G : Gd} {F : Hp} {a : Addr} {o : Obj} {kvs : List (List Key × V)} {es : List (List Key × D)}
theorem itok_keysT (h : F a = some (.frz o (.dT kvs))) (r : RpKs G.K F kvs es) : ItOk G (Itkt a o kvs) F (keysT es) where
  go := fun F' H' L i s hr hi => ⟨hr.sub _ _ (s _ _ h), by rw [r.len]; simpa [keysT] using hi⟩
  yld := fun F' H' L i x H'' d s hr hd hy => by
    obtain ⟨rfl, k, v, q, hk, rfl, hq⟩ := hy
    obtain ⟨F2, s2, f2, hr2⟩ := HR.adopt hr hq
    have e := keysT_at r i d hd k v hk
    subst e
    exact ⟨F2, s2, hr2, .tup (.inl f2) (rp_kVs k)⟩
  stop := fun F' H' L i s hr hi => ⟨hr.sub _ _ (s _ _ h), by rw [r.len]; simpa [keysT] using hi⟩
end
section
variable {ι : Type} {G : Gd} {X : ι → Cx} {W : WX} {P : List Nat} {e ie tg : Expr} {pos : Pos}
def fIDctT (k : Nat) : Fn (List D) := fun n ρ => match (ρ[k]?).join with
  | some (.dtt es) => some (.ok (keysT es) (ρ.set k (some (.dlt es))))
  | some (.dlt es) => some (.ok (keysT es) ρ)
  | _ => none
theorem snd_idctT {k : Nat} : SndI G W (iKeysLT (tVar k)) (fIDctT k) := fun n ρ r eq F H σ T Q hR hP => by
  unfold fIDctT at eq
  split at eq
  · rename_i es q
    cases eq
    obtain ⟨v, hv, R1⟩ := R.take hR (join_some q)
    refine ⟨v, hv, ?_⟩
    obtain ⟨A, cr⟩ := R1.cr
    cases cr with
    | @dtt a kvs _ h1 h2 r =>
      refine ⟨a, kvs, rfl, .inr ⟨h1, fun o => ?_⟩⟩
      obtain ⟨F', s, hF, h3⟩ := HR.lock (o := .frz o (.dT kvs)) (c' := .dlt es) R1.hr' (fun A h => by cases h; rfl) (fun F' s hF => .dlt hF (r.mono s))
      have hk : k < ρ.length := (List.getElem?_eq_some_iff.mp (join_some q)).1
      have R2 : G.R F' (upd H a (.frz o (.dT kvs))) (ρ.set k none) σ ((.dlt es, .ref a) :: T) := .mk' h3 R1.ok
      have R3 := R.put R2 (c := .dlt es) (i := k) (by rw [List.getElem?_set_self hk]) hv
      rw [List.set_set] at R3
      exact hP F' _ _ s R3 (itok_keysT hF (r.mono s))
  · rename_i es q
    cases eq
    obtain ⟨v, hv, A, cr⟩ := hR.at (join_some q)
    refine ⟨v, hv, ?_⟩
    cases cr with
    | @dlt a o kvs _ h1 r => exact ⟨a, kvs, rfl, .inl ⟨o, hR.sub _ _ h1, hP F H _ (Same.refl _) hR (itok_keysT h1 r)⟩⟩
  · cases eq
theorem xi_dctT {k : Nat} (h : ∀ j, PE (X j) e (tVar k)) : XI G X W tg e (fIDctT k) := ⟨_, fun j => pi_keysLT (h j), snd_idctT⟩
end
end L3

set_option maxHeartbeats 4000000
namespace L2
open PySem PySem.Spec PyProof.Rows
section
variable {P : Program} {w : World} {A : Around} {E : Value → Shared → Prop} {s : Shared}
/-- a set just made, before anything is put in -/
abbrev setO0 (w : World) : Obj := { cls := .type "set", dict := none, data := .set #[] 0 (.fresh 0 0 (!w.params.followText "set-order")) }
theorem vals_at {us : Array Value} {ns : List Int} (hz : us.size = ns.length) (hit : IntsAre us.toList ns) (i : Nat) (v : Value) (hv : us[i]? = some v) : ∃ k t, ns[i]? = some k ∧ v = .int k t := by
  have hi : i < ns.length := hz ▸ (Array.getElem?_eq_some_iff.mp hv).1
  obtain ⟨t, e⟩ := IntsAre.int_at hit i v ((Array.getElem?_toList ..).trans hv)
  exact ⟨ns[i], t, List.getElem?_eq_getElem hi, by rw [e, List.getD_eq_getElem?_getD, List.getElem?_eq_getElem hi]; rfl⟩
/-- the new set takes the ints of a list -/
theorem set_fill {l : Addr} {us : Array Value} {ns : List Int} {R : Result → Shared → Prop} (hh : A.in1.handled = none) (hl : s.heap.IsList l us) (hz : us.size = ns.length) (hit : IntsAre us.toList ns) (hb : ns.length + 1 < scanBound)
    (hR : ∀ (h' : Heap) (tk c : Nat), SetR w h' s.heap.objs.size (fun j => decide (j ∈ ns)) c → c ≤ ns.length → (∀ b o, s.heap.get? b = some o → h'.get? b = some o) → R (.ok (.ret .none)) { s with heap := h', toks := tk }) :
    codeAny (model P w) A (.builtin "set.update.loop" ⟨[.ref s.heap.objs.size, .ref (s.heap.push (setO0 w)).objs.size], []⟩) R { s with heap := (s.heap.push (setO0 w)).push { cls := .type "list_iterator", data := .fields #[.ref l, .int 0 0] } } := by
  obtain ⟨ol, hol, hcl, nl, hdl⟩ := id hl
  have lt := Heap.lt_size hol
  have z1 : (s.heap.push (setO0 w)).objs.size = s.heap.objs.size + 1 := Heap.size_push ..
  have ne1 : l ≠ (s.heap.push (setO0 w)).objs.size := fun e => absurd (e.trans z1) (Nat.ne_of_lt (Nat.lt_succ_of_lt lt))
  have hget : ((s.heap.push (setO0 w)).push { cls := .type "list_iterator", data := .fields #[.ref l, .int 0 0] }).get? s.heap.objs.size = some (setO0 w) := Heap.get?_push_of_some _ (Heap.get?_push_size _ rfl)
  have out : s.heap.objs.size ∉ [(s.heap.push (setO0 w)).objs.size, l] := fun z => by
    rcases List.mem_cons.mp z with z | z
    · exact absurd (z.trans z1) (Nat.ne_of_lt (Nat.lt_succ_self _))
    · exact absurd (List.mem_singleton.mp z) (Nat.ne_of_gt lt)
  refine set_update_ints ((Walks.list hh _ l ne1 us).toS) s.heap.objs.size out ns hz hb (vals_at hz hit) us.size 0 _ (Nat.sub_zero _) (Nat.zero_le _) ⟨⟨_, Heap.get?_push_size _ rfl, rfl, rfl⟩, (hl.at fun o e => Heap.get?_push_of_some _ (Heap.get?_push_of_some _ e))⟩ ⟨0, Nat.le_refl 0, setR_new_at hget⟩ fun s' c hm hc hS => ?_
  obtain ⟨h', g2, d', tk', os'⟩ := s'
  obtain rfl : g2 = s.gens := hm.gens
  obtain rfl : d' = s.drawn := hm.drawn
  obtain rfl : os' = s.os := hm.os
  refine hR h' tk' c hS (hz ▸ hc) fun b o e => hm.heap b o (fun z => ?_) (Heap.get?_push_of_some _ (Heap.get?_push_of_some _ e))
  have := Heap.lt_size e
  rcases List.mem_cons.mp z with z | z
  · exact absurd z (Nat.ne_of_lt this)
  · exact absurd ((List.mem_singleton.mp z).trans z1) (Nat.ne_of_lt (Nat.lt_succ_of_lt this))
/-- set(xs) of a list of ints -/
theorem set_of_list {l : Addr} {us : Array Value} {ns : List Int} {Q : Value → Shared → Prop} (hh : A.handled = none) (hl : s.heap.IsList l us) (hit : IntsAre us.toList ns) (hb : ns.length + 1 < scanBound)
    (h : ∀ (h' : Heap) (tk c : Nat), SetR w h' s.heap.objs.size (fun j => decide (j ∈ ns)) c → c ≤ ns.length → (∀ b o, s.heap.get? b = some o → h'.get? b = some o) → Q (.ref s.heap.objs.size) { s with heap := h', toks := tk }) :
    wpAny (model P w) A (call (.type "set") [.ref l]) Q E s := by
  have hz : us.size = ns.length := (Array.length_toList ..).symm.trans (IntsAre.length hit)
  have facts := And.intro F.called_set.made F.called_set.sub
  obtain ⟨made, sub⟩ := facts
  obtain ⟨c, tl, mro⟩ := F.called_set.mro
  have no := F.called_set.notType
  have can := F.called_set.canCreate
  have ty := F.typeCall_set_1 (.ref l)
  refine wpAny_call (codeAny_of_tree (show wpAny _ _ (callAny (.type "set") _) _ _ _ from wpAny_pure ⟨Code.quiet_builtin _ (by decide +kernel), codeAny_builtin F.entry_type_call ?_⟩))
  rw [Around.under_plain (weight_type_call_type "set" [.ref l] []) rfl]
  repeat (any_goals (first | assumption | wp_step))
  refine codeAny_mono (code_set_led1 (.ref l) (E := E) (Q₁ := fun u t => u = .ref s.heap.objs.size ∧ t = { s with heap := s.heap.push (setO0 w) }) ⟨rfl, rfl⟩) fun r t ht => ?_
  match r, ht with
  | .error _, ht => exact ht
  | .ok (.ret u), ht =>
    obtain ⟨rfl, rfl⟩ := ht
    have here : (s.heap.push (setO0 w)).get? s.heap.objs.size = some (setO0 w) := Heap.get?_push_size _ rfl
    have isSet : Shared.TypeIs { s with heap := s.heap.push (setO0 w) } (.ref s.heap.objs.size) "set" := ⟨_, here, rfl⟩
    have look := F.called_set.init.lookup
    have bind := F.called_set.init.bind (.ref s.heap.objs.size)
    repeat (any_goals (first | assumption | wp_step))
    refine codeAny_mono (codeAny_call_builtin (R := wants (fun r t => r = .none ∧ ∃ h' tk c, t = { s with heap := h', toks := tk } ∧ SetR w h' s.heap.objs.size (fun j => decide (j ∈ ns)) c ∧ c ≤ ns.length ∧ ∀ b o, s.heap.get? b = some o → h'.get? b = some o) E) F.called_set.init.plain F.entry_set_init (check_set_init_1 isSet ?_)) fun r t ht => ?_
    · have hlc := hl
      obtain ⟨⟨cls, dct, dat, sls⟩, hol, hcl, nl, hdl⟩ := hl
      dsimp only at hcl hdl
      subst hcl hdl
      have onto : (s.heap.push (setO0 w)).get? l = some { cls := .type "list", dict := dct, data := .seq us nl, slots := sls } := Heap.get?_push_of_some _ hol
      have notSet := F.sub_list_set
      have notFrozen := F.sub_list_frozenset
      have notDict : (Value.type "list" == Value.type "dict") = false := by decide
      unfold Builtin.«set.__init__» noKeywords Builtin.Frozenset.updateFrom
      generalize hPI : pyIter = PI
      wp_walk
      subst hPI
      refine wpAny_pyIter_list (items := us) ⟨_, onto, rfl, nl, rfl⟩ (wpAny_bind (wpAny_runValue (set_fill (by simp [hh]) hlc hz hit hb fun h' tk c hS hc hk => ?_)))
      show wpAny _ _ _ _ _ _
      refine wpAny_pure ?_
      show wpAny _ _ (ret Value.none) _ _ _
      exact wpAny_pure ⟨rfl, h', tk, c, rfl, hS, hc, hk⟩
    · match r, ht with
      | .error _, ht => exact ht
      | .ok (.ret u), ht =>
        obtain ⟨rfl, h', tk, c, rfl, hS, hc, hk⟩ := ht
        repeat (any_goals (first | assumption | wp_step))
        exact h _ _ _ hS hc hk
      | .ok .next, ht => exact ht.elim
      | .ok .brk, ht => exact ht.elim
      | .ok .cont, ht => exact ht.elim
  | .ok .next, ht => exact ht.elim
  | .ok .brk, ht => exact ht.elim
  | .ok .cont, ht => exact ht.elim
end
section
variable {X : Cx}
/-- set(xs), xs a list of ints -/
def rSetOfL (K : PySem.W.Frag) (w : World) : List V → Hp → VK → Prop := fun vs H Q => ∃ (a : Addr) (ns : List Int), vs = [V.ref a] ∧ SqL K H a (ns.map V.int) ∧ ns.length < 64 ∧ ∀ p c, H p = none → c ≤ ns.length → Q (.ref p) (upd H p (SetO w p (fun j => decide (j ∈ ns)) c))
theorem cr_setOfL (hc : X.calm = true) : CallR X (.type "set") (rSetOfL X.K X.w) := by
  intro pins s σ H vs us Q I r h
  obtain ⟨a, ns, rfl, hs, h64, q⟩ := h
  obtain ⟨its, rv, hl, _⟩ := I.list hs
  rw [Vals.ref1 r]
  refine set_of_list (I.ok.hd hc) hl.isList rv.ints (by unfold scanBound; omega) fun h' tk c hS hcn hk => ?_
  exact ⟨.ref _, upd H s.heap.objs.size (SetO X.w s.heap.objs.size (fun j => decide (j ∈ ns)) c), I.laid (t' := tk) hk (Nat.le_refl _) (setO_new hS), rfl, q _ c (I.hok.fresh (Nat.le_refl _)) hcn⟩
end
end L2

set_option maxHeartbeats 1000000
namespace L3
open PySem PySem.Spec L2 PyProof.Rows
/-! ### sorted(set(xs)) -/
def insU (x : Int) : List Int → List Int
  | [] => [x]
  | y :: ys => if x < y then x :: y :: ys else if x = y then y :: ys else y :: insU x ys
def sortU : List Int → List Int
  | [] => []
  | x :: xs => insU x (sortU xs)
theorem insU_mem (x k : Int) : ∀ ys : List Int, k ∈ insU x ys ↔ k = x ∨ k ∈ ys
  | [] => by unfold insU; simp
  | y :: ys => by
    unfold insU
    split
    · simp
    · split
      · rename_i e
        subst e
        simp
      · rw [List.mem_cons, insU_mem x k ys, List.mem_cons]
        constructor
        · rintro (h | h | h)
          · exact .inr (.inl h)
          · exact .inl h
          · exact .inr (.inr h)
        · rintro (h | h | h)
          · exact .inr (.inl h)
          · exact .inl h
          · exact .inr (.inr h)
theorem sortU_mem (k : Int) : ∀ xs : List Int, k ∈ sortU xs ↔ k ∈ xs
  | [] => Iff.rfl
  | x :: xs => by
    show k ∈ insU x (sortU xs) ↔ _
    rw [insU_mem, sortU_mem k xs, List.mem_cons]
theorem insU_pw (x : Int) : ∀ ys : List Int, ys.Pairwise (· < ·) → (insU x ys).Pairwise (· < ·)
  | [], _ => List.pairwise_singleton _ _
  | y :: ys, h => by
    obtain ⟨h1, h2⟩ := List.pairwise_cons.mp h
    unfold insU
    split
    · rename_i hx
      refine List.pairwise_cons.mpr ⟨fun z hz => ?_, h⟩
      rcases List.mem_cons.mp hz with e | hz
      · rw [e]; exact hx
      · exact Int.lt_trans hx (h1 z hz)
    · split
      · exact h
      · refine List.pairwise_cons.mpr ⟨fun z hz => ?_, insU_pw x ys h2⟩
        rcases (insU_mem x z ys).mp hz with e | hz
        · omega
        · exact h1 z hz
theorem sortU_pw : ∀ xs : List Int, (sortU xs).Pairwise (· < ·)
  | [] => .nil
  | x :: xs => insU_pw x _ (sortU_pw xs)
theorem inc_uniq {xs ys : List Int} (hx : xs.Pairwise (· < ·)) (hy : ys.Pairwise (· < ·)) (h : ∀ k, k ∈ xs ↔ k ∈ ys) : xs = ys := by
  have nd : ∀ {l : List Int}, l.Pairwise (· < ·) → l.Nodup := fun h => h.imp fun q => by omega
  have le : ∀ {l : List Int}, l.Pairwise (· < ·) → l.Pairwise (· ≤ ·) := fun h => h.imp fun q => by omega
  have p : xs.Perm ys := (List.perm_ext_iff_of_nodup (nd hx) (nd hy)).mpr h
  have e1 := sort_is p (le hx)
  have e2 := sort_is (List.Perm.refl ys) (le hy)
  rw [e1, ← e2]
/-- an object that nobody of ours holds -/
theorem HR.extra {K : PySem.W.Frag} {cl : Str → Addr → Prop} {F H : Hp} {L : List (Cl × V)} {p : Addr} {o : HO} (h : HR K cl F H L) (hp : H p = none) : HR K cl F (upd H p o) L := by
  obtain ⟨s, A, n, q⟩ := h
  refine ⟨fun b u e => ?_, A, n, q.mono (Same.refl _) fun a ha => ⟨(q.fr a ha).1, ?_⟩⟩
  · rw [upd_ne (ne_of_none (s _ _ e) hp)]
    exact s _ _ e
  · obtain ⟨_, u, h2⟩ := q.fr a ha
    exact upd_ne (ne_of_none h2 hp)
section
variable {ι : Type} {G : Gd} {X : ι → Cx} {W : WX} {e : Expr} {w0 : World} {p p' pos pos' : Pos}
def gSSet : List Cl → Option Cl
  | [c] => match c.data with
    | some (.list ds) => match intsD ds with
      | some ns => if Nat.blt ns.length 64 = true then some (.lst ((sortU ns).map PyData.int)) else none
      | none => none
    | _ => none
  | _ => none
def rSSet (K : PySem.W.Frag) (w : World) : List V → Hp → VK → Prop := fun vs H Q => rSetOfL K w vs H fun v H1 => rSortedSet w [v] H1 Q
theorem prm_sset : Prm G (rSSet G.K w0) gSSet := fun F H L cs vs c Q hr hc e hQ => by
  unfold gSSet at e
  split at e
  · obtain ⟨v1, A1, rfl, h1⟩ := crs1 hc
    split at e
    · rename_i ds q
      cases q2 : intsD ds with
      | none => rw [q2] at e; cases e
      | some ns =>
        rw [q2] at e
        dsimp only at e
        split at e
        case isFalse => cases e
        rename_i hl
        have hl : ns.length < 64 := Nat.le_of_ble_eq_true hl
        cases e
        obtain ⟨a, ws, rfl, q1, r1⟩ := h1.seqL hr.sub q
        cases intsD_ok q2
        cases r1.ints
        refine ⟨a, ns, rfl, q1, hl, fun s c hs hcn => ⟨s, _, c, rfl, upd_same, by omega, fun ns' p hp hm hlen hn => ?_⟩⟩
        have e : ns' = sortU ns := inc_uniq hp (sortU_pw ns) fun k => by rw [hm, sortU_mem, decide_eq_true_iff]
        rw [e]
        exact hQ F _ _ (Same.refl _) (HR.lstN (HR.extra hr hs) hn (RpA.of_ints _))
    · cases e
  · cases e
theorem xe_sset {f : Fn (List Bv)} (hK : ∀ i, (X i).K = G.K) (hw : ∀ i, (X i).w = w0) (hc : ∀ i, (X i).calm = true) (hg : ∀ i, Gl (X i) "sorted") (hm : ∀ i, (X i).mg "sorted" = none) (hg2 : ∀ i, Gl (X i) "set") (hm2 : ∀ i, (X i).mg "set" = none) (ha : XBs G X W [e] f)
    (na : ∀ i, starEach [e] (X i).env = (false, eval e (X i).env) :: starEach [] (X i).env)
    (nc : ∀ i, starEach [.Call (.Name "set" p) [e] [] pos] (X i).env = (false, eval (.Call (.Name "set" p) [e] [] pos) (X i).env) :: starEach [] (X i).env) :
    XE G X W (.Call (.Name "sorted" p') [.Call (.Name "set" p) [e] [] pos] [] pos') (fPr f gSSet) := by
  obtain ⟨t, h1, h2⟩ := ha
  refine ⟨tCB (rSSet G.K w0) t, fun i => ?_, snd_prm h2 prm_sset⟩
  have s1 : PE (X i) (.Call (.Name "set" p) [e] [] pos) (tCB (rSetOfL G.K w0) t) := by
    have := pe_callTy (x := "set") (p := p) (pos := pos) (cr_setOfL (hc i)) (hg2 i) (hm2 i) (by decide +kernel) (h1 i) (by decide) (by decide) (na i) (by rfl)
    rw [hK i, hw i] at this
    exact this
  have s2 := pe_callB (x := "sorted") (p := p') (pos := pos') (cr_sortedSet (hc i)) (hg i) (hm i) (by decide +kernel) (pa_cons s1 pa_nil (nc i)) (by decide) (by decide) (nc i) (by rfl)
  rw [hw i] at s2
  exact s2
end
end L3

set_option maxHeartbeats 1000000
namespace L2
open PySem PySem.Spec PyProof.Rows
/-- o.m(..) of an instance of the class at C; what is let out may hang on the slots -/
def tMethE (C : Addr) (m : Str) (sp : Sp) (E : St → XK) (ta : TE) (t : TA) : TE := fun σ H Q => ta σ H fun x H1 => ∃ a dx fs, x = .ref a ∧ H1 a = some (.ins C dx fs) ∧ fs.lookup m = none ∧
  t σ H1 fun vs H2 => sp (x :: vs) H2 Q (E σ)
def tMakeE (C : Addr) (sp : Sp) (E : St → XK) (t : TA) : TE := fun σ H Q => t σ H fun vs H1 => ∀ x dx, H1 x = none → H1 dx = none → dx ≠ x →
  sp (.ref x :: vs) (upd (upd H1 dx (.own x)) x (.ins C dx [])) (fun v H2 => v = .non ∧ Q (.ref x) H2) (E σ)
section
variable {X : Cx} {CX : CXT} {k : Nat} {f C : Addr} {fd : FuncData} {ps : List Str} {sp : Sp} {E : St → XK} {x m : Str} {p pos apos : Pos} {e o : Expr} {es : List Expr} {ta : TE} {t : TA}
/-- the call o.m(es), one after the other -/
def methRun (env : Env) (o : Expr) (m : Str) (apos pos : Pos) (es : List Expr) (pl : Sem Bool) : Sem Value :=
  eval o env >>= fun v => standAt apos.atName >>= fun _ => holding [v] (getMethod v m pl) >>= fun b => callWith pos b.1 b.2 (backTo pos (starEach es env)) (backToKw pos (keywordEach [] env))
abbrev MethAt (env : Env) (o : Expr) (m : Str) (apos pos : Pos) (es : List Expr) (pl : Sem Bool) : Prop := eval (.Call (.Attribute o m apos) es [] pos) env = methRun env o m apos pos es pl
/-- it comes to the call of the class's def with the instance ahead -/
theorem meth_in {pl : Sem Bool} {pins : List (Addr × Obj)} {s : Shared} {σ : St} {H : Hp} {Q : Value → Shared → Prop} {R : V → Hp → Prop} (ho : PE X o ta) (c : Cls X.K C) (hm : Meth X.K C m f) (rd : MethAt X.env o m apos pos es pl) (I : Inv X pins σ H s)
    (h : ta σ H fun x H1 => ∃ a dx fs, x = .ref a ∧ H1 a = some (.ins C dx fs) ∧ fs.lookup m = none ∧ R x H1)
    (go : ∀ a H1 s1, Inv X pins σ H1 s1 → R (.ref a) H1 → wpAny (model X.prog X.w) X.A (callWith pos (.ref f) [.ref a] (backTo pos (starEach es X.env)) (backToKw pos (keywordEach [] X.env))) Q X.xe s1) :
    wpAny (model X.prog X.w) X.A (eval (.Call (.Attribute o m apos) es [] pos) X.env) Q X.xe s :=
  PySem.W.methodCall_KW (pl := pl) (thn (ho.run pins s σ H _ I h) fun u s1 z => by
    have ⟨x, H1, J, rel, a, dx, fs, ex, at_, no, r⟩ := z
    cases ex
    cases rel
    exact getmeth_ok J at_ c hm no (go a H1 s1 J r)) rd
theorem pe_methE {pl : Sem Bool} (he : PE X o ta) (c : Cls X.K C) (hm : Meth X.K C m f) (F : FnOk X.prog X.w X.K X.mg X.base CX k f fd ps sp) (hr : Room k X.A) (hb : Binds X.K fd ps []) (hx : ∀ σ, PassesAt CX X σ (E σ)) (ha : PA X (e :: es) t)
    (hst : starEach (e :: es) X.env = (false, eval e X.env) :: starEach es X.env) (hpl : (backTo pos (starEach es X.env)).any (·.1) = false) (ht : MethAt X.env o m apos pos (e :: es) pl) : PE X (.Call (.Attribute o m apos) (e :: es) [] pos) (tMethE C m sp E ta t) where
  run pins s σ H Q I h := meth_in (R := fun x H1 => t σ H1 fun vs H2 => sp (x :: vs) H2 Q (E σ)) he c hm ht I h fun a H1 s1 J q => PySem.W.callWith_K (first := [.ref a]) (h₀ := X.base) J.ok.mod.kin hm.kp (thn (ha.run pos pins s1 σ H1 _ J q) fun us s2 z => by
    have ⟨vs, H2, L, r, q⟩ := z
    exact ⟨L.kIn, run_fnS (us := .ref a :: us) (vs := .ref a :: vs) F hr hb (hx σ) L (.cons rfl r) q⟩) hst hpl
theorem pe_methE0 {pl : Sem Bool} (he : PE X o ta) (c : Cls X.K C) (hm : Meth X.K C m f) (F : FnOk X.prog X.w X.K X.mg X.base CX k f fd ps sp) (hr : Room k X.A) (hb : Binds X.K fd ps []) (hx : ∀ σ, PassesAt CX X σ (E σ)) (ht : MethAt X.env o m apos pos [] pl) :
    PE X (.Call (.Attribute o m apos) [] [] pos) (tMethE C m sp E ta tNil) where
  run pins s σ H Q I h := meth_in (R := fun x H1 => sp [x] H1 Q (E σ)) he c hm ht I h fun a H1 s1 J q => PySem.W.callWith_K0 (first := [.ref a]) J.kIn hm.kp (run_fnS (us := [.ref a]) (vs := [.ref a]) F hr hb (hx σ) J (.cons rfl .nil) q)
/-- C(..): the instance is laid, its __init__ runs as sp says and gives none -/
theorem run_makeE {pins : List (Addr × Obj)} {σ : St} {H : Hp} {s : Shared} {Q : VK} {us : List Value} {vs : List V} (M : Mk X.K C f) (F : FnOk X.prog X.w X.K X.mg X.base CX k f fd ps sp) (hr : Room (k + 1) X.A) (hb : Binds X.K fd ps [])
    (hx : PassesAt CX X σ (E σ)) (I : Inv X pins σ H s) (r : Vals vs us)
    (h : ∀ x dx, H x = none → H dx = none → dx ≠ x → sp (.ref x :: vs) (upd (upd H dx (.own x)) x (.ins C dx [])) (fun v H2 => v = .non ∧ Q (.ref x) H2) (E σ)) : wpAny (model X.prog X.w) X.A (call (.ref C) us) (EP X pins σ Q) X.xe s := by
  have J := I.made (C := C)
  have run := h _ _ (I.hok.fresh (Nat.le_succ _)) (I.hok.fresh (Nat.le_refl _)) (Nat.ne_of_lt (Nat.lt_succ_self _))
  have rs : Vals (V.ref (s.heap.objs.size + 1) :: vs) (Value.ref (s.heap.objs.size + 1) :: us) := .cons rfl r
  have n : (Value.ref (s.heap.objs.size + 1) :: us).length = ps.length := rs.length.symm.trans (F.len _ _ _ _ run)
  have bound := hb _ (Value.ref (s.heap.objs.size + 1) :: us) J.kIn ((congrArg List.length (List.append_nil _)).trans n)
  rw [List.append_nil] at bound
  refine wpAny_call (make_map I.kIn M.makes M.init (beq_iff_eq.mp M.fn) (codeAny_mono (F.run _ X.stack _ _ ⟨_, []⟩ _ _ _ (E σ) (hr.make C us []) (J.env0.make C us []) bound rs run) fun res s1 got => ?_))
  match res, got with
  | .error e, got => exact hx pins _ _ e s1 J got
  | .ok (.ret u), got =>
    have ⟨v, H', L, rv, ev, q⟩ := J.after got
    cases ev
    exact ⟨rv, V.ref (s.heap.objs.size + 1), H', L, rfl, q⟩
  | .ok .next, got => exact got.elim
  | .ok .brk, got => exact got.elim
  | .ok .cont, got => exact got.elim
theorem pe_makeE (M : Mk X.K C f) (F : FnOk X.prog X.w X.K X.mg X.base CX k f fd ps sp) (hr : Room (k + 1) X.A) (hg : Gl X x) (hm : X.mg x = some (.ref C)) (hb : Binds X.K fd ps []) (hx : ∀ σ, PassesAt CX X σ (E σ))
    (ha : PA X (e :: es) t) (hdb : (x == ("__debug__" : Str)) = false) (he : starEach (e :: es) X.env = (false, eval e X.env) :: starEach es X.env) (hpl : (backTo pos (starEach es X.env)).any (·.1) = false) :
    PE X (.Call (.Name x p) (e :: es) [] pos) (tMakeE C sp E t) where
  run pins s σ H Q I h := wpAny_Call_Name_kw (ld_glob I hg hm (PySem.W.callWith_K (h₀ := X.base) I.ok.mod.kin M.kp (thn (ha.run pos pins s σ H _ I h) fun us s1 z => by
    have ⟨vs, H1, J, r, q⟩ := z
    exact ⟨J.kIn, run_makeE M F hr hb (hx σ) J r q⟩) he hpl) hdb)
end
end L2
namespace L3
open PySem PySem.Spec L2
/-! ### instances -/
section
variable {ι : Type} {G : Gd} {X : ι → Cx} {W : WX} {P : List Nat} {e o : Expr} {es : List Expr} {pos apos p : Pos}
theorem bvs_len : ∀ {bs : List Bv} {vs : List V} {σ : L2.St}, bvVs σ bs vs → vs.length = bs.length := by
  intro bs
  induction bs with
  | nil => intro vs σ h; cases vs with
    | nil => rfl
    | cons _ _ => exact h.elim
  | cons b bs ih => intro vs σ h; cases vs with
    | nil => exact h.elim
    | cons v vs => exact congrArg (· + 1) (ih h.2)
theorem bvT_nil {b : Bv} {v : V} {T : List (Cl × V)} : ∀ x ∈ bvT b v [], x ∈ bvT b v T := fun x hx => by
  cases b with
  | pl i => cases hx
  | vl c => rw [List.mem_singleton.mp hx]; exact List.mem_cons_self
def fFld (c f : Str) (fo : Fn Bv) : Fn Cl := fun n ρ => bnd (fo n ρ) fun b ρ1 => match lk ρ1 b with
  | some (.ins c' es) => if c' = c then match es.lookup f with
    | some d => some (.ok (.fz d) ρ1)
    | none => none
    else none
  | _ => none
theorem xe_fld {c f : Str} {fo : Fn Bv} (hK : ∀ i, (X i).K = G.K) (hC : ∀ C, G.mg c = some (.ref C) → Cls G.K C ∧ NoAttr G.K C f) (ho : XB G X W o fo) (hb : ∀ i, attributeBase o f (X i).env (eval o (X i).env) = eval o (X i).env) : XE G X W (.Attribute o f pos) (fFld c f fo) := by
  obtain ⟨t, h1, h2⟩ := ho
  refine ⟨L2.tFld G.K t f, fun i => by have := L2.pe_fld (pos := pos) (h1 i) (hb i); rw [hK i] at this; exact this, fun n ρ r eq F H σ T Q hR hP => ?_⟩
  unfold fFld at eq
  cases q : fo n ρ with
  | none => rw [q] at eq; cases eq
  | some r1 =>
    rw [q] at eq
    refine h2 n ρ r1 q F H σ T _ hR ?_
    cases r1 with
    | ex x ρ' => cases eq; exact hP
    | ok b ρ1 =>
      rw [bnd_ok] at eq
      intro F1 H1 v s1 R1 v1
      split at eq
      · rename_i c' es q2
        split at eq
        · rename_i hc
          subst hc
          split at eq
          · rename_i d q3
            cases eq
            obtain ⟨A, cr⟩ := bv_cr R1 bvT_nil v1 q2
            cases cr with
            | ins k1 k2 k3 k4 k5 =>
              obtain ⟨w, l, rw'⟩ := lookup_ks k5 q3
              obtain ⟨m1, m2⟩ := hC _ k1
              exact ⟨_, _, _, _, w, rfl, k2, m1, m2, l, hP F1 H1 w s1 ((bvT_drop b _ R1).push rw')⟩
          · cases eq
        · cases eq
      · cases eq

theorem lookup_no {K : PySem.W.Frag} {F : Hp} {f : Str} : ∀ {fvs : List (Str × V)} {fs : List (Str × D)}, RpKs K F fvs fs → fs.lookup f = none → fvs.lookup f = none
  | _, _, .nil, _ => rfl
  | _, _, .cons (k := g) h r, e => by
    by_cases q : f = g
    · subst q; simp [List.lookup] at e
    · have z : (f == g) = false := by simpa using q
      simp only [List.lookup, z] at e ⊢
      exact lookup_no r e
/-- a call by its promise, the arguments as they came -/
def callM (m : Mr) (ρ : En) (bs : List Bv) : Option (Rz Cl) := match takeA ρ bs with
  | some (cs, ρ2) => match m cs with
    | some (.ok c outs) => some (.ok c (giveA ρ2 bs outs))
    | some (.ex x outs) => some (.ex x (giveA ρ2 bs outs))
    | none => none
  | none => none
theorem callM_ok {np : Nat} {m : Mr} {ρ : En} {bs : List Bv} {r : Rz Cl} {F1 H1 : Hp} {σ : L2.St} {T : List (Cl × V)} {vs : List V} {Q : VK} (e : callM m ρ bs = some r) (R1 : G.R F1 H1 ρ σ (bvTs bs vs T)) (v1 : bvVs σ bs vs) (lb : bs.length = np) (hP : PoE G W F1 σ T Q r) : spM G np m vs H1 Q (WE W σ) := by
  unfold callM at e
  cases q2 : takeA ρ bs with
  | none => rw [q2] at e; cases e
  | some p =>
    obtain ⟨cs, ρ2⟩ := p
    rw [q2] at e
    dsimp only at e
    obtain ⟨hh, ok2, lc⟩ := take_many R1 v1 q2
    have lb : vs.length = np := (bvs_len v1).trans lb
    cases q3 : m cs with
    | none => rw [q3] at e; cases e
    | some o =>
      rw [q3] at e
      refine ⟨lb, cs, F1, eL ρ2 σ ++ T, o, lc.trans lb, hh, q3, ?_⟩
      cases o with
      | ok c outs =>
        cases e
        exact fun F' H' v s' h' => hP F' H' v s' (give_many (T := (c, v) :: T) h'.rot ok2 v1)
      | ex x outs =>
        cases e
        exact fun F' H' cls d s' h' xr => hP F' H' cls d s' (give_many h' ok2 v1) xr
def fMeth (c mn : Str) (m : Mr) (fo : Fn Bv) (fa : Fn (List Bv)) : Fn Cl := fun n ρ => bnd (fo n ρ) fun b ρ1 => match lk ρ1 b with
  | some (.ins c' es) => if c' = c ∧ es.lookup mn = none then bnd (fa n ρ1) fun bs ρ2 => callM m ρ2 (b :: bs) else none
  | _ => none
theorem snd_meth {c mn : Str} {C : Addr} {np : Nat} {m : Mr} {ta : TE} {t : TA} {fo : Fn Bv} {fa : Fn (List Bv)} (gC : G.mg c = some (.ref C)) (ho : SndB G W ta fo) (ht : SndBs G W t fa) (hl : ∀ n ρ bs ρ', fa n ρ = some (.ok bs ρ') → bs.length = np) : SndE G W (tMethE C mn (spM G (np + 1) m) (WE W) ta t) (fMeth c mn m fo fa) := fun n ρ r eq F H σ T Q hR hP => by
  unfold fMeth at eq
  cases q : fo n ρ with
  | none => rw [q] at eq; cases eq
  | some r1 =>
    rw [q] at eq
    refine ho n ρ r1 q F H σ T _ hR ?_
    cases r1 with
    | ex x ρ' => cases eq; exact hP
    | ok b ρ1 =>
      rw [bnd_ok] at eq
      intro F1 H1 v s1 R1 v1
      split at eq
      · rename_i c' es q2
        split at eq
        · rename_i hc
          obtain ⟨hc, hl2⟩ := hc
          subst hc
          obtain ⟨A, cr⟩ := bv_cr R1 bvT_nil v1 q2
          cases cr with
          | ins k1 k2 k3 k4 k5 =>
            have eC := k1.symm.trans gC
            cases eC
            refine ⟨_, _, _, rfl, k2, lookup_no k5 hl2, ?_⟩
            cases q3 : fa n ρ1 with
            | none => rw [q3] at eq; cases eq
            | some r2 =>
              rw [q3] at eq
              refine ht n ρ1 r2 q3 F1 H1 σ _ _ R1 ?_
              cases r2 with
              | ex x ρ' => cases eq; exact PoX.dropT hP s1
              | ok bs ρ2 =>
                rw [bnd_ok] at eq
                intro F2 H2 vs s2 R2 v2
                exact callM_ok (bs := b :: bs) eq R2 ⟨v1, v2⟩ (congrArg (· + 1) (hl n ρ1 bs ρ2 q3)) (by
                  cases r with
                  | ok c0 ρ0 => exact fun F' H' v0 s' R' => hP F' H' v0 ((s1.trans s2).trans s') R'
                  | ex x0 ρ0 => exact hP.mono (s1.trans s2))
        · cases eq
      · cases eq
theorem xe_meth {c mn : Str} {C f : Addr} {fd : FuncData} {ps : List Str} {np k : Nat} {m : Mr} {fo : Fn Bv} {fa : Fn (List Bv)} {pl : ι → Sem Bool} (Fk : ∀ i, FnOk (X i).prog (X i).w (X i).K (X i).mg (X i).base (L2.CX (X i).prog (X i).w) k f fd ps (spM G (np + 1) m)) (hr : ∀ i, Room k (X i).A)
    (cC : ∀ i, Cls (X i).K C) (hm : ∀ i, Meth (X i).K C mn f) (gC : G.mg c = some (.ref C)) (hb : ∀ i, Binds (X i).K fd ps []) (tk : ∀ i, Takes (X i) W) (ho : XB G X W o fo) (ha : XBs G X W (e :: es) fa) (hl : ∀ n ρ bs ρ', fa n ρ = some (.ok bs ρ') → bs.length = np)
    (he : ∀ i, starEach (e :: es) (X i).env = (false, eval e (X i).env) :: starEach es (X i).env) (hpl : ∀ i, (backTo pos (starEach es (X i).env)).any (·.1) = false)
    (ht : ∀ i, MethAt (X i).env o mn apos pos (e :: es) (pl i)) :
    XE G X W (.Call (.Attribute o mn apos) (e :: es) [] pos) (fMeth c mn m fo fa) := by
  obtain ⟨ta, a1, a2⟩ := ho
  obtain ⟨t, h1, h2⟩ := ha
  exact ⟨_, fun i => pe_methE (E := WE W) (a1 i) (cC i) (hm i) (Fk i) (hr i) (hb i) (fun σ => passAt (tk i) σ) (h1 i) (he i) (hpl i) (ht i), snd_meth gC a2 h2 hl⟩
theorem xe_meth0 {c mn : Str} {C f : Addr} {fd : FuncData} {ps : List Str} {k : Nat} {m : Mr} {fo : Fn Bv} {pl : ι → Sem Bool} (Fk : ∀ i, FnOk (X i).prog (X i).w (X i).K (X i).mg (X i).base (L2.CX (X i).prog (X i).w) k f fd ps (spM G 1 m)) (hr : ∀ i, Room k (X i).A)
    (cC : ∀ i, Cls (X i).K C) (hm : ∀ i, Meth (X i).K C mn f) (gC : G.mg c = some (.ref C)) (hb : ∀ i, Binds (X i).K fd ps []) (tk : ∀ i, Takes (X i) W) (ho : XB G X W o fo)
    (ht : ∀ i, MethAt (X i).env o mn apos pos [] (pl i)) :
    XE G X W (.Call (.Attribute o mn apos) [] [] pos) (fMeth c mn m fo fNil) := by
  obtain ⟨ta, a1, a2⟩ := ho
  exact ⟨_, fun i => pe_methE0 (E := WE W) (a1 i) (cC i) (hm i) (Fk i) (hr i) (hb i) (fun σ => passAt (tk i) σ) (ht i), snd_meth gC a2 snd_nil fun n ρ bs ρ' h => len_nil h⟩

/-! ### a new instance -/
def fMake (c : Str) (m : Mr) (fa : Fn (List Bv)) : Fn Cl := fun n ρ => bnd (fa n ρ) fun bs ρ1 => match takeA ρ1 bs with
  | some (cs, ρ2) => match m (.ins c [] :: cs) with
    | some (.ok (.fz .none) (some c' :: outs)) => some (.ok c' (giveA ρ2 bs outs))
    | some (.ex x (_ :: outs)) => some (.ex x (giveA ρ2 bs outs))
    | _ => none
  | none => none
theorem HR.newIns {K : PySem.W.Frag} {cl : Str → Addr → Prop} {F H : Hp} {L : List (Cl × V)} {x dx C : Addr} {c : Str} (h : HR K cl F H L) (hx : H x = none) (hd : H dx = none) (ne : dx ≠ x) (hc : cl c C) :
    Same F (upd F dx (.own x)) ∧ HR K cl (upd F dx (.own x)) (upd (upd H dx (.own x)) x (.ins C dx [])) ((.ins c [], .ref x) :: L) := by
  obtain ⟨s, h1⟩ := h.newF (o := .own x) hd
  have fx : F x = none := by
    cases q : F x with
    | none => rfl
    | some o => rw [h.sub _ _ q] at hx; cases hx
  exact ⟨s, h1.newO (by rw [upd_ne (Ne.symm ne)]; exact hx) (.ins hc upd_same (by rw [upd_ne (Ne.symm ne)]; exact fx) upd_same .nil)⟩
theorem xe_make {c x : Str} {C f : Addr} {fd : FuncData} {ps : List Str} {np k : Nat} {m : Mr} {fa : Fn (List Bv)} (Fk : ∀ i, FnOk (X i).prog (X i).w (X i).K (X i).mg (X i).base (L2.CX (X i).prog (X i).w) k f fd ps (spM G (np + 1) m)) (hr : ∀ i, Room (k + 1) (X i).A)
    (M : ∀ i, Mk (X i).K C f) (gC : G.mg c = some (.ref C)) (hg : ∀ i, Gl (X i) x) (hm : ∀ i, (X i).mg x = some (.ref C)) (hb : ∀ i, Binds (X i).K fd ps []) (tk : ∀ i, Takes (X i) W) (ha : XBs G X W (e :: es) fa) (hl : ∀ n ρ bs ρ', fa n ρ = some (.ok bs ρ') → bs.length = np)
    (hdb : (x == ("__debug__" : Str)) = false) (he : ∀ i, starEach (e :: es) (X i).env = (false, eval e (X i).env) :: starEach es (X i).env) (hpl : ∀ i, (backTo pos (starEach es (X i).env)).any (·.1) = false) :
    XE G X W (.Call (.Name x p) (e :: es) [] pos) (fMake c m fa) := by
  obtain ⟨t, h1, h2⟩ := ha
  refine ⟨_, fun i => pe_makeE (E := WE W) (M i) (Fk i) (hr i) (hg i) (hm i) (hb i) (fun σ => passAt (tk i) σ) (h1 i) hdb (he i) (hpl i), fun n ρ r eq F H σ T Q hR hP => ?_⟩
  unfold fMake at eq
  cases q : fa n ρ with
  | none => rw [q] at eq; cases eq
  | some r1 =>
    rw [q] at eq
    refine h2 n ρ r1 q F H σ T _ hR ?_
    cases r1 with
    | ex x ρ' => cases eq; exact hP
    | ok bs ρ1 =>
      rw [bnd_ok] at eq
      intro F1 H1 vs s1 R1 v1 x dx hx hd ne
      cases q2 : takeA ρ1 bs with
      | none => rw [q2] at eq; cases eq
      | some pp =>
        obtain ⟨cs, ρ2⟩ := pp
        rw [q2] at eq
        dsimp only at eq
        obtain ⟨hh, ok2, lc⟩ := take_many R1 v1 q2
        have lb : vs.length = np := (bvs_len v1).trans (hl n ρ bs ρ1 q)
        obtain ⟨s2, hh2⟩ := hh.newIns hx hd ne gC
        cases q3 : m (.ins c [] :: cs) with
        | none => rw [q3] at eq; cases eq
        | some o =>
          rw [q3] at eq
          refine ⟨congrArg (· + 1) lb, .ins c [] :: cs, _, eL ρ2 σ ++ T, o, congrArg (· + 1) (lc.trans lb), hh2, q3, ?_⟩
          cases o with
          | ok c0 outs =>
            cases c0 with
            | fz d0 =>
              cases d0 with
              | none =>
                match outs, eq with
                | some c' :: outs, eq =>
                  cases eq
                  intro F' H' v s' h'
                  have rv := h'.rp
                  cases rv
                  refine ⟨rfl, ?_⟩
                  have h4 : G.HR F' H' ((c', .ref x) :: (backs outs vs ++ (eL ρ2 σ ++ T))) := h'.tail
                  exact hP F' H' _ ((s1.trans s2).trans s') (give_many (T := (c', .ref x) :: T) h4.rot ok2 v1)
              | _ => cases eq
            | _ => cases eq
          | ex x0 outs =>
            match outs, eq with
            | o0 :: outs, eq =>
              cases eq
              intro F' H' cls d s' h' xr
              have h4 : G.HR F' H' (backs outs vs ++ (eL ρ2 σ ++ T)) := by
                cases o0 with
                | none => exact h'
                | some c' => exact HR.tail (x := (c', .ref x)) h'
              exact hP F' H' cls d ((s1.trans s2).trans s') (give_many h4 ok2 v1) xr

/-! ### x.f = e, x an instance in a slot -/
def putFD (f : Str) (d : D) : List (Str × D) → List (Str × D)
  | [] => [(f, d)]
  | (g, x) :: r => if g = f then (g, d) :: r else (g, x) :: putFD f d r
theorem putF_rp {K : PySem.W.Frag} {F : Hp} {f : Str} {v : V} {d : D} (r : Rp K F v d) : ∀ {fvs : List (Str × V)} {fs : List (Str × D)}, RpKs K F fvs fs → RpKs K F (putF f v fvs) (putFD f d fs)
  | _, _, .nil => .cons r .nil
  | _, _, .cons (k := g) h q => by
    unfold putF putFD
    split
    · exact .cons r q
    · exact .cons h (putF_rp r q)
theorem ks_len {K : PySem.W.Frag} {F : Hp} {κ : Type} : ∀ {fvs : List (κ × V)} {fs : List (κ × D)}, RpKs K F fvs fs → fvs.length = fs.length
  | _, _, .nil => rfl
  | _, _, .cons _ r => congrArg (· + 1) (ks_len r)
def sFldSt (c f : Str) (k : Nat) (fe : Fn Bv) : FS := fun n ρ => bS (fFz fe n ρ) fun cc ρ1 => match cc with
  | .fz d => match (ρ1[k]?).join with
    | some (.ins c' es) => if c' = c ∧ es.length < 1000 then some (.nx (ρ1.set k (some (.ins c (putFD f d es))))) else none
    | _ => none
  | _ => none
theorem xs_fldSt {k : Nat} {x c f : Str} {px pos' : Pos} {fe : Fn Bv} (hK : ∀ i, (X i).K = G.K) (hC : ∀ C, G.mg c = some (.ref C) → Cls G.K C ∧ NoAttr G.K C f) (hx : ∀ j, PE (X j) (.Name x px) (tVar k)) (he : XB G X W e fe)
    (hs : ∀ i, swapsWith e (some (.Attribute (.Name x px) f pos')) pos.line (X i).env = pure false) : XS G X W P (.Assign [.Attribute (.Name x px) f pos'] e pos) (sFldSt c f k fe) := by
  obtain ⟨t, h1, h2⟩ := he
  refine ⟨sFld G.K (tVar k) t f, fun i => by have := ps_fld (hx i) (h1 i) (hs i); rw [hK i] at this; exact this, fun n ρ o eq F H σ T D hR hP => ?_⟩
  unfold sFldSt at eq
  cases q : fFz fe n ρ with
  | none => rw [q] at eq; cases eq
  | some r1 =>
    rw [q] at eq
    refine snd_fz h2 n ρ r1 q F H σ T _ hR ?_
    cases r1 with
    | ex x ρ' => cases eq; exact hP.px
    | ok cc ρ1 =>
      rw [bS_ok] at eq
      intro F1 H1 v s1 R1
      split at eq
      · rename_i d
        split at eq
        · rename_i c' es q2
          split at eq
          · rename_i hc
            obtain ⟨hc, hl⟩ := hc
            subst hc
            cases eq
            obtain ⟨w, g1, R'⟩ := R.take R1 (join_some q2)
            obtain ⟨A, cr⟩ := R'.cr
            cases cr with
            | ins k1 k2 k3 k4 k5 =>
              obtain ⟨m1, m2⟩ := hC _ k1
              refine ⟨_, g1, _, _, _, _, rfl, k2, m1, m2, by rw [ks_len k5]; exact hl, ?_⟩
              have rv : Rp G.K F1 v d := R1.rp
              have R2 : G.R F1 (upd H1 _ (.ins _ _ (putF f v _))) (ρ1.set k none) σ ((.ins c' (putFD f d es), .ref _) :: (.fz d, v) :: T) :=
                .mk' (R'.hr'.mut (fun A h => by cases h; rfl) (.ins k1 upd_same k3 k4 (putF_rp rv k5))) R'.ok
              have hk : k < ρ1.length := (List.getElem?_eq_some_iff.mp (join_some q2)).1
              have R3 := R.put R2 (c := .ins c' (putFD f d es)) (i := k) (by rw [List.getElem?_set_self hk]) g1
              rw [List.set_set] at R3
              exact hP F1 _ σ s1 R3.tail (Kp.refl _)
          · cases eq
        · cases eq
      · cases eq
end
end L3

set_option maxHeartbeats 1000000
namespace L2
open PySem PySem.Spec PyProof.Rows
open L3 (ExT)
theorem exT_ok {P : Program} {w : World} {H : Hp} {h : Heap} {cls : Value} {d : Option Addr} {a : Addr} {oe : Obj} {vs : Array Value} (e : h.get? a = some oe) (z : Zc cls d oe) (dd : oe.data = .fields vs) : ObjOk P w H h a (ExT cls d a) :=
  ⟨⟨oe, vs, e, z, dd⟩, ⟨oe, e⟩, fun _ _ ⟨o, v, q, r⟩ k => ⟨o, v, k o q, r⟩⟩
theorem exT_at {P : Program} {w : World} {H : Hp} {h : Heap} {cls : Value} {d : Option Addr} {a : Addr} (hok : HOk P w H h) (he : H a = some (ExT cls d a)) : ∃ (oe : Obj) (vs : Array Value), h.get? a = some oe ∧ Zc cls d oe ∧ oe.data = .fields vs := by
  have x : ObjOk P w H h a (.ext fun h => ∃ (oe : Obj) (vs : Array Value), h.get? a = some oe ∧ Zc cls d oe ∧ oe.data = .fields vs) := hok a _ he
  exact x.1
section
variable {X : Cx} {pins : List (Addr × Obj)} {σ : St} {H : Hp} {s : Shared}
/-- an exception's object, new since the entry, is tracked -/
theorem Inv.track {a : Addr} {oe : Obj} {vs : Array Value} {cls : Value} {d : Option Addr} (I : Inv X pins σ H s) (ha : H a = none) (ho : s.heap.get? a = some oe) (hz : Zc cls d oe) (hd : oe.data = .fields vs) (n0 : X.s_0.heap.get? a = none) (nL : a ≠ X.env.locals) (np : ∀ p ∈ X.pn ++ pins, p.1 ≠ a) :
    Inv X pins σ (upd H a (ExT cls d a)) s := by
  have out : ∀ {b o}, H b = some o → upd H a (ExT cls d a) b = some o := fun {b o} e => (upd_ne fun z => by rw [z, ha] at e; exact nomatch e).trans e
  have old : ∀ {b o}, X.s_0.heap.get? b = some o → upd H a (ExT cls d a) b = H b := fun {b o} e => upd_ne fun z => by rw [z, n0] at e; exact nomatch e
  have base : Un X.fs X.ex X.H_0 (upd H a (ExT cls d a)) X.s_0.heap s.heap :=
    { keep := I.base.keep, slot := I.base.slot, there := I.base.there, free := fun b o e n hq => (old e).trans (I.base.free b o e n hq), tups := fun b xs e => out (I.base.tups b xs e), frzs := fun b o u e => out (I.base.frzs b o u e),
      tbls := fun b ps e => (I.base.tbls b ps e).imp fun _ => out }
  have cells : ∀ x c, X.env.cells.lookup x = some c → c ≠ a := fun x c e z => by
    have ⟨v, o, q, hc⟩ := I.cell x c e
    cases (z ▸ q).symm.trans ho
    exact nomatch hd.symm.trans hc
  exact { ok := I.ok, os := I.os, bare := I.bare, base := base, loc := I.loc, cell := I.cell, len := I.len, hok := I.hok.laidN (fun _ _ q => q) ha (exT_ok ho hz hd),
          free := (upd_ne nL.symm).trans I.free, freeC := fun x c e => (upd_ne (cells x c e)).trans (I.freeC x c e), pin := fun p hp => ⟨(I.pin p hp).1, (upd_ne (np p hp)).trans (I.pin p hp).2.1, (I.pin p hp).2.2⟩ }
end
/-! ### try: .. except c as n: .., the exception kept -/
def wKeep (K : PySem.W.Frag) (i : Nat) (Wout : WX) (D : Ends) (c : Value) (ts : TS) : WX := fun cls d σ H => ∃ b, PySem.W.exmOne K cls c = some b ∧
  (b = true → ∀ a, H a = none → ts { nx := fun σ' H' => H' a = none → D.nx (σ'.set i none) (upd H' a (ExT cls d a)), rt := fun _ _ => False } (σ.set i (some (.ref a))) H) ∧ (b = false → Wout cls d σ H)
section
variable {X : Cx} {B : Heap} {pins : List (Addr × Obj)} {σ : St} {H : Hp} {s t : Shared} {a : Addr} {cls : Value} {d : Option Addr}
/-- what flies over B did not stand at the entry, -/
theorem Cau.since (C : Cau X B pins σ H a cls d t) (I : Inv X pins σ H s) (hs : X.stack = X.env :: X.outer) (hex : X.ex = []) (nb : ∀ b o, s.heap.get? b = some o → b ∉ frs X.stack → B.get? b = some o) : X.s_0.heap.get? a = none := by
  refine Option.eq_none_iff_forall_ne_some.mpr fun o q => ?_
  have ⟨o', q'⟩ := I.base.there a o q (hex ▸ List.not_mem_nil)
  cases (nb a o' q' (hs ▸ C.off)).symm.trans C.fly.2.1
/-- and is none of the pinned -/
theorem Cau.loose (C : Cau X B pins σ H a cls d t) (I : Inv X pins σ H s) (hs : X.stack = X.env :: X.outer) (nb : ∀ b o, s.heap.get? b = some o → b ∉ frs X.stack → B.get? b = some o) : ∀ p ∈ X.pn ++ pins, p.1 ≠ a := fun p hp z => by
  cases (nb p.1 p.2 (I.pin p hp).1 (hs ▸ z ▸ C.off)).symm.trans (z ▸ C.fly.2.1)
end
section
variable {X : Cx} {n x : Str} {c : Value} {i : Nat} {body suite : List Stmt} {b₀ : Stmt} {np pos' : Pos} {ts : TS} {pos : Pos} {tb : WX → TS} {Wout : WX}
theorem ps_try_keep (hs : X.stack = X.env :: X.outer) (hf : X.env.frame = some X.env.locals) (hN : X.N.Nodup) (hi : X.N[i]? = some n) (hln : X.env.kindOf n = some .local) (hex : X.ex = []) (tk : Takes X Wout)
    (hb : ∀ W pn xe, Takes (X.tr pn xe) W → PassesOwn (model X.prog X.w) X.A X.env xe → PSs (X.tr pn xe) body (tb W))
    (hc : Names X x c) (hsu : ∀ (a : Addr) (oe : Obj) (pn : List (Addr × Obj)), PSs (X.suite a ((a, oe) :: pn)) (b₀ :: suite) ts) :
    PS X (.Try body [.ExceptHandler (some (.Name x np)) (some n) (b₀ :: suite) pos'] [] [] pos) (fun D σ H => tb (wKeep X.K i Wout D c ts) D σ H) where
  run pins s σ H D I h := by
    have ok := I.ok
    have fr : X.A.frames = some (X.env :: X.outer) := ok.frames.trans (congrArg some hs)
    refine wpAny_Try_except (wpAny_mono ((hb (wKeep X.K i Wout D c ts) (X.pn ++ pins) _ ?_ PassesOwn.looking).run [] s σ H D (I.toTry _) h) ?_ fun _ _ he => he)
    · rintro u st ⟨a, B, sI, _, σ', H', cls, d, rfl, J, nb, up, sky, na, os, ag, b, hm, yes, no⟩
      have J := Inv.ofTry (pins := pins) J ok
      refine Sky.land Zc.steady fr hf (hs ▸ sky) fun h3 fl up3 => ?_
      have land : ∀ h', HandSPX.FlyingZ B (X.env :: X.outer) a (Zc cls d) h' → st.heap.UpToSlots h' → Cau X B pins σ' H' a cls d { st with heap := h' } := fun h' f u => ⟨J.landed nb f.1 (up.trans u) os ag, f, na⟩
      have C := land h3 fl up3
      have test : ∀ {Q : Value → Shared → Prop} {E : Value → Shared → Prop}, Q c { st with heap := h3 } → wpAny (model X.prog X.w) (X.A.mark (some (.ref a))) (eval (.Name x np) X.env) Q E { st with heap := h3 } := fun q => by
        have ⟨_, _, _, _, S⟩ := C.open_ hf
        rcases hc with ⟨hg, hdb, hm | ⟨hm, hv, hn⟩⟩
        · exact ld_glob S hg hm q hdb
        · exact ld_blt S hg hm hv q hn hdb
      cases b with
      | false => exact PX.clause_passZ C.inv.kIn (fun _ z => z.1) C.fly hm test (PX.no_clauseZ hf C.fly fun h' hd u => tk _ _ ⟨a, B, sI, pins, σ', H', cls, d, rfl, J, nb, up.trans (up3.trans u), .inr (.inr (hs ▸ hd)), na, os, ag, no rfl⟩)
      | true =>
        refine PX.clause_asZ C.inv.kIn (fun _ z => z.1) C.fly hm test fun h' f' u' => ?_
        have C := land h' f' (up3.trans u')
        have ⟨oe, _, z, ⟨_, dd⟩, S⟩ := C.open_ hf
        refine store_ok (X := X.suite a ((a, oe) :: (X.pn ++ pins))) S hN hi (.inl hln) (v := .ref a) rfl (fun s5 S5 => wpAny_mono ((hsu a oe _).run [] s5 _ H' _ S5 (yes rfl a na)) (fun f s6 e => ?_) fun _ _ z => z.elim) (.inr hln)
        cases f with
        | next =>
          have ⟨_, _, S6, q⟩ := e
          have P := S6.pin (a, oe) (.head _)
          exact gone_ok ((S6.unsuite ok).track P.2.1 P.1 z dd (C.since J hs hex nb) (C.offL hf) (C.loose J hs nb)) hN hi hln fun _ L => ⟨_, _, L, q P.2.1⟩
        | ret u => have ⟨_, _, _, _, _, q⟩ := e; exact q.elim
        | brk => have ⟨_, _, _, q⟩ := e; exact q.elim
        | cont => have ⟨_, _, _, q⟩ := e; exact q.elim
    · intro f st e
      cases f with
      | ret u => have ⟨v, σ', H', J, r, q⟩ := e; exact ⟨v, σ', H', J.ofTry ok, r, q⟩
      | next => have ⟨σ', H', J, q⟩ := e; exact wpAny_execs_nil ⟨σ', H', J.ofTry ok, q⟩
      | brk => have ⟨σ', H', J, q⟩ := e; exact ⟨σ', H', J.ofTry ok, q⟩
      | cont => have ⟨σ', H', J, q⟩ := e; exact ⟨σ', H', J.ofTry ok, q⟩
end
/-! ### isinstance and fields of a kept exception -/
def rIsX (K : PySem.W.Frag) : List V → Hp → VK → Prop := fun xs H Q => ∃ (a D : Addr) (d : Option Addr) (c : V) (cv : Value) (b : Bool), xs = [.ref a, c] ∧ H a = some (ExT (.ref D) d a) ∧ L3.EcK K D ∧ (∀ u, RelV c u → u = cv) ∧ PySem.W.kitOne K (.ref D) cv = some b ∧
  (d = none ∨ ∃ dd fs, d = some dd ∧ H dd = some (.xd fs)) ∧ Q (.bl b) H
/-- a kept exception as the library's rules see it: its class, its dict and what stands there -/
theorem exT_inst {X : Cx} {pins : List (Addr × Obj)} {σ : St} {H : Hp} {s : Shared} {a C : Addr} {d : Option Addr} (I : Inv X pins σ H s) (h : H a = some (ExT (.ref C) d a)) :
    (d = none → ∃ oe, PySem.W.InstAt s.heap a oe C none) ∧ ∀ dd fs, d = some dd → H dd = some (.xd fs) → ∃ (oe od : Obj) (m : Str → Option Value), PySem.W.InstAt s.heap a oe C (some od) ∧ (∀ f, PySem.W.lookIn f od = some (m f)) ∧ ∀ f, RelO (fs.lookup f) (m f) := by
  have ⟨oe, vs, e, ⟨zc, zd⟩, hd⟩ := exT_at I.hok h
  have nc : PySem.W.notCls oe := by unfold PySem.W.notCls; rw [hd] <;> rfl
  refine ⟨fun e0 => ⟨oe, e, zc, nc, ?_⟩, fun dd fs e0 hx => ?_⟩
  · rw [zd, e0]; trivial
  · have ⟨m, ns, r⟩ : ObjOk X.prog X.w H s.heap dd (.xd fs) := I.hok dd _ hx
    have ⟨od, ho, l⟩ := lookIn_ns ns
    exact ⟨oe, od, m, ⟨e, zc, nc, by rw [zd, e0]; exact ho⟩, l, r⟩
theorem call_isX {X : Cx} : CallR X (.builtin "isinstance") (rIsX X.K) := by
  rintro pins s σ H xs us Q I r ⟨a, D, d, c, cv, b, rfl, ha, C, hcv, e, hdd, q⟩
  cases r with | cons rx rr => cases rr with | cons rt rn =>
  cases rn
  cases rx
  cases hcv _ rt
  have T := exT_inst I ha
  have ⟨od, oe, J⟩ : ∃ od oe, PySem.W.InstAt s.heap a oe D od := by
    rcases hdd with h0 | ⟨dd, fs, h1, h2⟩
    · exact ⟨none, T.1 h0⟩
    · have ⟨oe, od, _, J, _⟩ := T.2 dd fs h1 h2; exact ⟨some od, oe, J⟩
  exact PySem.W.kia_one (PySem.W.kitx_exc C.cl C.ga C.gg C.sub C.ac C.sp C.tk C.mr) I.kIn J e (fun z => nomatch z) fun tk => ⟨.bl b, H, I.kept (t' := tk) fun _ _ z => z, rfl, q⟩
def tXfT (K : PySem.W.Frag) (f : Str) (te : TE) : TE := fun σ H Q => te σ H fun x H1 => ∃ (a C dd : Addr) (fs : List (Str × V)) (v : V), x = .ref a ∧ H1 a = some (ExT (.ref C) (some dd) a) ∧ XfC K C ∧ PySem.W.findIn K (.ref C) f = some none ∧ H1 dd = some (.xd fs) ∧ fs.lookup f = some v ∧ Q v H1
theorem pe_xfT {X : Cx} {e : Expr} {te : TE} {pos : Pos} {n : Str} (he : PE X e te) (hb : attributeBase e n X.env (eval e X.env) = eval e X.env) : PE X (.Attribute e n pos) (tXfT X.K n te) where
  run pins s σ H Q I h := attr_of hb (thn (he.run pins s σ H _ I h) fun u s1 hh => by
    have ⟨x, H1, I1, rx, a, C, dd, fs, v, ex, hT, T, hno, ea, l, q⟩ := hh
    cases (show u = .ref a by rw [ex] at rx; exact rx)
    have ⟨oe, od, m, J, lk, rel⟩ := (exT_inst I1 hT).2 dd fs rfl ea
    have ⟨w, hw, rw'⟩ := RelO.some_of (v := v) (o := m n) (l ▸ rel n)
    exact HandSPX.exc_get I1.kIn J T.ga T.gg T.exC (PySem.W.findObj_own T.hdC hno rfl ((lk n).trans (congrArg some hw))) (handed_of rw') ⟨v, H1, I1.tok _, rw', q⟩)
end L2
namespace L3
open PySem PySem.Spec L2
section
variable {ι : Type} {G : Gd} {X : ι → Cx} {W : WX} {P : List Nat} {e : Expr} {es : List Expr} {pos : Pos} {i k : Nat} {n : Str}
def sTryK (i k : Nat) (fb : FS) (sub : Ex → Option Bool) : FS := fun n ρ => match fb n ρ with
  | some (.ex x ρ1) => match sub x with
    | some true => if i < ρ1.length ∧ k < ρ1.length then some (.nx (((ρ1.set i none).set k (some (.exn x.cls x.fs))).set i none)) else none
    | some false => some (.ex x ρ1)
    | none => none
  | o => o
theorem xs_tryK {body : List Stmt} {x : Str} {cv : Addr} {b₀ : Stmt} {np pos' : Pos} {sub : Ex → Option Bool} {fb : FS} (hK : ∀ j, (X j).K = G.K) (hs : ∀ j, (X j).stack = (X j).env :: (X j).outer) (hf : ∀ j, (X j).env.frame = some (X j).env.locals) (hN : ∀ j, (X j).N.Nodup) (hi : ∀ j, (X j).N[i]? = some n) (hln : ∀ j, (X j).env.kindOf n = some .local) (hex : ∀ j, (X j).ex = [])
    (hiP : i ∉ P) (hkP : k ∉ P) (tk : ∀ j, Takes (X j) W) (hb : ∀ Wb, XSs G (trX X Wb) Wb P body fb) (hc : ∀ j, Names (X j) x (.ref cv)) (hsub : ∀ e C b, sub e = some b → G.mg e.cls = some (.ref C) → PySem.W.exmOne G.K (.ref C) (.ref cv) = some b)
    (hsu : ∀ j a oe pn, PSs ((X j).suite a ((a, oe) :: pn)) [b₀] (tAsg (tVar i) (gName k))) : XS G X W P (.Try body [.ExceptHandler (some (.Name x np)) (some n) [b₀] pos'] [] [] pos) (sTryK i k fb sub) := by
  refine ⟨fun D σ H => (hb (wKeep G.K i W D (.ref cv) (tAsg (tVar i) (gName k)))).choose D σ H, fun j => ?_, fun m ρ o e F H σ T D hR hP => ?_⟩
  · have := ps_try_keep (X := X j) (pos := pos) (np := np) (pos' := pos') (tb := fun W' => (hb W').choose) (hs j) (hf j) (hN j) (hi j) (hln j) (hex j) (tk j) (fun W' pn xe t1 t2 => (hb W').choose_spec.1 ⟨(j, pn, xe), t1, t2⟩) (hc j) (hsu j)
    rw [hK j] at this
    exact this
  · unfold sTryK at e
    cases q : fb m ρ with
    | none => rw [q] at e; cases e
    | some o1 =>
      rw [q] at e
      refine (hb (wKeep G.K i W D (.ref cv) (tAsg (tVar i) (gName k)))).choose_spec.2 m ρ o1 q F H σ T D hR ?_
      cases o1 with
      | ex x ρ1 =>
        intro F' H' σ' cls d s' R' k' xr
        obtain ⟨C, x1, x2, x3⟩ := id xr
        dsimp only at e
        cases q2 : sub x with
        | none => rw [q2] at e; cases e
        | some b =>
          rw [q2] at e
          refine ⟨b, by rw [x2]; exact hsub x C b q2 x1, ?_, ?_⟩
          · rintro rfl a na
            dsimp only at e
            split at e
            · rename_i hl
              cases e
              have R2 := R'.gone i (some (.ref a))
              refine ⟨.ref a, List.getElem?_set_self (by rw [← R'.ok.len]; exact hl.1), fun _ => ?_⟩
              obtain ⟨s2, R3⟩ := R2.hr.newF (o := ExT cls d a) na
              have cr : G.CR (upd F' a (ExT cls d a)) (upd H' a (ExT cls d a)) (.exn x.cls x.fs) (.ref a) [] := by
                rw [x2]
                refine .exn x1 upd_same ?_
                rcases x3 with ⟨y1, y2⟩ | ⟨dd, fvs, y1, y2, y3⟩
                · exact .inl ⟨y1, y2⟩
                · refine .inr ⟨dd, fvs, y1, ?_, y3.mono (by rw [← x2]; exact s2)⟩
                  rw [upd_ne]
                  · exact y2
                  · intro z
                    have h1 := R'.sub _ _ y2
                    rw [z, na] at h1
                    cases h1
              have R4 : G.R (upd F' a (ExT cls d a)) (upd H' a (ExT cls d a)) (ρ1.set i none) (σ'.set i (some (.ref a))) ((.exn x.cls x.fs, .ref a) :: T) := by
                obtain ⟨sb, A, nd, hl⟩ := R3
                exact .mk' ⟨sb, [] ++ A, nd, .cons cr hl⟩ R2.ok
              have R5 := R4.set (i := k) (by rw [List.length_set]; exact hl.2)
              exact hP _ _ _ (s'.trans s2) (R5.gone i none) (k'.trans ((Kp.set hiP).trans ((Kp.set hkP).trans (Kp.set hiP))))
            · cases e
          · rintro rfl
            cases e
            exact hP F' H' σ' cls d s' R' k' xr
      | nx ρ1 => cases e; exact hP
      | rt c ρ1 => cases e; exact hP
      | bk ρ1 => cases e; exact hP
      | ct ρ1 => cases e; exact hP
def fIsX (sub : Ex → Option Bool) (f : Fn Bv) : Fn Cl := fun n ρ => bnd (f n ρ) fun b ρ1 => match lk ρ1 b with
  | some (.exn c fs) => match sub ⟨c, fs⟩ with
    | some r => some (.ok (.fz (.bool r)) ρ1)
    | none => none
  | _ => none
theorem snd_isX {sub : Ex → Option Bool} {f : Fn Bv} {t t2 : TE} {c : V} {cv : Value} (ht2 : ∀ σ H Q, Q c H → t2 σ H Q) (hcv : ∀ u, RelV c u → u = cv) (hsub : ∀ e C b, sub e = some b → G.mg e.cls = some (.ref C) → EcK G.K C ∧ PySem.W.kitOne G.K (.ref C) cv = some b) (h : SndB G W t f) : SndE G W (tCB (rIsX G.K) (tCons t (tCons t2 tNil))) (fIsX sub f) := fun n ρ r eq F H σ T Q hR hP => by
  unfold fIsX at eq
  cases q : f n ρ with
  | none => rw [q] at eq; cases eq
  | some r1 =>
    rw [q] at eq
    refine h n ρ r1 q F H σ T _ hR ?_
    cases r1 with
    | ex x ρ' => cases eq; exact hP
    | ok b ρ1 =>
      rw [bnd_ok] at eq
      intro F1 H1 v s1 R1 v1
      split at eq
      · rename_i cc es q2
        split at eq
        · rename_i rb q3
          cases eq
          obtain ⟨A, cr⟩ := bv_cr R1 bvT_nil v1 q2
          cases cr with
          | exn k1 k2 k3 =>
            obtain ⟨m1, m2⟩ := hsub ⟨cc, es⟩ _ rb q3 k1
            refine ht2 _ _ _ ?_
            refine ⟨_, _, _, c, cv, rb, rfl, R1.sub _ _ k2, m1, hcv, m2, ?_, hP F1 H1 _ s1 ((bvT_drop b _ R1).push (.bl rb))⟩
            rcases k3 with ⟨_, y⟩ | ⟨dd, kvs, y1, y2, y3⟩
            · exact .inl y
            · exact .inr ⟨dd, kvs, y1, R1.sub _ _ y2⟩
        · cases eq
      · cases eq
theorem xe_isX {sub : Ex → Option Bool} {x : Str} {cv : Addr} {p p2 : Pos} {f : Fn Bv} (hK : ∀ i, (X i).K = G.K) (hg : ∀ i, Gl (X i) "isinstance") (hm : ∀ i, (X i).mg "isinstance" = none) (hgT : ∀ i, Gl (X i) x) (hmC : ∀ i, (X i).mg x = some (.ref cv)) (hcd : (x == ("__debug__" : Str)) = false) (ha : XB G X W e f)
    (hsub : ∀ e C b, sub e = some b → G.mg e.cls = some (.ref C) → EcK G.K C ∧ PySem.W.kitOne G.K (.ref C) (.ref cv) = some b)
    (hs1 : ∀ i, starEach [e, .Name x p2] (X i).env = (false, eval e (X i).env) :: starEach [.Name x p2] (X i).env) (hs2 : ∀ i, starEach [.Name x p2] (X i).env = (false, eval (.Name x p2) (X i).env) :: starEach [] (X i).env) (hpl : ∀ i, (backTo pos (starEach [.Name x p2] (X i).env)).any (·.1) = false) :
    XE G X W (.Call (.Name "isinstance" p) [e, .Name x p2] [] pos) (fIsX sub f) := by
  obtain ⟨t, h1, h2⟩ := ha
  refine ⟨_, fun i => by
    have := pe_callB (x := "isinstance") (p := p) (pos := pos) call_isX (hg i) (hm i) (by decide +kernel) (pa_cons (h1 i) (pa_cons (pe_glob (v := .ref cv) (hgT i) (hmC i) rfl hcd) pa_nil (hs2 i)) (hs1 i)) (by decide) (by decide) (hs1 i) (hpl i)
    rw [hK i] at this
    exact this, snd_isX (c := .ref cv) (cv := .ref cv) (fun σ H Q q => q) (fun u h => h) hsub h2⟩
theorem xe_isXT {sub : Ex → Option Bool} {x : Str} {T : String} {p p2 : Pos} {f : Fn Bv} (hK : ∀ i, (X i).K = G.K) (hg : ∀ i, Gl (X i) "isinstance") (hm : ∀ i, (X i).mg "isinstance" = none) (hgT : ∀ i, Gl (X i) x) (hmT : ∀ i, (X i).mg x = none) (hv : bootBuiltins x = some (.type T)) (hx : x ≠ "__name__") (hxd : (x == ("__debug__" : Str)) = false) (ha : XB G X W e f)
    (hsub : ∀ e C b, sub e = some b → G.mg e.cls = some (.ref C) → EcK G.K C ∧ PySem.W.kitOne G.K (.ref C) (.type T) = some b)
    (hs1 : ∀ i, starEach [e, .Name x p2] (X i).env = (false, eval e (X i).env) :: starEach [.Name x p2] (X i).env) (hs2 : ∀ i, starEach [.Name x p2] (X i).env = (false, eval (.Name x p2) (X i).env) :: starEach [] (X i).env) (hpl : ∀ i, (backTo pos (starEach [.Name x p2] (X i).env)).any (·.1) = false) :
    XE G X W (.Call (.Name "isinstance" p) [e, .Name x p2] [] pos) (fIsX sub f) := by
  obtain ⟨t, h1, h2⟩ := ha
  refine ⟨_, fun i => by
    have := pe_callB (x := "isinstance") (p := p) (pos := pos) call_isX (hg i) (hm i) (by decide +kernel) (pa_cons (h1 i) (pa_cons (pe_bltn (v := .ty T) (hgT i) (hmT i) hv rfl hx hxd) pa_nil (hs2 i)) (hs1 i)) (by decide) (by decide) (hs1 i) (hpl i)
    rw [hK i] at this
    exact this, snd_isX (c := .ty T) (cv := .type T) (fun σ H Q q => q) (fun u h => h) hsub h2⟩
def fXFld (cs : List Str) (f : Str) (fo : Fn Bv) : Fn Cl := fun n ρ => bnd (fo n ρ) fun b ρ1 => match lk ρ1 b with
  | some (.exn c fs) => match seF cs f ⟨c, fs⟩ with
    | some d => some (.ok (.fz d) ρ1)
    | none => none
  | _ => none
theorem xe_xfld {cs : List Str} {f : Str} {fo : Fn Bv} (hK : ∀ i, (X i).K = G.K) (hC : ∀ c C, cs.contains c = true → G.mg c = some (.ref C) → XfC G.K C ∧ PySem.W.findIn G.K (.ref C) f = some none) (ho : XB G X W e fo) (hb : ∀ i, attributeBase e f (X i).env (eval e (X i).env) = eval e (X i).env) : XE G X W (.Attribute e f pos) (fXFld cs f fo) := by
  obtain ⟨t, h1, h2⟩ := ho
  refine ⟨tXfT G.K f t, fun i => by have := pe_xfT (pos := pos) (h1 i) (hb i); rw [hK i] at this; exact this, fun n ρ r eq F H σ T Q hR hP => ?_⟩
  unfold fXFld at eq
  cases q : fo n ρ with
  | none => rw [q] at eq; cases eq
  | some r1 =>
    rw [q] at eq
    refine h2 n ρ r1 q F H σ T _ hR ?_
    cases r1 with
    | ex x ρ' => cases eq; exact hP
    | ok b ρ1 =>
      rw [bnd_ok] at eq
      intro F1 H1 v s1 R1 v1
      split at eq
      · rename_i cc es q2
        split at eq
        · rename_i d q3
          cases eq
          obtain ⟨A, cr⟩ := bv_cr R1 bvT_nil v1 q2
          unfold seF at q3
          dsimp only at q3
          split at q3
          · rename_i hc
            cases cr with
            | exn k1 k2 k3 =>
              obtain ⟨m1, m2⟩ := hC _ _ hc k1
              rcases k3 with ⟨y, _⟩ | ⟨dd, kvs, y1, y2, y3⟩
              · rw [y] at q3; cases q3
              · obtain ⟨w, l, rw'⟩ := lookup_ks y3 q3
                subst y1
                exact ⟨_, _, dd, kvs, w, rfl, R1.sub _ _ k2, m1, m2, R1.sub _ _ y2, l, hP F1 H1 w s1 ((bvT_drop b _ R1).push rw')⟩
          · cases q3
        · cases eq
      · cases eq
/-- {k1: v1, k2: v2} of constants -/
def fDct2c (k1 : Int) (d1 : D) (k2 : Int) (d2 : D) : Fn Cl := fun _ ρ => some (.ok (.dct [(.inl k1, d1), (.inl k2, d2)]) ρ)
theorem xe_dct2c {k1 k2 : Int} {d1 d2 : D} {v1 v2 : V} {e1 e2 f1 f2 : Expr} (hne : k2 ≠ k1) (a1 : ∀ i, PE (X i) e1 (tC (.int k1))) (b1 : ∀ i, PE (X i) f1 (tC v1)) (a2 : ∀ i, PE (X i) e2 (tC (.int k2))) (b2 : ∀ i, PE (X i) f2 (tC v2)) (r1 : ∀ F, Rp G.K F v1 d1) (r2 : ∀ F, Rp G.K F v2 d2) :
    XE G X W (.Dict [some e1, some e2] [f1, f2] pos) (fDct2c k1 d1 k2 d2) := by
  refine ⟨_, fun i => pe_disp (pps_cons (a1 i) (b1 i) (pps_cons (a2 i) (b2 i) pps_nil)) rfl rfl (by simp) (by simp), fun n ρ r eq F H σ T Q hR hP => ?_⟩
  cases eq
  intro p hp
  have fp : F p = none := by
    cases q : F p with
    | none => rfl
    | some o => rw [hR.sub _ _ q] at hp; cases hp
  refine ⟨upd_same, [(.inl k1, v1), (.inl k2, v2)], rfl, by simp, ?_⟩
  have e : mergeK [] [((.inl k1 : Key), v1), (.inl k2, v2)] = [(.inl k1, v1), (.inl k2, v2)] := by
    have ne : ¬ ((.inl k1 : Key) = .inl k2) := fun z => hne (Sum.inl.inj z).symm
    simp [mergeK, putK, ne]
  rw [e, upd_upd]
  exact hP F _ _ (Same.refl _) (.mk' (hR.hr.newO hp (.dct upd_same fp (.cons (r1 F) (.cons (r2 F) .nil)))) hR.ok)
/-! ### tables -/
theorem one_c {c : Str} {C0 : Addr} {Pr : Addr → Prop} (h : G.mg c = some (.ref C0)) (hp : Pr C0) : ∀ C, G.mg c = some (.ref C) → Pr C := fun C e => by
  rw [h] at e
  cases e
  exact hp
theorem memc {α : Type} {p : α → Prop} {x : α} {l : List α} (h : p x) (r : ∀ y ∈ l, p y) : ∀ y ∈ x :: l, p y := fun y hy => by
  rcases List.mem_cons.mp hy with e | hy
  · rw [e]; exact h
  · exact r y hy
def kbRow (K : PySem.W.Frag) (cv : Value) (l : List (Addr × Bool)) : Bool := l.all fun p => decide (PySem.W.kitOne K (.ref p.1) cv = some p.2)
theorem kb_sub {cv : Value} {l : List (Str × Addr)} {bs : List Bool} {tb : List (Str × Bool)} (h1 : ∀ p ∈ l, G.mg p.1 = some (.ref p.2) ∧ EcK G.K p.2) (h2 : kbRow G.K cv ((l.map (·.2)).zip bs) = true) (e : tb = (l.map (·.1)).zip bs) :
    ∀ e C b, tblO tb e = some b → G.mg e.cls = some (.ref C) → EcK G.K C ∧ PySem.W.kitOne G.K (.ref C) cv = some b := by
  subst e
  intro x C b q m
  unfold tblO at q
  induction l generalizing bs with
  | nil => cases q
  | cons p l ih =>
    obtain ⟨c, a⟩ := p
    cases bs with
    | nil => cases q
    | cons b0 bs =>
      unfold kbRow at h2
      simp only [List.map_cons, List.zip_cons_cons, List.all_cons, Bool.and_eq_true] at h2
      simp only [List.map_cons, List.zip_cons_cons, List.lookup_cons] at q
      split at q
      · rename_i z
        cases q
        obtain ⟨m1, m2⟩ := h1 (c, a) List.mem_cons_self
        have ec : x.cls = c := by simpa using z
        rw [ec] at m
        rw [m1] at m
        cases m
        exact ⟨m2, of_decide_eq_true h2.1⟩
      · exact ih (fun p hp => h1 p (List.mem_cons_of_mem _ hp)) (by unfold kbRow; exact h2.2) q
def clsNth (s : Stmt) (j : Nat) : Stmt := match s with
  | .ClassDef (body := b) .. => b.getD j (.Pass ⟨0, 0, 0, 0⟩)
  | _ => s
end
end L3

namespace L3
open PySem PySem.Spec L2
/-! ### evaluation: what simp turns (printed by ev.py) -/
@[simp] theorem e_lk_pl (ρ : En) (k : Nat) : lk ρ (.pl k) = (ρ[k]?).join := rfl
@[simp] theorem e_lk_vl (ρ : En) (c : Cl) : lk ρ (.vl c) = some c := rfl
@[simp] theorem e_lks_nil (ρ : En) : lks ρ [] = some [] := rfl
@[simp] theorem e_lks_cons (ρ : En) (b : Bv) (bs : List Bv) : lks ρ (b :: bs) = (match lk ρ b, lks ρ bs with | some c, some cs => some (c :: cs) | _, _ => none) := rfl
@[simp] theorem e_fz_pl (ρ : En) (k : Nat) : fzB ρ (.pl k) = (match (ρ[k]?).join with
    | some c => match c.data with
      | some d => some (d, ρ.set k (some (.fz d)))
      | none => none
    | none => none) := rfl
@[simp] theorem e_fz_vl (ρ : En) (c : Cl) : fzB ρ (.vl c) = (match c.data with
    | some d => some (d, ρ)
    | none => none) := rfl
@[simp] theorem e_fzs_nil (ρ : En) : fzBs ρ [] = some ([], ρ) := rfl
@[simp] theorem e_fzs_cons (ρ : En) (b : Bv) (bs : List Bv) : fzBs ρ (b :: bs) = (match fzBs ρ bs with
    | some (ds, ρ1) => match fzB ρ1 b with
      | some (d, ρ2) => some (d :: ds, ρ2)
      | none => none
    | none => none) := rfl
@[simp] theorem e_data_fz (d : D) : Cl.data (.fz d) = some d := rfl
@[simp] theorem e_data_lst (ds : List D) : Cl.data (.lst ds) = some (.list ds) := rfl
@[simp] theorem e_data_dct (es : List (Key × D)) : Cl.data (.dct es) = some (.dict (es.map fun p => (kD p.1, p.2))) := rfl
@[simp] theorem e_dctE_dct (es : List (Key × D)) : dctE (.dct es) = some es := rfl
@[simp] theorem e_dctE_dlk (es : List (Key × D)) : dctE (.dlk es) = some es := rfl
@[simp] theorem e_gIxTT (c : Cl) (kd : D) : gIxT [c, .fz kd] = (match dttE c, keyTD kd with
  | some es, some p => (getTT es (kT p)).map .fz
  | _, _ => none) := rfl
@[simp] theorem e_gNinT (c : Cl) (kd : D) : gNinT [.fz kd, c] = (match dttE c, keyTD kd with
  | some es, some p => some (.fz (.bool (!(getTT es (kT p)).isSome)))
  | _, _ => none) := rfl
@[simp] theorem e_dttE_dtt (es : List (List Key × D)) : dttE (.dtt es) = some es := rfl
@[simp] theorem e_dttE_dlt (es : List (List Key × D)) : dttE (.dlt es) = some es := rfl
@[simp] theorem e_gIxD (c : Cl) (kd : D) : gIxD [c, .fz kd] = (match dctE c, keyD kd with
    | some es, some k => (getK es k).map .fz
    | _, _ => none) := rfl
@[simp] theorem e_gMax3 (i j k : Int) : gMax3 [.fz (.int i), .fz (.int j), .fz (.int k)] = some (.fz (.int (if (if i < j then j else i) < k then k else (if i < j then j else i)))) := rfl
@[simp] theorem e_restR0 (ρ ρ' : En) : restR ρ [] ρ' = ρ' := rfl
@[simp] theorem e_restR1 (ρ ρ' : En) (j : Nat) (vs : List Nat) : restR ρ (j :: vs) ρ' = restR ρ vs (match ρ[j]?, ρ'[j]? with
    | some (some (.fz d)), some none => ρ'.set j (some (.fz d))
    | _, _ => ρ') := rfl
@[simp] theorem e_gIntAI (i : Int) : gIntA [.fz (.int i)] = some (.fz (.int i)) := rfl
@[simp] theorem e_keyD_int (i : Int) : keyD (.int i) = some (.inl i) := rfl
@[simp] theorem e_keyD_str (x : Str) : keyD (.str x) = some (.inr x) := rfl
@[simp] theorem e_asB (b : Bool) : asB (.fz (.bool b)) = some b := rfl
@[simp] theorem e_take_nil (ρ : En) : takeA ρ [] = some ([], ρ) := rfl
@[simp] theorem e_take_vl (ρ : En) (c : Cl) (bs : List Bv) : takeA ρ (.vl c :: bs) = (match takeA ρ bs with
    | some (cs, ρ1) => some (c :: cs, ρ1)
    | none => none) := rfl
@[simp] theorem e_take_pl (ρ : En) (i : Nat) (bs : List Bv) : takeA ρ (.pl i :: bs) = (match takeA ρ bs with
    | some (cs, ρ1) => match (ρ1[i]?).join with
        | some (.fz d) => some (.fz d :: cs, ρ1)
        | some c => some (c :: cs, ρ1.set i none)
        | none => none
    | none => none) := rfl
@[simp] theorem e_give_nil (ρ : En) (os : List (Option Cl)) : giveA ρ [] os = ρ := by cases os <;> rfl
@[simp] theorem e_give_none (ρ : En) (bs : List Bv) : giveA ρ bs [] = ρ := by
  cases bs with
  | nil => rfl
  | cons b bs => cases b <;> rfl
@[simp] theorem e_give_pls (ρ : En) (i : Nat) (bs : List Bv) (c : Cl) (os : List (Option Cl)) : giveA ρ (.pl i :: bs) (some c :: os) = giveA (match ρ[i]? with | some none => ρ.set i (some c) | _ => ρ) bs os := rfl
@[simp] theorem e_give_pln (ρ : En) (i : Nat) (bs : List Bv) (os : List (Option Cl)) : giveA ρ (.pl i :: bs) (none :: os) = giveA ρ bs os := rfl
@[simp] theorem e_give_vl (ρ : En) (c : Cl) (bs : List Bv) (o : Option Cl) (os : List (Option Cl)) : giveA ρ (.vl c :: bs) (o :: os) = giveA ρ bs os := by cases o <;> rfl
@[simp] theorem e_fin_nx (fl : List Bool) (ρ : En) : fin fl (.nx ρ) = some (.ok (.fz .none) (outsOf fl ρ)) := rfl
@[simp] theorem e_fin_rt (fl : List Bool) (c : Cl) (ρ : En) : fin fl (.rt c ρ) = some (.ok c (outsOf fl ρ)) := rfl
@[simp] theorem e_fin_ex (fl : List Bool) (x : Ex) (ρ : En) : fin fl (.ex x ρ) = some (.ex x (outsOf fl ρ)) := rfl
@[simp] theorem e_gN (i : Nat) (d : D) (ρ : En) : gN i d ρ = if i < ρ.length then some (ρ.set i (some (.fz d))) else none := rfl
@[simp] theorem e_gsNil (ρ : En) : gsNil [] ρ = some ρ := rfl
@[simp] theorem e_gsCons (f : FG) (g : FGs) (d : D) (ds : List D) (ρ : En) : gsCons f g (d :: ds) ρ = (match f d ρ with
    | some ρ1 => g ds ρ1
    | none => none) := rfl
@[simp] theorem e_gTp (n : Nat) (f : FGs) (ds : List D) (ρ : En) : gTp n f (.tuple ds) ρ = if ds.length = n then f ds ρ else none := rfl
@[simp] theorem e_gLs (n : Nat) (f : FGs) (ds : List D) (ρ : En) : gLs n f (.list ds) ρ = if ds.length = n then f ds ρ else none := rfl
@[simp] theorem e_fSu (k : Nat) (sub : Ex → Bool) (f : Ex → Option Cl) (x : Ex) (n : Nat) (ρ : En) : fSu k sub f x n ρ = if sub x = true then match f x with
  | some c => if k < ρ.length then some (.nx (ρ.set k (some c))) else none
  | none => none
  else none := rfl
@[simp] theorem e_hdl_nil (i : Nat) (x : Ex) (n : Nat) (ρ : En) : hdl i [] x n ρ = some (.ex x ρ) := rfl
@[simp] theorem e_hdl_cons (i : Nat) (sub : Ex → Option Bool) (f : Ex → FS) (l : List ((Ex → Option Bool) × (Ex → FS))) (x : Ex) (n : Nat) (ρ : En) : hdl i ((sub, f) :: l) x n ρ = (match sub x with
    | some true => if i < ρ.length then (f x n (ρ.set i none)).bind (Ot.gone i) else none
    | some false => hdl i l x n ρ
    | none => none) := rfl
@[simp] theorem e_gone_nx (i : Nat) (ρ : En) : Ot.gone i (.nx ρ) = some (.nx (ρ.set i none)) := rfl
@[simp] theorem e_gAddI (i j : Int) : gAdd [.fz (.int i), .fz (.int j)] = some (.fz (.int (i + j))) := rfl
@[simp] theorem e_gSubI (i j : Int) : gSub [.fz (.int i), .fz (.int j)] = some (.fz (.int (i - j))) := rfl
@[simp] theorem e_gNegI (i : Int) : gNeg [.fz (.int i)] = some (.fz (.int (-i))) := rfl
@[simp] theorem e_gII (p : Int → Int → Bool) (i j : Int) : gI p [.fz (.int i), .fz (.int j)] = some (.fz (.bool (p i j))) := rfl
@[simp] theorem e_gLenL (ds : List D) : gLen [.lst ds] = some (.fz (.int ds.length)) := rfl
@[simp] theorem e_gLenF (ds : List D) : gLen [.fz (.list ds)] = some (.fz (.int ds.length)) := rfl
@[simp] theorem e_gLenT (ds : List D) : gLen [.fz (.tuple ds)] = some (.fz (.int ds.length)) := rfl
@[simp] theorem e_gLenAL (ds : List D) : gLenA [.lst ds] = some (.fz (.int ds.length)) := rfl
@[simp] theorem e_gLenAF (ds : List D) : gLenA [.fz (.list ds)] = some (.fz (.int ds.length)) := rfl
@[simp] theorem e_gLenAT (ds : List D) : gLenA [.fz (.tuple ds)] = some (.fz (.int ds.length)) := rfl
@[simp] theorem e_gLenAD (es : List (Key × D)) : gLenA [.dct es] = some (.fz (.int es.length)) := rfl
@[simp] theorem e_isL (ds : List D) : isL (.lst ds) = true := rfl
@[simp] theorem e_gIxL (ds : List D) (i : Int) : gIx [.lst ds, .fz (.int i)] = (atI ds i).map .fz := rfl
@[simp] theorem e_gIxF (ds : List D) (i : Int) : gIx [.fz (.list ds), .fz (.int i)] = (atI ds i).map .fz := rfl
@[simp] theorem e_gIxT (ds : List D) (i : Int) : gIx [.fz (.tuple ds), .fz (.int i)] = (atI ds i).map .fz := rfl
@[simp] theorem e_gTupleL (ds : List D) : gTuple [.lst ds] = some (.fz (.tuple ds)) := rfl
@[simp] theorem e_gTupleF (ds : List D) : gTuple [.fz (.list ds)] = some (.fz (.tuple ds)) := rfl
@[simp] theorem e_gTupleT (ds : List D) : gTuple [.fz (.tuple ds)] = some (.fz (.tuple ds)) := rfl
@[simp] theorem e_gListL (ds : List D) : gList [.lst ds] = some (.lst ds) := rfl
@[simp] theorem e_gListF (ds : List D) : gList [.fz (.list ds)] = some (.lst ds) := rfl
@[simp] theorem e_gListT (ds : List D) : gList [.fz (.tuple ds)] = some (.lst ds) := rfl
@[simp] theorem e_gMax (i j : Int) : gMax2 [.fz (.int i), .fz (.int j)] = some (.fz (.int (max i j))) := by
  show some (Cl.fz (.int (if j > i then j else i))) = _
  rw [show max i j = if j > i then j else i from by
    split <;> omega]
@[simp] theorem e_gMin (i j : Int) : gMin2 [.fz (.int i), .fz (.int j)] = some (.fz (.int (min i j))) := by
  show some (Cl.fz (.int (if j < i then j else i))) = _
  rw [show min i j = if j < i then j else i from by
    split <;> omega]
@[simp] theorem e_gAbs (i : Int) : gAbs [.fz (.int i)] = some (.fz (.int i.natAbs)) := by
  show some (Cl.fz (.int (if i < 0 then -i else i))) = _
  rw [show (i.natAbs : Int) = if i < 0 then -i else i from by
    split <;> omega]
@[simp] theorem e_gIntI (i : Int) : gInt [.fz (.int i)] = some (.fz (.int i)) := rfl
/-! ints -/
def is_int (d : D) : Bool := match d with
  | .bool _ => true
  | .int _ => true
  | _ => false
@[simp] theorem e_isi_int : ∀ d : D, isiD "int" d = some (is_int d)
  | .none => show kitB "NoneType" "int" = some false from by decide +kernel
  | .bool _ => show kitB "bool" "int" = some true from by decide +kernel
  | .int _ => show kitB "int" "int" = some true from by decide +kernel
  | .str _ => show kitB "str" "int" = some false from by decide +kernel
  | .list _ => show kitB "list" "int" = some false from by decide +kernel
  | .tuple _ => show kitB "tuple" "int" = some false from by decide +kernel
  | .dict _ => show kitB "dict" "int" = some false from by decide +kernel
def is_bool (d : D) : Bool := match d with
  | .bool _ => true
  | _ => false
@[simp] theorem e_isi_bool : ∀ d : D, isiD "bool" d = some (is_bool d)
  | .none => show kitB "NoneType" "bool" = some false from by decide +kernel
  | .bool _ => show kitB "bool" "bool" = some true from by decide +kernel
  | .int _ => show kitB "int" "bool" = some false from by decide +kernel
  | .str _ => show kitB "str" "bool" = some false from by decide +kernel
  | .list _ => show kitB "list" "bool" = some false from by decide +kernel
  | .tuple _ => show kitB "tuple" "bool" = some false from by decide +kernel
  | .dict _ => show kitB "dict" "bool" = some false from by decide +kernel
def is_tuple (d : D) : Bool := match d with
  | .tuple _ => true
  | _ => false
@[simp] theorem e_isi_tuple : ∀ d : D, isiD "tuple" d = some (is_tuple d)
  | .none => show kitB "NoneType" "tuple" = some false from by decide +kernel
  | .bool _ => show kitB "bool" "tuple" = some false from by decide +kernel
  | .int _ => show kitB "int" "tuple" = some false from by decide +kernel
  | .str _ => show kitB "str" "tuple" = some false from by decide +kernel
  | .list _ => show kitB "list" "tuple" = some false from by decide +kernel
  | .tuple _ => show kitB "tuple" "tuple" = some true from by decide +kernel
  | .dict _ => show kitB "dict" "tuple" = some false from by decide +kernel
def is_list (d : D) : Bool := match d with
  | .list _ => true
  | _ => false
@[simp] theorem e_isi_list : ∀ d : D, isiD "list" d = some (is_list d)
  | .none => show kitB "NoneType" "list" = some false from by decide +kernel
  | .bool _ => show kitB "bool" "list" = some false from by decide +kernel
  | .int _ => show kitB "int" "list" = some false from by decide +kernel
  | .str _ => show kitB "str" "list" = some false from by decide +kernel
  | .list _ => show kitB "list" "list" = some true from by decide +kernel
  | .tuple _ => show kitB "tuple" "list" = some false from by decide +kernel
  | .dict _ => show kitB "dict" "list" = some false from by decide +kernel
def is_str (d : D) : Bool := match d with
  | .str _ => true
  | _ => false
@[simp] theorem e_isi_str : ∀ d : D, isiD "str" d = some (is_str d)
  | .none => show kitB "NoneType" "str" = some false from by decide +kernel
  | .bool _ => show kitB "bool" "str" = some false from by decide +kernel
  | .int _ => show kitB "int" "str" = some false from by decide +kernel
  | .str _ => show kitB "str" "str" = some true from by decide +kernel
  | .list _ => show kitB "list" "str" = some false from by decide +kernel
  | .tuple _ => show kitB "tuple" "str" = some false from by decide +kernel
  | .dict _ => show kitB "dict" "str" = some false from by decide +kernel
@[simp] theorem e_isi2_lt : ∀ d : D, isiD2 "list" "tuple" d = some (is_list d || is_tuple d)
  | .none => rfl
  | .bool _ => rfl
  | .int _ => rfl
  | .str _ => rfl
  | .list _ => rfl
  | .tuple _ => rfl
  | .dict _ => rfl
def zs (ns : List Int) : List D := ns.map PyData.int
@[simp] theorem zs_len (ns : List Int) : (zs ns).length = ns.length := List.length_map _
@[simp] theorem intsD_zs : ∀ ns : List Int, intsD (zs ns) = some ns
  | [] => rfl
  | n :: ns => by
    show (match intsD (zs ns) with | some ns => some (n :: ns) | none => none) = _
    rw [intsD_zs ns]
theorem zs_of {ds : List D} {ns : List Int} (h : intsD ds = some ns) : ds = zs ns := intsD_ok h
theorem zs_get {ns : List Int} {i : Nat} {x : Int} (h : ns[i]? = some x) : (zs ns)[i]? = some (.int x) := by
  unfold zs
  rw [List.getElem?_map, h]; rfl
theorem ixN_nat {n i : Nat} (h : i < n) : ixN n (i : Int) = some i := by
  unfold ixN
  rw [if_pos (by omega), if_pos (by omega)]; simp
theorem atI_zs {ns : List Int} {i : Nat} {x : Int} (h : ns[i]? = some x) : atI (zs ns) (i : Int) = some (.int x) := atI_nat (zs_get h)
theorem sh_int (i : Int) : SeqAt.shaped (.int i) = true := rfl
theorem lay_zs : ∀ ns : List Int, PyData.canLayAll0 (zs ns) = true
  | [] => rfl
  | _ :: ns => lay_zs ns
theorem eqv_int (i j : Int) : PyData.eqv (.int i) (.int j) = decide (i = j) := by
  unfold PyData.eqv
  first | rfl | simp
@[simp] theorem e_keyTD {p : List Int} (h : p ≠ []) : keyTD (.tuple (zs p)) = some p := by
  cases p with
  | nil => exact absurd rfl h
  | cons x p =>
    show (match intsD (zs (x :: p)) with
      | some (x :: p) => some (x :: p)
      | _ => none) = _
    rw [intsD_zs]
@[simp] theorem e_gEqI (i j : Int) : gEq [.fz (.int i), .fz (.int j)] = some (.fz (.bool (decide (i = j)))) := by
  show (if (SeqAt.shaped (.int i) && SeqAt.shaped (.int j)) = true then some (Cl.fz (.bool (PyData.eqv (.int i) (.int j)))) else none) = _
  rw [sh_int, sh_int, eqv_int]
  rfl
@[simp] theorem e_gNeI (i j : Int) : gNe [.fz (.int i), .fz (.int j)] = some (.fz (.bool (!decide (i = j)))) := by
  show (if (SeqAt.shaped (.int i) && SeqAt.shaped (.int j)) = true then some (Cl.fz (.bool (!PyData.eqv (.int i) (.int j)))) else none) = _
  rw [sh_int, sh_int, eqv_int]
  rfl
theorem dep_zs : ∀ ns : List Int, PyData.depthAll (zs ns) = 0
  | [] => rfl
  | _ :: ns => by
    show max 0 (PyData.depthAll (zs ns)) = 0
    rw [dep_zs ns]; rfl
theorem sh_tup (ns : List Int) : SeqAt.shaped (.tuple (zs ns)) = true := by
  show (PyData.canLayAll0 (zs ns) && decide (PyData.depthAll (zs ns) + 1 ≤ 64)) = true
  rw [lay_zs, dep_zs]; rfl
theorem sh_lst (ns : List Int) : SeqAt.shaped (.list (zs ns)) = true := by
  show (PyData.canLayAll0 (zs ns) && decide (PyData.depthAll (zs ns) + 1 ≤ 64)) = true
  rw [lay_zs, dep_zs]; rfl
theorem eqv_zs : ∀ a b : List Int, PyData.eqvAll (zs a) (zs b) = decide (a = b)
  | [], [] => rfl
  | [], _ :: _ => rfl
  | _ :: _, [] => rfl
  | x :: a, y :: b => by
    show (PyData.eqv (.int x) (.int y) && PyData.eqvAll (zs a) (zs b)) = _
    rw [eqv_int, eqv_zs a b]
    by_cases h1 : x = y <;> by_cases h2 : a = b <;> simp [h1, h2]
@[simp] theorem e_gEqT (a b : List Int) : gEq [.fz (.tuple (zs a)), .fz (.tuple (zs b))] = some (.fz (.bool (decide (a = b)))) := by
  show (if (SeqAt.shaped (.tuple (zs a)) && SeqAt.shaped (.tuple (zs b))) = true then some (Cl.fz (.bool (PyData.eqvAll (zs a) (zs b)))) else none) = _
  rw [sh_tup, sh_tup, eqv_zs]
  rfl
@[simp] theorem e_gNeT (a b : List Int) : gNe [.fz (.tuple (zs a)), .fz (.tuple (zs b))] = some (.fz (.bool (!decide (a = b)))) := by
  show (if (SeqAt.shaped (.tuple (zs a)) && SeqAt.shaped (.tuple (zs b))) = true then some (Cl.fz (.bool (!PyData.eqvAll (zs a) (zs b)))) else none) = _
  rw [sh_tup, sh_tup, eqv_zs]
  rfl
@[simp] theorem e_gEqT0 (a : List Int) : gEq [.fz (.tuple (zs a)), .fz (.tuple [])] = some (.fz (.bool (decide (a = [])))) := e_gEqT a []
@[simp] theorem e_gNeT0 (a : List Int) : gNe [.fz (.tuple (zs a)), .fz (.tuple [])] = some (.fz (.bool (!decide (a = [])))) := e_gNeT a []
theorem zs_nil : zs [] = [] := rfl
theorem zs_cons (x : Int) (ns : List Int) : zs (x :: ns) = .int x :: zs ns := rfl
theorem zs_app (a b : List Int) : zs (a ++ b) = zs a ++ zs b := List.map_append
theorem atI_neg1 (ns : List Int) : atI (zs ns) (-1) = ns.getLast?.map PyData.int := by
  by_cases h : ns = []
  · subst h; rfl
  · have e : ns.dropLast ++ [ns.getLast h] = ns := List.dropLast_concat_getLast h
    rw [List.getLast?_eq_getLast h]
    have := atI_last (zs ns.dropLast) (.int (ns.getLast h))
    rw [show zs ns.dropLast ++ [.int (ns.getLast h)] = zs (ns.dropLast ++ [ns.getLast h]) from (zs_app ns.dropLast [ns.getLast h]).symm, e] at this
    exact this
theorem gEqLL (c1 c2 : Cl) (a b : List Int) (h1 : c1.data = some (.list (zs a))) (h2 : c2.data = some (.list (zs b))) : gEq [c1, c2] = some (.fz (.bool (decide (a = b)))) := by
  show (match c1.data, c2.data with
    | some d, some e => if (SeqAt.shaped d && SeqAt.shaped e) = true then some (Cl.fz (.bool (PyData.eqv d e))) else none
    | _, _ => none) = _
  rw [h1, h2]
  show (if (SeqAt.shaped (.list (zs a)) && SeqAt.shaped (.list (zs b))) = true then some (Cl.fz (.bool (PyData.eqvAll (zs a) (zs b)))) else none) = _
  rw [sh_lst, sh_lst, eqv_zs]
  rfl
@[simp] theorem e_gEqL (a b : List Int) : gEq [.lst (zs a), .lst (zs b)] = some (.fz (.bool (decide (a = b)))) := gEqLL _ _ a b rfl rfl
@[simp] theorem e_gEqL0 (a : List Int) : gEq [.lst (zs a), .lst []] = some (.fz (.bool (decide (a = [])))) := gEqLL _ _ a [] rfl rfl
@[simp] theorem e_gEqL00 : gEq [.lst [], .lst []] = some (.fz (.bool true)) := gEqLL _ _ [] [] rfl rfl
theorem smI_nat {n : Nat} (h : n ≤ 1000000) : smI (n : Int) = true := Nat.ble_eq_true_of_le (by omega)
theorem log2_lt {n k : Nat} (h : n < 2 ^ k) (hk : 0 < k) : n.log2 < k := by
  by_cases h0 : n = 0
  · subst h0
    exact hk
  · exact (Nat.log2_lt h0).mpr h
theorem mulOk {i j : Int} (h : i.natAbs < 2 ^ 64 ∨ j.natAbs < 2 ^ 64) : mulBad i j = false := by
  have key : ∀ x : Int, x.natAbs < 2 ^ 64 → decide (Builtin.Int.intBits x > shortFactorBits) = false := fun x hx => by
    refine decide_eq_false fun z => ?_
    unfold Builtin.Int.intBits shortFactorBits at z
    split at z
    · omega
    · have := log2_lt hx (by decide)
      omega
  unfold mulBad
  rcases h with h | h
  · rw [key i h]; rfl
  · rw [key j h, Bool.and_false]; rfl
theorem e_gMulI {i j : Int} (h : i.natAbs < 2 ^ 64 ∨ j.natAbs < 2 ^ 64) : gMul [.fz (.int i), .fz (.int j)] = some (.fz (.int (i * j))) := by
  show (if mulBad i j = true then none else some (Cl.fz (.int (i * j)))) = _
  rw [mulOk h]; rfl
theorem e_gModI {i j : Int} (h : j ≠ 0) : gMod [.fz (.int i), .fz (.int j)] = some (.fz (.int (i.fmod j))) := by
  show (if j = 0 then none else some (Cl.fz (.int (i.fmod j)))) = _
  rw [if_neg h]
theorem pylong_small {i j : Int} (h : j.natAbs < 2 ^ 9000) : Builtin.divisionGoesByPylong i j = false := by
  unfold Builtin.divisionGoesByPylong
  refine Bool.and_eq_false_imp.mpr fun z => ?_
  have z := of_decide_eq_true z
  dsimp only at z
  split at z
  · omega
  · have := log2_lt h (by decide)
    omega
theorem e_gFdivI {i j : Int} (h : j ≠ 0) (h2 : j.natAbs < 2 ^ 9000) : gFdiv [.fz (.int i), .fz (.int j)] = some (.fz (.int (i.fdiv j))) := by
  show (if (decide (j ≠ 0) && !Builtin.divisionGoesByPylong i j) = true then some (Cl.fz (.int (i.fdiv j))) else none) = _
  rw [pylong_small h2, decide_eq_true h]; rfl
theorem rep1 {α : Type} (x : α) : ∀ k : Nat, (List.replicate k [x]).flatten = List.replicate k x
  | 0 => rfl
  | k + 1 => by
    rw [List.replicate_succ, List.flatten_cons, rep1 x k, List.replicate_succ]; rfl
theorem zs_rep (x : Int) (k : Nat) : zs (List.replicate k x) = List.replicate k (.int x) := List.map_replicate
theorem e_gRep {x k : Int} (h1 : -10000000 ≤ k) (h2 : k ≤ 10000000) : gMul [.lst [.int x], .fz (.int k)] = some (.lst (zs (List.replicate k.toNat x))) := by
  show (if (Nat.ble k.natAbs 10000000 && lsz ([PyData.int x].length * k.toNat)) = true then some (Cl.lst (List.replicate k.toNat [PyData.int x]).flatten) else none) = _
  have e : (Nat.ble k.natAbs 10000000 && lsz ([PyData.int x].length * k.toNat)) = true := by
    unfold lsz
    rw [Bool.and_eq_true]
    refine ⟨Nat.ble_eq_true_of_le (by omega), decide_eq_true ?_⟩
    show 1 * k.toNat ≤ _
    omega
  rw [if_pos e, rep1, zs_rep]
theorem wh_step {t : Fn Bool} {f : FS} {n m : Nat} {ρ ρ1 ρ2 : En} (h1 : t n ρ = some (.ok true ρ1)) (h2 : f n ρ1 = some (.nx ρ2)) : whF t f n (m + 1) ρ = whF t f n m ρ2 := by
  show (bS (t n ρ) fun c ρ1 => if c = true then (match f n ρ1 with
      | some (.nx ρ2) => whF t f n m ρ2
      | some (.ct ρ2) => whF t f n m ρ2
      | some (.bk ρ2) => some (.nx ρ2)
      | some (.rt c ρ2) => some (.rt c ρ2)
      | some (.ex x ρ2) => some (.ex x ρ2)
      | none => none) else some (.nx ρ1)) = _
  rw [h1, bS_ok, if_pos rfl, h2]
theorem wh_stop {t : Fn Bool} {f : FS} {n m : Nat} {ρ ρ1 : En} (h1 : t n ρ = some (.ok false ρ1)) : whF t f n (m + 1) ρ = some (.nx ρ1) := by
  show (bS (t n ρ) fun c ρ1 => if c = true then (match f n ρ1 with
      | some (.nx ρ2) => whF t f n m ρ2
      | some (.ct ρ2) => whF t f n m ρ2
      | some (.bk ρ2) => some (.nx ρ2)
      | some (.rt c ρ2) => some (.rt c ρ2)
      | some (.ex x ρ2) => some (.ex x ρ2)
      | none => none) else some (.nx ρ1)) = _
  rw [h1, bS_ok, if_neg Bool.false_ne_true]
theorem for_step {g : FG} {f : FS} {n : Nat} {d : D} {ds : List D} {ρ ρ1 ρ2 : En} (h1 : g d ρ = some ρ1) (h2 : f n ρ1 = some (.nx ρ2)) : forF g f n (d :: ds) ρ = forF g f n ds ρ2 := by
  rw [forF, h1]
  dsimp only
  rw [h2]
theorem for_ex {g : FG} {f : FS} {n : Nat} {d : D} {ds : List D} {ρ ρ1 ρ2 : En} {x : Ex} (h1 : g d ρ = some ρ1) (h2 : f n ρ1 = some (.ex x ρ2)) : forF g f n (d :: ds) ρ = some (.ex x ρ2) := by
  rw [forF, h1]
  dsimp only
  rw [h2]
theorem for_rt {g : FG} {f : FS} {n : Nat} {d : D} {ds : List D} {ρ ρ1 ρ2 : En} {c : Cl} (h1 : g d ρ = some ρ1) (h2 : f n ρ1 = some (.rt c ρ2)) : forF g f n (d :: ds) ρ = some (.rt c ρ2) := by
  rw [forF, h1]
  dsimp only
  rw [h2]
theorem lc_step {N : Nat} {g : FG} {e : Fn Bv} {vs : List Nat} {n : Nat} {d y : D} {ds acc : List D} {ρ ρ2 ρ4 ρ5 : En} (h1 : g d ρ = some ρ2) (h2 : ρ2.length = N) (h3 : fFz e n ρ2 = some (.ok (.fz y) ρ4)) (h5 : wipR ρ4 vs = ρ5) : lcF N g fYes e vs n (d :: ds) ρ acc = lcF N g fYes e vs n ds ρ5 (acc ++ [y]) := by
  rw [lcF, h1]
  dsimp only
  rw [if_pos h2]
  show (match fFz e n ρ2 with
        | some (.ok (.fz y) ρ4) => lcF N g fYes e vs n ds (wipR ρ4 vs) (acc ++ [y])
        | _ => none) = _
  rw [h3, ← h5]
theorem lc_stepT {N : Nat} {g : FG} {t : Fn Bool} {e : Fn Bv} {vs : List Nat} {n : Nat} {d y : D} {ds acc : List D} {ρ ρ2 ρ3 ρ4 ρ5 : En} (h1 : g d ρ = some ρ2) (h2 : ρ2.length = N) (ht : t n ρ2 = some (.ok true ρ3)) (h3 : fFz e n ρ3 = some (.ok (.fz y) ρ4)) (h5 : wipR ρ4 vs = ρ5) : lcF N g t e vs n (d :: ds) ρ acc = lcF N g t e vs n ds ρ5 (acc ++ [y]) := by
  rw [lcF, h1]
  dsimp only
  rw [if_pos h2, ht]
  dsimp only
  rw [h3, ← h5]
theorem lc_stepF {N : Nat} {g : FG} {t : Fn Bool} {e : Fn Bv} {vs : List Nat} {n : Nat} {d : D} {ds acc : List D} {ρ ρ2 ρ3 ρ5 : En} (h1 : g d ρ = some ρ2) (h2 : ρ2.length = N) (ht : t n ρ2 = some (.ok false ρ3)) (h5 : wipR ρ3 vs = ρ5) : lcF N g t e vs n (d :: ds) ρ acc = lcF N g t e vs n ds ρ5 acc := by
  rw [lcF, h1]
  dsimp only
  rw [if_pos h2, ht, ← h5]
theorem e_gFdivS {i j : Int} (h : j ≠ 0) (h2 : j.natAbs < 2 ^ 64) : gFdiv [.fz (.int i), .fz (.int j)] = some (.fz (.int (i.fdiv j))) :=
  e_gFdivI h (Nat.lt_of_lt_of_le h2 (Nat.pow_le_pow_right (Nat.zero_lt_succ 1) (by omega)))
/-- a loop by an invariant over what it has taken -/
theorem forF_inv {g : FG} {f : FS} {n : Nat} (I : List D → En → Prop) (tot : List D) (step : ∀ pre d post ρ, pre ++ d :: post = tot → I pre ρ → ∃ ρ1 ρ2, g d ρ = some ρ1 ∧ (f n ρ1 = some (.nx ρ2) ∨ f n ρ1 = some (.ct ρ2)) ∧ I (pre ++ [d]) ρ2) :
    ∀ (ds pre : List D) (ρ : En), pre ++ ds = tot → I pre ρ → ∃ ρ', forF g f n ds ρ = some (.nx ρ') ∧ I tot ρ'
  | [], pre, ρ, e, h => ⟨ρ, rfl, by rw [List.append_nil] at e; rw [← e]; exact h⟩
  | d :: ds, pre, ρ, e, h => by
    obtain ⟨ρ1, ρ2, h1, h2, h3⟩ := step pre d ds ρ e h
    obtain ⟨ρ', h4, h5⟩ := forF_inv I tot step ds (pre ++ [d]) ρ2 (by rw [List.append_assoc]; exact e) h3
    refine ⟨ρ', ?_, h5⟩
    unfold forF
    rw [h1]
    dsimp only
    rcases h2 with h2 | h2 <;> rw [h2] <;> exact h4
theorem for_inv {g : FG} {f : FS} {n : Nat} {ds : List D} {ρ : En} (I : List D → En → Prop) (h : I [] ρ) (step : ∀ pre d post ρ, pre ++ d :: post = ds → I pre ρ → ∃ ρ1 ρ2, g d ρ = some ρ1 ∧ (f n ρ1 = some (.nx ρ2) ∨ f n ρ1 = some (.ct ρ2)) ∧ I (pre ++ [d]) ρ2) : ∃ ρ', forF g f n ds ρ = some (.nx ρ') ∧ I ds ρ' :=
  forF_inv I ds step ds [] ρ rfl h
/-- a comprehension by an invariant over what it has taken and made -/
theorem lcF_inv {N : Nat} {g : FG} {t : Fn Bool} {e : Fn Bv} {vs : List Nat} {n : Nat} (I : List D → List D → En → Prop) (tot : List D)
    (step : ∀ pre d post acc ρ, pre ++ d :: post = tot → I pre acc ρ → ∃ ρ2, g d ρ = some ρ2 ∧ ρ2.length = N ∧ ((∃ ρ3 y ρ4, t n ρ2 = some (.ok true ρ3) ∧ fFz e n ρ3 = some (.ok (.fz y) ρ4) ∧ I (pre ++ [d]) (acc ++ [y]) (wipR ρ4 vs)) ∨ (∃ ρ3, t n ρ2 = some (.ok false ρ3) ∧ I (pre ++ [d]) acc (wipR ρ3 vs)))) :
    ∀ (ds pre : List D) (acc : List D) (ρ : En), pre ++ ds = tot → I pre acc ρ → ∃ acc' ρ', lcF N g t e vs n ds ρ acc = some (.ok (.lst acc') ρ') ∧ I tot acc' ρ'
  | [], pre, acc, ρ, e, h => ⟨acc, ρ, rfl, by rw [List.append_nil] at e; rw [← e]; exact h⟩
  | d :: ds, pre, acc, ρ, e, h => by
    obtain ⟨ρ2, h1, h2, h3⟩ := step pre d ds acc ρ e h
    unfold lcF
    rw [h1]
    dsimp only
    rw [if_pos h2]
    rcases h3 with ⟨ρ3, y, ρ4, h4, h5, h6⟩ | ⟨ρ3, h4, h6⟩
    · rw [h4]
      dsimp only
      rw [h5]
      exact lcF_inv I tot step ds (pre ++ [d]) (acc ++ [y]) _ (by rw [List.append_assoc]; exact e) h6
    · rw [h4]
      exact lcF_inv I tot step ds (pre ++ [d]) acc _ (by rw [List.append_assoc]; exact e) h6
theorem lc_inv {N : Nat} {g : FG} {t : Fn Bool} {e : Fn Bv} {vs : List Nat} {n : Nat} {ds : List D} {ρ : En} (I : List D → List D → En → Prop) (h : I [] [] ρ)
    (step : ∀ pre d post acc ρ, pre ++ d :: post = ds → I pre acc ρ → ∃ ρ2, g d ρ = some ρ2 ∧ ρ2.length = N ∧ ((∃ ρ3 y ρ4, t n ρ2 = some (.ok true ρ3) ∧ fFz e n ρ3 = some (.ok (.fz y) ρ4) ∧ I (pre ++ [d]) (acc ++ [y]) (wipR ρ4 vs)) ∨ (∃ ρ3, t n ρ2 = some (.ok false ρ3) ∧ I (pre ++ [d]) acc (wipR ρ3 vs)))) :
    ∃ acc' ρ', lcF N g t e vs n ds ρ [] = some (.ok (.lst acc') ρ') ∧ I ds acc' ρ' := lcF_inv I ds step ds [] [] ρ rfl h
/-- a comprehension that changes nothing beside its own slots -/
theorem lc_map {N : Nat} {g : FG} {e : Fn Bv} {vs : List Nat} {n : Nat} {ρ : En} (φ : D → D) : ∀ (ds acc : List D), (∀ d ∈ ds, ∃ ρ2 ρ4, g d ρ = some ρ2 ∧ ρ2.length = N ∧ fFz e n ρ2 = some (.ok (.fz (φ d)) ρ4) ∧ wipR ρ4 vs = ρ) → lcF N g fYes e vs n ds ρ acc = some (.ok (.lst (acc ++ ds.map φ)) ρ)
  | [], acc, _ => by
    unfold lcF
    rw [List.map_nil, List.append_nil]
  | d :: ds, acc, h => by
    obtain ⟨ρ2, ρ4, h1, h2, h3, h4⟩ := h d List.mem_cons_self
    unfold lcF
    rw [h1]
    dsimp only
    rw [if_pos h2]
    show (match fFz e n ρ2 with
        | some (.ok (.fz y) ρ4) => lcF N g fYes e vs n ds (wipR ρ4 vs) (acc ++ [y])
        | _ => none) = _
    rw [h3]
    dsimp only
    rw [h4, lc_map φ ds (acc ++ [φ d]) fun d hd => h d (List.mem_cons_of_mem _ hd), List.append_assoc]
    rfl
@[simp] theorem e_fOf (f : Fn Cl) (n : Nat) (ρ : En) : fOf f n ρ = (bnd (f n ρ) fun c ρ' => some (.ok (.vl c) ρ')) := rfl
@[simp] theorem e_fPl (i : Nat) (n0 : Nat) (ρ : En) : fPl i n0 ρ = (if ((ρ[i]?).join).isSome then some (.ok (.pl i) ρ) else none) := rfl
@[simp] theorem e_fNil (n0 : Nat) (ρ : En) : fNil  n0 ρ = (some (.ok [] ρ)) := rfl
@[simp] theorem e_fCons (f : Fn Bv) (g : Fn (List Bv)) (n : Nat) (ρ : En) : fCons f g n ρ = (bnd (f n ρ) fun b ρ1 => bnd (g n ρ1) fun bs ρ2 => some (.ok (b :: bs) ρ2)) := rfl
@[simp] theorem e_fPr (f : Fn (List Bv)) (g : List Cl → Option Cl) (n : Nat) (ρ : En) : fPr f g n ρ = (bnd (f n ρ) fun bs ρ1 => match lks ρ1 bs with
    | some cs => match g cs with
      | some c => some (.ok c ρ1)
      | none => none
    | none => none) := rfl
@[simp] theorem e_fFz (f : Fn Bv) (n : Nat) (ρ : En) : fFz f n ρ = (bnd (f n ρ) fun b ρ1 => match fzB ρ1 b with
    | some (d, ρ2) => some (.ok (.fz d) ρ2)
    | none => none) := rfl
@[simp] theorem e_fMv (i : Nat) (n0 : Nat) (ρ : En) : fMv i n0 ρ = (match (ρ[i]?).join with
    | some c => some (.ok c (ρ.set i none))
    | none => none) := rfl
@[simp] theorem e_fC (d : D) (n0 : Nat) (ρ : En) : fC d n0 ρ = (some (.ok (.fz d) ρ)) := rfl
@[simp] theorem e_fTup (f : Fn (List Bv)) (n : Nat) (ρ : En) : fTup f n ρ = (bnd (f n ρ) fun bs ρ1 => match fzBs ρ1 bs with
    | some (ds, ρ2) => if ds.length ≤ 1000 then some (.ok (.fz (.tuple ds)) ρ2) else none
    | none => none) := rfl
@[simp] theorem e_fLst (f : Fn (List Bv)) (n : Nat) (ρ : En) : fLst f n ρ = (bnd (f n ρ) fun bs ρ1 => match fzBs ρ1 bs with
    | some (ds, ρ2) => if ds.length ≤ 1000 then some (.ok (.lst ds) ρ2) else none
    | none => none) := rfl
@[simp] theorem e_fTst (f : Fn Cl) (n : Nat) (ρ : En) : fTst f n ρ = (bnd (f n ρ) fun c ρ1 => match asB c with
    | some b => some (.ok b ρ1)
    | none => none) := rfl
@[simp] theorem e_fAnd (t u : Fn Bool) (n : Nat) (ρ : En) : fAnd t u n ρ = (bnd (t n ρ) fun c ρ1 => if c = true then u n ρ1 else some (.ok false ρ1)) := rfl
@[simp] theorem e_fOr (t u : Fn Bool) (n : Nat) (ρ : En) : fOr t u n ρ = (bnd (t n ρ) fun c ρ1 => if c = true then some (.ok true ρ1) else u n ρ1) := rfl
@[simp] theorem e_fNot (t : Fn Bool) (n : Nat) (ρ : En) : fNot t n ρ = (bnd (t n ρ) fun c ρ1 => some (.ok (!c) ρ1)) := rfl
@[simp] theorem e_fBv (t : Fn Bool) (n : Nat) (ρ : En) : fBv t n ρ = (bnd (t n ρ) fun c ρ1 => some (.ok (.fz (.bool c)) ρ1)) := rfl
@[simp] theorem e_fAndV (f : Fn Cl) (g : Fn Cl) (n : Nat) (ρ : En) : fAndV f g n ρ = (bnd (fTst f n ρ) fun c ρ1 => if c = true then g n ρ1 else some (.ok (.fz (.bool false)) ρ1)) := rfl
@[simp] theorem e_fOrV (f : Fn Cl) (g : Fn Cl) (n : Nat) (ρ : En) : fOrV f g n ρ = (bnd (fTst f n ρ) fun c ρ1 => if c = true then some (.ok (.fz (.bool true)) ρ1) else g n ρ1) := rfl
@[simp] theorem e_fIf (t : Fn Bool) (f g : Fn Cl) (n : Nat) (ρ : En) : fIf t f g n ρ = (bnd (t n ρ) fun c ρ1 => if c = true then f n ρ1 else g n ρ1) := rfl
@[simp] theorem e_fCh (fa fb fc : Fn Bv) (g g' : List Cl → Option Cl) (n : Nat) (ρ : En) : fCh fa fb fc g g' n ρ = (bnd (fa n ρ) fun ba ρ0 => bnd (fb n ρ0) fun bb ρ1 => match lks ρ1 [ba, bb] with
    | some cs => match g cs with
      | some (.fz (.bool true)) => bnd (fc n ρ1) fun bc ρ2 => match lks ρ2 [bb, bc] with
        | some cs' => match g' cs' with
          | some c' => some (.ok c' ρ2)
          | none => none
        | none => none
      | some (.fz (.bool false)) => some (.ok (.fz (.bool false)) ρ1)
      | _ => none
    | none => none) := rfl
@[simp] theorem e_fFzs (f : Fn (List Bv)) (n : Nat) (ρ : En) : fFzs f n ρ = (bnd (f n ρ) fun bs ρ1 => match fzBs ρ1 bs with
    | some (ds, ρ2) => some (.ok ds ρ2)
    | none => none) := rfl
@[simp] theorem e_fISeq (f : Fn Bv) (n : Nat) (ρ : En) : fISeq f n ρ = (bnd (fFzs (fCons f fNil) n ρ) fun ds ρ1 => match ds with
    | [d] => match asSeq d with
      | some xs => some (.ok xs ρ1)
      | none => none
    | _ => none) := rfl
@[simp] theorem e_fIEnum (f : Fn Bv) (n : Nat) (ρ : En) : fIEnum f n ρ = (bnd (fISeq f n ρ) fun ds ρ1 => some (.ok (enumD 0 ds) ρ1)) := rfl
@[simp] theorem e_fIZip (f g : Fn Bv) (n : Nat) (ρ : En) : fIZip f g n ρ = (bnd (fFzs (fCons f (fCons g fNil)) n ρ) fun ds ρ1 => match ds with
    | [.list xs, .list ys] => some (.ok (zipD xs ys) ρ1)
    | [.tuple xs, .tuple ys] => some (.ok (zipD xs ys) ρ1)
    | _ => none) := rfl
@[simp] theorem e_fIR1 (f : Fn Bv) (n : Nat) (ρ : En) : fIR1 f n ρ = (bnd (fFzs (fCons f fNil) n ρ) fun ds ρ1 => match ds with
    | [.int j] => if smI j = true then some (.ok (rngD 0 j.toNat) ρ1) else none
    | _ => none) := rfl
@[simp] theorem e_fIR2 (f g : Fn Bv) (n : Nat) (ρ : En) : fIR2 f g n ρ = (bnd (fFzs (fCons f (fCons g fNil)) n ρ) fun ds ρ1 => match ds with
    | [.int i, .int j] => if (smI i && smI j) = true then some (.ok (rngD i (j - i).toNat) ρ1) else none
    | _ => none) := rfl
@[simp] theorem e_fIR3 (f g h : Fn Bv) (n : Nat) (ρ : En) : fIR3 f g h n ρ = (bnd (fFzs (fCons f (fCons g (fCons h fNil))) n ρ) fun ds ρ1 => match ds with
    | [.int i, .int j, .int c] => if (smI i && smI j && decide (c = -1)) = true then some (.ok (rngCD i (-1) (i - j).toNat) ρ1) else none
    | _ => none) := rfl
@[simp] theorem e_sNil (n0 : Nat) (ρ : En) : sNil  n0 ρ = (some (.nx ρ)) := rfl
@[simp] theorem e_sSeq (f g : FS) (n : Nat) (ρ : En) : sSeq f g n ρ = (match f n ρ with
    | some (.nx ρ1) => g n ρ1
    | o => o) := rfl
@[simp] theorem e_sExpr (f : Fn Bv) (n : Nat) (ρ : En) : sExpr f n ρ = (bS (f n ρ) fun _ ρ1 => some (.nx ρ1)) := rfl
@[simp] theorem e_sRet (f : Fn Cl) (n : Nat) (ρ : En) : sRet f n ρ = (bS (f n ρ) fun c ρ1 => some (.rt c ρ1)) := rfl
@[simp] theorem e_sIf (t : Fn Bool) (f g : FS) (n : Nat) (ρ : En) : sIf t f g n ρ = (bS (t n ρ) fun c ρ1 => if c = true then f n ρ1 else g n ρ1) := rfl
@[simp] theorem e_sSet (i : Nat) (f : Fn Cl) (n : Nat) (ρ : En) : sSet i f n ρ = (bS (f n ρ) fun c ρ1 => if i < ρ1.length then some (.nx (ρ1.set i (some c))) else none) := rfl
@[simp] theorem e_sPar (i j : Nat) (f g : Fn Cl) (n : Nat) (ρ : En) : sPar i j f g n ρ = (bS (f n ρ) fun c ρ1 => bS (g n ρ1) fun d ρ2 => if i < ρ2.length ∧ j < ρ2.length then some (.nx ((ρ2.set i (some c)).set j (some d))) else none) := rfl
@[simp] theorem e_sAsg (g : FG) (f : Fn Bv) (n : Nat) (ρ : En) : sAsg g f n ρ = (bS (fFz f n ρ) fun c ρ1 => match c with
    | .fz d => match g d ρ1 with
      | some ρ2 => some (.nx ρ2)
      | none => none
    | _ => none) := rfl
@[simp] theorem e_sFor (i : Fn (List D)) (g : FG) (f : FS) (n : Nat) (ρ : En) : sFor i g f n ρ = (bS (i n ρ) fun ds ρ1 => forF g f n ds ρ1) := rfl
@[simp] theorem e_sWh (t : Fn Bool) (f : FS) (n : Nat) (ρ : En) : sWh t f n ρ = (whF t f n n ρ) := rfl
@[simp] theorem e_fLc (N : Nat) (vs : List Nat) (i : Fn (List D)) (g : FG) (t : Fn Bool) (e : Fn Bv) (n : Nat) (ρ : En) : fLc N vs i g t e n ρ = (bnd (i n ρ) fun ds ρ1 =>
    if (vs.all (fun j => decide (j < N)) && decide (ρ1.length = N) && decide (ds.length ≤ 1000000)) = true then lcF N g t e vs n ds (wipR ρ1 vs) [] else none) := rfl
@[simp] theorem e_fYes (n0 : Nat) (ρ : En) : fYes  n0 ρ = (some (.ok true ρ)) := rfl
@[simp] theorem e_fCall (m : Mr) (f : Fn (List Bv)) (n : Nat) (ρ : En) : fCall m f n ρ = (bnd (f n ρ) fun bs ρ1 => match takeA ρ1 bs with
    | some (cs, ρ2) => match m cs with
      | some (.ok c outs) => some (.ok c (giveA ρ2 bs outs))
      | some (.ex x outs) => some (.ex x (giveA ρ2 bs outs))
      | none => none
    | none => none) := rfl
@[simp] theorem e_fCall0 (m : Mr) (n0 : Nat) (ρ : En) : fCall0 m n0 ρ = (match m [] with
    | some (.ok c _) => some (.ok c ρ)
    | _ => none) := rfl
@[simp] theorem e_sRaise (c : Str) (n0 : Nat) (ρ : En) : sRaise c n0 ρ = (some (.ex ⟨c, []⟩ ρ)) := rfl
@[simp] theorem e_sRaiseI (c : Str) (fs : List Str) (f : Fn (List Bv)) (n : Nat) (ρ : En) : sRaiseI c fs f n ρ = (bS (fFzs f n ρ) fun ds ρ1 => if ds.length = fs.length ∧ ds.length ≤ 100 then some (.ex ⟨c, mkFsD fs ds⟩ ρ1) else none) := rfl
@[simp] theorem e_fIsi (T : String) (f : Fn Bv) (n : Nat) (ρ : En) : fIsi T f n ρ = (bnd (fFz f n ρ) fun c ρ1 => match c with
    | .fz d => match isiD T d with
      | some b => some (.ok (.fz (.bool b)) ρ1)
      | none => none
    | _ => none) := rfl
@[simp] theorem e_fSlL (f g : Fn Bv) (n : Nat) (ρ : En) : fSlL f g n ρ = (bnd (f n ρ) fun b ρ1 => bnd (fFz g n ρ1) fun c ρ2 => match c, lk ρ2 b with
    | .fz (.int i), some cb => match gSl (some i) none cb with
      | some c' => some (.ok c' ρ2)
      | none => none
    | _, _ => none) := rfl
@[simp] theorem e_fSlU (f g : Fn Bv) (n : Nat) (ρ : En) : fSlU f g n ρ = (bnd (f n ρ) fun b ρ1 => bnd (fFz g n ρ1) fun c ρ2 => match c, lk ρ2 b with
    | .fz (.int i), some cb => match gSl none (some i) cb with
      | some c' => some (.ok c' ρ2)
      | none => none
    | _, _ => none) := rfl
@[simp] theorem e_dNil (n0 : Nat) (ρ : En) : dNil  n0 ρ = (some (.ok [] ρ)) := rfl
@[simp] theorem e_dCons (f : Fn Bv) (g : Fn (List D)) (n : Nat) (ρ : En) : dCons f g n ρ = (bnd (fFz f n ρ) fun c ρ1 => match c with
    | .fz d => bnd (g n ρ1) fun ds ρ2 => some (.ok (d :: ds) ρ2)
    | _ => none) := rfl
@[simp] theorem e_dStar (f : Fn Bv) (g : Fn (List D)) (n : Nat) (ρ : En) : dStar f g n ρ = (bnd (fFz f n ρ) fun c ρ1 => match c with
    | .fz d => match asSeq d with
      | some xs => bnd (g n ρ1) fun ds ρ2 => some (.ok (xs ++ ds) ρ2)
      | none => none
    | _ => none) := rfl
@[simp] theorem e_fLstD (f : Fn (List D)) (n : Nat) (ρ : En) : fLstD f n ρ = (bnd (f n ρ) fun ds ρ1 => if lsz ds.length = true then some (.ok (.lst ds) ρ1) else none) := rfl
@[simp] theorem e_fTupD (f : Fn (List D)) (n : Nat) (ρ : En) : fTupD f n ρ = (bnd (f n ρ) fun ds ρ1 => if lsz ds.length = true then some (.ok (.fz (.tuple ds)) ρ1) else none) := rfl
@[simp] theorem e_sTry (i : Nat) (fb : FS) (l : List ((Ex → Option Bool) × (Ex → FS))) (n : Nat) (ρ : En) : sTry i fb l n ρ = (match fb n ρ with
    | some (.ex x ρ1) => hdl i l x n ρ1
    | o => o) := rfl
@[simp] theorem e_sSetIx (k : Nat) (fe fi : Fn Bv) (n : Nat) (ρ : En) : sSetIx k fe fi n ρ = (bS (fFz fe n ρ) fun c ρ1 => match c with
    | .fz d => if ((ρ1[k]?).join).isSome = true then bS (fFz fi n ρ1) fun c2 ρ2 => match c2 with
      | .fz j => match setIx ρ2 k j d with
        | some ρ3 => some (.nx ρ3)
        | none => none
      | _ => none
    else none
    | _ => none) := rfl
@[simp] theorem e_sAugIx (k : Nat) (fi fe : Fn Bv) (g : D → D → Option D) (n : Nat) (ρ : En) : sAugIx k fi fe g n ρ = (if ((ρ[k]?).join).isSome = true then bS (fFz fi n ρ) fun c ρ1 => match c with
    | .fz j => match getIx ρ1 k j with
      | some a => bS (fFz fe n ρ1) fun c2 ρ2 => match c2 with
        | .fz b => match g a b with
          | some d => match setIx ρ2 k j d with
            | some ρ3 => some (.nx ρ3)
            | none => none
          | none => none
        | _ => none
      | none => none
    | _ => none
    else none) := rfl
@[simp] theorem e_sAug (k : Nat) (fe : Fn Bv) (g : D → D → Option D) (n : Nat) (ρ : En) : sAug k fe g n ρ = (match (ρ[k]?).join with
    | some (.fz a) => bS (fFz fe n ρ) fun c ρ1 => match c with
      | .fz b => match g a b with
        | some d => if k < ρ1.length then some (.nx (ρ1.set k (some (.fz d)))) else none
        | none => none
      | _ => none
    | _ => none) := rfl
@[simp] theorem e_fDct0 (n0 : Nat) (ρ : En) : fDct0  n0 ρ = (some (.ok (.dct []) ρ)) := rfl
@[simp] theorem e_fRevT (f : Fn Bv) (n : Nat) (ρ : En) : fRevT f n ρ = (bnd (fFz f n ρ) fun c ρ1 => match c with
    | .fz (.tuple ds) => some (.ok (.fz (.tuple ds.reverse)) ρ1)
    | _ => none) := rfl
@[simp] theorem e_fIsi2 (T U : String) (f : Fn Bv) (n : Nat) (ρ : En) : fIsi2 T U f n ρ = (bnd (fFz f n ρ) fun c ρ1 => match c with
    | .fz d => match isiD2 T U d with
      | some b => some (.ok (.fz (.bool b)) ρ1)
      | none => none
    | _ => none) := rfl
@[simp] theorem e_fMth (ok : Cl → Bool) (k : Nat) (f : Fn (List Bv)) (g : Cl → List D → Option (D × Cl)) (n : Nat) (ρ : En) : fMth ok k f g n ρ = (match (ρ[k]?).join with
    | some c0 => if ok c0 = true then bnd (fFzs f n ρ) fun as ρ1 => match (ρ1[k]?).join with
      | some c => match g c as with
        | some (d, c') => some (.ok (.fz d) (ρ1.set k (some c')))
        | none => none
      | none => none
    else none
    | none => none) := rfl
@[simp] theorem e_fDc (N : Nat) (vs : List Nat) (i : Fn (List D)) (g : FG) (t : Fn Bool) (ek ev : Fn Bv) (n : Nat) (ρ : En) : fDc N vs i g t ek ev n ρ = (bnd (i n ρ) fun ds ρ1 =>
    if (vs.all (fun j => decide (j < N)) && decide (ρ1.length = N) && decide (ds.length ≤ 1000000)) = true then dcF N g t ek ev vs n ds (wipR ρ1 vs) [] else none) := rfl
@[simp] theorem e_fIDct (k : Nat) (n : Nat) (ρ : En) : fIDct k n ρ = (match (ρ[k]?).join with
    | some (.dct es) => some (.ok (keysD es) (ρ.set k (some (.dlk es))))
    | some (.dlk es) => some (.ok (keysD es) ρ)
    | _ => none) := rfl
@[simp] theorem e_fDG (k : Nat) (f : Fn (List Bv)) (n : Nat) (ρ : En) : fDG k f n ρ = (match (ρ[k]?).join with
    | some c0 => if (dctE c0).isSome = true then bnd (fFzs f n ρ) fun as ρ1 => match (ρ1[k]?).join, as with
      | some c, [kd, dd] => match dctE c, keyD kd with
        | some es, some key => some (.ok (.fz ((getK es key).getD dd)) ρ1)
        | _, _ => none
      | _, _ => none
    else none
    | none => none) := rfl
@[simp] theorem e_sSetIxD (k : Nat) (fe fi : Fn Bv) (n : Nat) (ρ : En) : sSetIxD k fe fi n ρ = (bS (fFz fe n ρ) fun c ρ1 => match c with
    | .fz d => if ((ρ1[k]?).join).isSome = true then bS (fFz fi n ρ1) fun c2 ρ2 => match c2 with
      | .fz j => match setIxD ρ2 k j d with
        | some ρ3 => some (.nx ρ3)
        | none => none
      | _ => none
    else none
    | _ => none) := rfl
@[simp] theorem e_fRest (vs : List Nat) (f : Fn Cl) (n : Nat) (ρ : En) : fRest vs f n ρ = (match f n ρ with
    | some (.ok c ρ') => some (.ok c (restR ρ vs ρ'))
    | r => r) := rfl
@[simp] theorem e_sUnp (k n : Nat) (g : FGs) (n0 : Nat) (ρ : En) : sUnp k n g n0 ρ = (match (ρ[k]?).join with
    | some (.lst ds) => if ds.length = n then (match g ds ρ with
      | some ρ2 => some (.nx ρ2)
      | none => none) else none
    | _ => none) := rfl
@[simp] theorem e_fIStr (f : Fn Bv) (n : Nat) (ρ : En) : fIStr f n ρ = (bnd (fFz f n ρ) fun c ρ1 => match c with
    | .fz (.str x) => some (.ok (signsD x) ρ1)
    | _ => none) := rfl
@[simp] theorem e_fMvS (f0 : Fn Bv) (fs : Fn (List Bv)) (g : Str → List D → Option Cl) (n : Nat) (ρ : En) : fMvS f0 fs g n ρ = (bnd (fFz f0 n ρ) fun c ρ1 => match c with
    | .fz (.str x) => bnd (fFzs fs n ρ1) fun as ρ2 => match g x as with
      | some r => some (.ok r ρ2)
      | none => none
    | _ => none) := rfl
@[simp] theorem e_fDct1 (f g : Fn Bv) (n : Nat) (ρ : En) : fDct1 f g n ρ = (bnd (fFz f n ρ) fun c1 ρ1 => bnd (fFz g n ρ1) fun c2 ρ2 => match c1, c2 with
    | .fz kd, .fz d => match keyD kd with
      | some k => some (.ok (.dct [(k, d)]) ρ2)
      | none => none
    | _, _ => none) := rfl
@[simp] theorem e_fBx (f : Fn Bv) (k : Nat) (n : Nat) (ρ : En) : fBx f k n ρ = (bnd (fFz f n ρ) fun c ρ1 => match c, (ρ1[k]?).join with
    | .fz d, some (.dct es) => some (.ok (.bx d es) (ρ1.set k none))
    | _, _ => none) := rfl
@[simp] theorem e_sUnb (i j : Nat) (f : Fn Cl) (n : Nat) (ρ : En) : sUnb i j f n ρ = (bS (f n ρ) fun c ρ1 => match c with
    | .bx d es => if i < ρ1.length ∧ j < ρ1.length ∧ i ≠ j then some (.nx ((ρ1.set i (some (.fz d))).set j (some (.dct es)))) else none
    | _ => none) := rfl
@[simp] theorem e_fStep (f g : Fn Bv) (n : Nat) (ρ : En) : fStep f g n ρ = (bnd (fFz f n ρ) fun c ρ1 => bnd (fFz g n ρ1) fun c2 ρ2 => match c, c2 with
    | .fz (.tuple ds), .fz (.int k) => if 2 ≤ k then some (.ok (.fz (.tuple (evL k.toNat ds))) ρ2) else none
    | _, _ => none) := rfl
@[simp] theorem e_fLstRg (f g : Fn Bv) (n : Nat) (ρ : En) : fLstRg f g n ρ = (bnd (fFz f n ρ) fun c ρ1 => bnd (fFz g n ρ1) fun c2 ρ2 => match c, c2 with
    | .fz (.int i), .fz (.int j) => if (Nat.ble i.natAbs 1000000 && Nat.ble j.natAbs 1000000) = true then some (.ok (.lst (rngD i (j - i).toNat)) ρ2) else none
    | _, _ => none) := rfl
@[simp] theorem e_fIEnumZ (f g : Fn Bv) (n : Nat) (ρ : En) : fIEnumZ f g n ρ = (bnd (fFzs (fCons f (fCons g fNil)) n ρ) fun ds ρ1 => match ds with
    | [.list xs, .list ys] => some (.ok (enumD 0 (zipD xs ys)) ρ1)
    | _ => none) := rfl
@[simp] theorem e_fLc2 (N : Nat) (vs vs1 : List Nat) (i : Fn (List D)) (g : FG) (i1 : Fn (List D)) (g1 : FG) (e : Fn Bv) (n : Nat) (ρ : En) : fLc2 N vs vs1 i g i1 g1 e n ρ = (bnd (i n ρ) fun ds ρ1 =>
    if ((vs.all (fun j => decide (j < N)) && vs1.all (fun j => vs.contains j)) && decide (ρ1.length = N)) = true then lcF2 N g i1 g1 e vs vs1 n ds (wipR ρ1 vs) [] else none) := rfl
@[simp] theorem e_fDctT0 (n0 : Nat) (ρ : En) : fDctT0  n0 ρ = (some (.ok (.dtt []) ρ)) := rfl
@[simp] theorem e_sSetIxT (k : Nat) (fe fi : Fn Bv) (n : Nat) (ρ : En) : sSetIxT k fe fi n ρ = (bS (fFz fe n ρ) fun c ρ1 => match c with
    | .fz d => if ((ρ1[k]?).join).isSome = true then bS (fFz fi n ρ1) fun c2 ρ2 => match c2 with
      | .fz j => match setIxT ρ2 k j d with
        | some ρ3 => some (.nx ρ3)
        | none => none
      | _ => none
    else none
    | _ => none) := rfl
@[simp] theorem e_fIDctT (k : Nat) (n : Nat) (ρ : En) : fIDctT k n ρ = (match (ρ[k]?).join with
    | some (.dtt es) => some (.ok (keysT es) (ρ.set k (some (.dlt es))))
    | some (.dlt es) => some (.ok (keysT es) ρ)
    | _ => none) := rfl
end L3

namespace L3
open PySem PySem.Spec L2
/-! ### answers compared by a check that the kernel runs -/
mutual
def deq : D → D → Bool
  | .none, .none => true
  | .bool a, .bool b => a == b
  | .int a, .int b => decide (a = b)
  | .str a, .str b => decide (a = b)
  | .list a, .list b => deqs a b
  | .tuple a, .tuple b => deqs a b
  | .dict a, .dict b => deqp a b
  | _, _ => false
def deqs : List D → List D → Bool
  | [], [] => true
  | a :: as, b :: bs => deq a b && deqs as bs
  | _, _ => false
def deqp : List (D × D) → List (D × D) → Bool
  | [], [] => true
  | (a, x) :: as, (b, y) :: bs => deq a b && (deq x y && deqp as bs)
  | _, _ => false
end
mutual
theorem deq_of : ∀ a b : D, deq a b = true → a = b
  | .none, b, h => by
    cases b <;> first | rfl | (exact absurd h (by simp [deq]))
  | .bool x, b, h => by
    cases b with
    | bool y => simp [deq] at h; rw [h]
    | _ => exact absurd h (by simp [deq])
  | .int x, b, h => by
    cases b with
    | int y => simp [deq] at h; rw [h]
    | _ => exact absurd h (by simp [deq])
  | .str x, b, h => by
    cases b with
    | str y => simp [deq] at h; rw [h]
    | _ => exact absurd h (by simp [deq])
  | .list x, b, h => by
    cases b with
    | list y => rw [deq] at h; rw [deqs_of x y h]
    | _ => exact absurd h (by simp [deq])
  | .tuple x, b, h => by
    cases b with
    | tuple y => rw [deq] at h; rw [deqs_of x y h]
    | _ => exact absurd h (by simp [deq])
  | .dict x, b, h => by
    cases b with
    | dict y => rw [deq] at h; rw [deqp_of x y h]
    | _ => exact absurd h (by simp [deq])
theorem deqs_of : ∀ a b : List D, deqs a b = true → a = b
  | [], b, h => by
    cases b <;> first | rfl | (exact absurd h (by simp [deqs]))
  | x :: xs, b, h => by
    cases b with
    | nil => exact absurd h (by simp [deqs])
    | cons y ys =>
      rw [deqs, Bool.and_eq_true] at h
      rw [deq_of x y h.1, deqs_of xs ys h.2]
theorem deqp_of : ∀ a b : List (D × D), deqp a b = true → a = b
  | [], b, h => by
    cases b <;> first | rfl | (exact absurd h (by simp [deqp]))
  | (x, u) :: xs, b, h => by
    cases b with
    | nil => exact absurd h (by simp [deqp])
    | cons y ys =>
      obtain ⟨y, v⟩ := y
      rw [deqp, Bool.and_eq_true, Bool.and_eq_true] at h
      rw [deq_of x y h.1, deq_of u v h.2.1, deqp_of xs ys h.2.2]
end
def ceq : Cl → Cl → Bool
  | .fz a, .fz b => deq a b
  | .lst a, .lst b => deqs a b
  | _, _ => false
theorem ceq_of : ∀ a b : Cl, ceq a b = true → a = b := fun a b h => by
  unfold ceq at h
  split at h
  · rw [deq_of _ _ h]
  · rw [deqs_of _ _ h]
  · cases h
def oeq : List (Option Cl) → List (Option Cl) → Bool
  | [], [] => true
  | none :: as, none :: bs => oeq as bs
  | some a :: as, some b :: bs => ceq a b && oeq as bs
  | _, _ => false
theorem oeq_of : ∀ a b : List (Option Cl), oeq a b = true → a = b
  | [], b, h => by
    cases b <;> first | rfl | (exact absurd h (by simp [oeq]))
  | none :: as, b, h => by
    cases b with
    | nil => exact absurd h (by simp [oeq])
    | cons y ys =>
      cases y with
      | none => rw [oeq] at h; rw [oeq_of as ys h]
      | some _ => exact absurd h (by simp [oeq])
  | some a :: as, b, h => by
    cases b with
    | nil => exact absurd h (by simp [oeq])
    | cons y ys =>
      cases y with
      | none => exact absurd h (by simp [oeq])
      | some y =>
        rw [oeq, Bool.and_eq_true] at h
        rw [ceq_of a y h.1, oeq_of as ys h.2]
def fseq : List (Str × D) → List (Str × D) → Bool
  | [], [] => true
  | (s, a) :: as, (t, b) :: bs => decide (s = t) && (deq a b && fseq as bs)
  | _, _ => false
theorem fseq_of : ∀ a b : List (Str × D), fseq a b = true → a = b
  | [], b, h => by
    cases b <;> first | rfl | (exact absurd h (by simp [fseq]))
  | (s, a) :: as, b, h => by
    cases b with
    | nil => exact absurd h (by simp [fseq])
    | cons y ys =>
      obtain ⟨t, y⟩ := y
      rw [fseq, Bool.and_eq_true, Bool.and_eq_true] at h
      rw [of_decide_eq_true h.1, deq_of a y h.2.1, fseq_of as ys h.2.2]
def moB : Option Mo → Mo → Bool
  | some (.ok c o), .ok c2 o2 => ceq c c2 && oeq o o2
  | some (.ex x o), .ex x2 o2 => decide (x.cls = x2.cls) && (fseq x.fs x2.fs && oeq o o2)
  | _, _ => false
theorem mo_of {a : Option Mo} {b : Mo} (h : moB a b = true) : a = some b := by
  unfold moB at h
  split at h
  · rw [Bool.and_eq_true] at h
    rw [ceq_of _ _ h.1, oeq_of _ _ h.2]
  · rename_i x o x2 o2
    rw [Bool.and_eq_true, Bool.and_eq_true] at h
    obtain ⟨c, f⟩ := x
    obtain ⟨c2, f2⟩ := x2
    have h1 : c = c2 := of_decide_eq_true h.1
    have h2 : f = f2 := fseq_of _ _ h.2.1
    rw [oeq_of _ _ h.2.2, h1, h2]
  · cases h
end L3

namespace L3
open PySem PySem.Spec L2
/-! ### what the defs are worth -/
def trim : List Int → List Int
  | [] => []
  | x :: xs => match trim xs with
    | [] => if x = 0 then [] else [x]
    | y :: ys => x :: y :: ys
def isF (v : D) (lo hi : Int) : Bool := match v with
  | .int x => decide (lo ≤ x) && decide (x ≤ hi)
  | _ => false
def FAR : Int := 1000000000
def badAt : Nat → List D → Option Nat
  | _, [] => none
  | k, d :: ds => if isF d (-FAR) FAR = true then badAt (k + 1) ds else some k
def chk (v : D) : Option D := match v with
  | .tuple ds => if 13 < ds.length then some .none else match badAt 0 ds with
    | some k => some (.int k)
    | none => match ds.getLast? with
      | some (.int 0) => some (.int (ds.length - 1 : Nat))
      | _ => none
  | _ => some .none
def bad (i : D) : Ex := ⟨"BadPoly", [("index", i)]⟩
def tupI : Cl → Option (List Int)
  | .fz (.tuple ds) => intsD ds
  | _ => none
def lstI : Cl → Option (List Int)
  | .lst ds => intsD ds
  | _ => none
abbrev T (ns : List Int) : Cl := .fz (.tuple (zs ns))
def cf (ns : List Int) (k : Nat) : Int := (ns[k]?).getD 0
def addL (a b : List Int) : List Int := (List.range (max a.length b.length)).map fun k => cf a k + cf b k
def bump (found : List Int) (k : Nat) (x : Int) : List Int := found.set k (cf found k + x)
def mulRow (found : List Int) (i : Nat) (x : Int) : Nat → List Int → List Int
  | _, [] => found
  | j, y :: ys => mulRow (bump found (i + j) (x * y)) i x (j + 1) ys
def mulAll (found : List Int) (b : List Int) : Nat → List Int → List Int
  | _, [] => found
  | i, x :: xs => mulAll (mulRow found i x 0 b) b (i + 1) xs
def mulL (a b : List Int) : List Int := if a = [] ∨ b = [] then [] else trim (mulAll (List.replicate (a.length + b.length - 1) 0) b 0 a)
def derL : Nat → List Int → List Int
  | _, [] => []
  | k, x :: xs => (k : Int) * x :: derL (k + 1) xs
def derivL (a : List Int) : List Int := trim ((derL 0 a).drop 1)
structure Rw where
  s : List Int
  p : Nat
  b : Int
  r : Int
def Rw.ds (x : Rw) : List D := [.list (zs x.s), .int x.p, .int x.b, .int x.r]
def m__law_draws : Mr
  | [.fz (.list ds)] => match intsD ds with
    | some ns => some (.ok (.lst (Rw.ds ⟨ns, 0, 0, 7⟩)) [some (.fz (.list ds))])
    | none => none
  | _ => none
def Rw.of : List D → Option Rw
  | [.list s, .int p, .int b, .int r] => match intsD s with
    | some ns => if 0 ≤ p then some ⟨ns, p.toNat, b, r⟩ else none
    | none => none
  | _ => none
def Rw.next (x : Rw) : Rw := if x.b = 0 then match x.s[x.p]? with
    | some c => if (10 : Int) ^ 18 ≤ c then ⟨x.s, x.p + 1, c, x.r⟩ else ⟨x.s, x.p + 1, x.b, (x.r * 48271 + c * 69621 + 11).fmod 2147483647⟩
    | none => ⟨x.s, x.p, x.b, (x.r * 48271 + 7).fmod 2147483647⟩
  else x
def Rw.pick (x : Rw) (many : Int) : Int × Rw := if 0 < x.next.b then (x.next.b.fmod many, { x.next with b := x.next.b.fdiv many }) else (((x.next.r * 16807).fmod 2147483629).fmod many, x.next)
def m__law_pick : Mr
  | [.lst ds, .fz (.int many)] => match Rw.of ds with
    | some x => if 0 < many ∧ many < 2 ^ 64 then some (.ok (.i (x.pick many).1) [some (.lst (x.pick many).2.ds), some (.i many)]) else none
    | none => none
  | _ => none
def m_law : Mr
  | [.fz (.list ds)] => match intsD ds with
    | some ns => some (.ok (.b true) [some (.fz (.list ds))])
    | none => none
  | _ => none
end L3

namespace L3
open PySem PySem.Spec L2
def m_check_rests : Mr := fun _ => none
def m_roots_by : Mr := fun _ => none
def m_reduced : Mr := fun _ => none
def m_power_of : Mr := fun _ => none
def m_many_roots : Mr := fun _ => none
def m_tree_of : Mr := fun _ => none
def g__law_draws : FS := (sRet (fLst (fCons (fOf (fPr (fCons (fPl 0) fNil) gList)) (fCons (fOf (fC (.int 0))) (fCons (fOf (fC (.int 0))) (fCons (fOf (fC (.int 7))) fNil))))))
def g__law_pick : FS := (sSeq (sIf (fTst (f2 (fOf (f2 (fPl 0) (fOf (fC (.int 2))) gIx)) (fOf (fC (.int 0))) gEq)) (sIf (fTst (f2 (fOf (f2 (fPl 0) (fOf (fC (.int 1))) gIx)) (fOf (fPr (fCons (fOf (f2 (fPl 0) (fOf (fC (.int 0))) gIx)) fNil) gLenA)) (gI fun i j => decide (i < j)))) (sSeq (sSet 2 (f2 (fOf (f2 (fPl 0) (fOf (fC (.int 0))) gIx)) (fOf (f2 (fPl 0) (fOf (fC (.int 1))) gIx)) gIx)) (sSeq (sSetIx 0 (fOf (f2 (fOf (f2 (fPl 0) (fOf (fC (.int 1))) gIx)) (fOf (fC (.int 1))) gAdd)) (fOf (fC (.int 1)))) (sIf (fTst (f2 (fPl 2) (fOf (f2 (fOf (fC (.int 10))) (fOf (fC (.int 18))) gPow)) (gI fun i j => decide (j ≤ i)))) (sSetIx 0 (fPl 2) (fOf (fC (.int 2)))) (sSetIx 0 (fOf (f2 (fOf (fPr (fCons (fOf (f2 (fOf (f2 (fOf (f2 (fOf (f2 (fPl 0) (fOf (fC (.int 3))) gIx)) (fOf (fC (.int 48271))) gMul)) (fOf (f2 (fPl 2) (fOf (fC (.int 69621))) gMul)) gAdd)) (fOf (fC (.int 11))) gAdd)) fNil) gInt)) (fOf (fC (.int 2147483647))) gMod)) (fOf (fC (.int 3))))))) (sSetIx 0 (fOf (f2 (fOf (fPr (fCons (fOf (f2 (fOf (f2 (fOf (f2 (fPl 0) (fOf (fC (.int 3))) gIx)) (fOf (fC (.int 48271))) gMul)) (fOf (fC (.int 7))) gAdd)) fNil) gInt)) (fOf (fC (.int 2147483647))) gMod)) (fOf (fC (.int 3))))) sNil) (sSeq (sIf (fTst (f2 (fOf (f2 (fPl 0) (fOf (fC (.int 2))) gIx)) (fOf (fC (.int 0))) (gI fun i j => decide (j < i)))) (sSeq (sSet 3 (f2 (fOf (fPr (fCons (fOf (f2 (fPl 0) (fOf (fC (.int 2))) gIx)) fNil) gInt)) (fPl 1) gMod)) (sSeq (sSetIx 0 (fOf (f2 (fOf (f2 (fPl 0) (fOf (fC (.int 2))) gIx)) (fPl 1) gFdiv)) (fOf (fC (.int 2)))) (sRet (fMv 3)))) sNil) (sRet (f2 (fOf (f2 (fOf (fPr (fCons (fOf (f2 (fOf (f2 (fPl 0) (fOf (fC (.int 3))) gIx)) (fOf (fC (.int 16807))) gMul)) fNil) gInt)) (fOf (fC (.int 2147483629))) gMod)) (fPl 1) gMod))))
def g_is_from : FS := (sRet (fAndV (fIsi "int" (fPl 0)) (fAndV (fBv (fNot (fTst (fIsi "bool" (fPl 0))))) (fCh (fPl 1) (fPl 0) (fPl 2) (gI fun i j => decide (i ≤ j)) (gI fun i j => decide (i ≤ j))))))
def m_is_from : Mr := fun cs => (g_is_from 1000 (startR 3 cs)).bind (fin [true, true, true])
theorem h_is_from : ∀ cs o, m_is_from cs = some o → ∃ n out, g_is_from n (startR 3 cs) = some out ∧ fin [true, true, true] out = some o := fun cs o h => ⟨1000, Option.bind_eq_some_iff.mp h⟩
def g_check_prime : FS := (sIf (fOr (fNot (fTst (fCall m_is_from (fCons (fPl 0) (fCons (fOf (fC (.int 2))) (fCons (fOf (f2 (fOf (fC (.tuple [.int 2, .int 3, .int 5, .int 7, .int 11, .int 13, .int 17, .int 19, .int 23, .int 29, .int 31]))) (fOf (f1 (fOf (fC (.int 1))) gNeg)) gIx)) fNil)))))) (fTst (f2 (fPl 0) (fOf (fC (.tuple [.int 2, .int 3, .int 5, .int 7, .int 11, .int 13, .int 17, .int 19, .int 23, .int 29, .int 31]))) (gIn true)))) (sRaise "BadPrime") sNil)
def m_check_prime : Mr := fun cs => (g_check_prime 1000 (startR 1 cs)).bind (fin [true])
theorem h_check_prime : ∀ cs o, m_check_prime cs = some o → ∃ n out, g_check_prime n (startR 1 cs) = some out ∧ fin [true] out = some o := fun cs o h => ⟨1000, Option.bind_eq_some_iff.mp h⟩
def g_unlike_by : FS := (sSeq (sExpr (fOf (fCall m_check_prime (fCons (fPl 0) fNil)))) (sSeq (sExpr (fOf (fCall m_check_rests (fCons (fPl 0) (fCons (fPl 1) fNil))))) (sSeq (sIf (fTst (f2 (fPl 1) (fOf (fTup fNil)) gEq)) (sRaise "Zero") sNil) (sRet (fCall m_roots_by (fCons (fPl 0) (fCons (fPl 1) fNil)))))))
def m_unlike_by : Mr := fun cs => (g_unlike_by 1000 (startR 2 cs)).bind (fin [true, true])
theorem h_unlike_by : ∀ cs o, m_unlike_by cs = some o → ∃ n out, g_unlike_by n (startR 2 cs) = some out ∧ fin [true, true] out = some o := fun cs o h => ⟨1000, Option.bind_eq_some_iff.mp h⟩
def g_check_power : FS := (sIf (fNot (fTst (fCall m_is_from (fCons (fPl 0) (fCons (fOf (fC (.int 1))) (fCons (fOf (fC (.int 12))) fNil)))))) (sRaise "BadNumber") sNil)
def m_check_power : Mr := fun cs => (g_check_power 1000 (startR 1 cs)).bind (fin [true])
theorem h_check_power : ∀ cs o, m_check_power cs = some o → ∃ n out, g_check_power n (startR 1 cs) = some out ∧ fin [true] out = some o := fun cs o h => ⟨1000, Option.bind_eq_some_iff.mp h⟩
def g_barred : FS := (sSeq (sExpr (fOf (fCall m_check_power (fCons (fPl 0) fNil)))) (sSeq (sExpr (fOf (fCall m_check_power (fCons (fPl 1) fNil)))) (sSeq (sExpr (fOf (fCall m_check_power (fCons (fPl 2) fNil)))) (sRet (f2 (fOf (f2 (fOf (f2 (fOf (f2 (fPl 1) (fPl 2) gMul)) (fOf (f2 (fPl 0) (fPl 2) gMul)) gAdd)) (fOf (f2 (fPl 0) (fPl 1) gMul)) gAdd)) (fOf (f2 (fOf (f2 (fPl 0) (fPl 1) gMul)) (fPl 2) gMul)) (gI fun i j => decide (i ≤ j)))))))
def m_barred : Mr := fun cs => (g_barred 1000 (startR 3 cs)).bind (fin [true, true, true])
theorem h_barred : ∀ cs o, m_barred cs = some o → ∃ n out, g_barred n (startR 3 cs) = some out ∧ fin [true, true, true] out = some o := fun cs o h => ⟨1000, Option.bind_eq_some_iff.mp h⟩
def g_is_point : FS := (sSeq (sIf (fOr (fNot (fTst (fIsi "tuple" (fPl 0)))) (fOr (fTst (f2 (fOf (fPr (fCons (fPl 0) fNil) gLenA)) (fOf (fC (.int 2))) gNe)) (fNot (fTst (fCall m_is_from (fCons (fOf (f2 (fPl 0) (fOf (fC (.int 0))) gIx)) (fCons (fOf (f1 (fOf (fC (.int 50))) gNeg)) (fCons (fOf (fC (.int 50))) fNil)))))))) (sRet (fC (.bool false))) sNil) (sRet (fCall m_is_from (fCons (fOf (f2 (fPl 0) (fOf (fC (.int 1))) gIx)) (fCons (fOf (f1 (fOf (fC (.int 1000))) gNeg)) (fCons (fOf (fC (.int 1000))) fNil))))))
def m_is_point : Mr := fun cs => (g_is_point 1000 (startR 1 cs)).bind (fin [true])
theorem h_is_point : ∀ cs o, m_is_point cs = some o → ∃ n out, g_is_point n (startR 1 cs) = some out ∧ fin [true] out = some o := fun cs o h => ⟨1000, Option.bind_eq_some_iff.mp h⟩
def cg_check_points_1 : FG := (gN 1)
def ck_check_points_1 : Fn Bv := (fOf (f2 (fPl 1) (fOf (fC (.int 0))) gIx))
def cv_check_points_1 : Fn Bv := (fOf (fC (.bool true)))
def cg_check_points_2 : FG := (gN 1)
def ce_check_points_1 : Fn Bv := (fOf (fCall m_is_point (fCons (fPl 1) fNil)))
def g_check_points : FS := (sSeq (sIf (fOr (fNot (fTst (fIsi2 "list" "tuple" (fPl 0)))) (fNot (fTst (fCh (fOf (fC (.int 1))) (fOf (fPr (fCons (fPl 0) fNil) gLenA)) (fOf (fC (.int 7))) (gI fun i j => decide (i ≤ j)) (gI fun i j => decide (i ≤ j)))))) (sRaise "BadPoints") sNil) (sIf (fOr (fNot (fTst (fPr (fCons (fOf (fLc 2 [1] (fISeq (fPl 0)) cg_check_points_2 fYes ce_check_points_1)) fNil) gAll))) (fTst (f2 (fOf (fPr (fCons (fOf (fDc 2 [1] (fISeq (fPl 0)) cg_check_points_1 fYes ck_check_points_1 cv_check_points_1)) fNil) gLenA)) (fOf (fPr (fCons (fPl 0) fNil) gLenA)) (gI fun i j => decide (i < j))))) (sRaise "BadPoints") sNil))
def m_check_points : Mr := fun cs => (g_check_points 1000 (startR 2 cs)).bind (fin [true])
theorem h_check_points : ∀ cs o, m_check_points cs = some o → ∃ n out, g_check_points n (startR 2 cs) = some out ∧ fin [true] out = some o := fun cs o h => ⟨1000, Option.bind_eq_some_iff.mp h⟩
def wt_trimmed_1 : Fn Bool := (fAnd (fTst (f2 (fPl 1) (fOf (fC (.int 0))) (gI fun i j => decide (j < i)))) (fTst (f2 (fOf (f2 (fPl 0) (fOf (f2 (fPl 1) (fOf (fC (.int 1))) gSub)) gIx)) (fOf (fC (.int 0))) gEq)))
def wb_trimmed_1 : FS := (sAug 1 (fOf (fC (.int 1))) (gIp fun i j => i - j))
def g_trimmed : FS := (sSeq (sSet 1 (fPr (fCons (fPl 0) fNil) gLenA)) (sSeq (sWh wt_trimmed_1 wb_trimmed_1) (sRet (fPr (fCons (fOf (fSlU (fPl 0) (fPl 1))) fNil) gTuple))))
def m_trimmed : Mr := fun cs => (g_trimmed 1000 (startR 2 cs)).bind (fin [true])
theorem h_trimmed : ∀ cs o, m_trimmed cs = some o → ∃ n out, g_trimmed n (startR 2 cs) = some out ∧ fin [true] out = some o := fun cs o h => ⟨1000, Option.bind_eq_some_iff.mp h⟩
def cg_plus_of_1 : FG := (gTp 2 (gsCons (gN 5) (gsCons (gN 6) gsNil)))
def ce_plus_of_1 : Fn Bv := (fOf (f2 (fPl 5) (fPl 6) gAdd))
def g_plus_of : FS := (sSeq (sSet 2 (fPr (fCons (fOf (fPr (fCons (fPl 0) fNil) gLenA)) (fCons (fOf (fPr (fCons (fPl 1) fNil) gLenA)) fNil)) gMax2)) (sSeq (sPar 3 4 (fLstD (dStar (fPl 0) (dStar (fOf (f2 (fOf (fLst (fCons (fOf (fC (.int 0))) fNil))) (fOf (f2 (fPl 2) (fOf (fPr (fCons (fPl 0) fNil) gLenA)) gSub)) gMul)) dNil))) (fLstD (dStar (fPl 1) (dStar (fOf (f2 (fOf (fLst (fCons (fOf (fC (.int 0))) fNil))) (fOf (f2 (fPl 2) (fOf (fPr (fCons (fPl 1) fNil) gLenA)) gSub)) gMul)) dNil)))) (sRet (fCall m_trimmed (fCons (fOf (fLc 7 [5, 6] (fIZip (fPl 3) (fPl 4)) cg_plus_of_1 fYes ce_plus_of_1)) fNil)))))
def m_plus_of : Mr := fun cs => (g_plus_of 1000 (startR 7 cs)).bind (fin [true, true])
theorem h_plus_of : ∀ cs o, m_plus_of cs = some o → ∃ n out, g_plus_of n (startR 7 cs) = some out ∧ fin [true, true] out = some o := fun cs o h => ⟨1000, Option.bind_eq_some_iff.mp h⟩
def cg_scaled_1 : FG := (gN 2)
def ce_scaled_1 : Fn Bv := (fOf (f2 (fPl 1) (fPl 2) gMul))
def g_scaled : FS := (sRet (fCall m_trimmed (fCons (fOf (fLc 3 [2] (fISeq (fPl 0)) cg_scaled_1 fYes ce_scaled_1)) fNil)))
def m_scaled : Mr := fun cs => (g_scaled 1000 (startR 3 cs)).bind (fin [true, true])
theorem h_scaled : ∀ cs o, m_scaled cs = some o → ∃ n out, g_scaled n (startR 3 cs) = some out ∧ fin [true, true] out = some o := fun cs o h => ⟨1000, Option.bind_eq_some_iff.mp h⟩
def gl_times_of_1 : FG := (gTp 2 (gsCons (gN 5) (gsCons (gN 6) gsNil)))
def bl_times_of_1 : FS := (sAugIx 2 (fOf (f2 (fPl 3) (fPl 5) gAdd)) (fOf (f2 (fPl 4) (fPl 6) gMul)) (gIp fun i j => i + j))
def gl_times_of_2 : FG := (gTp 2 (gsCons (gN 3) (gsCons (gN 4) gsNil)))
def bl_times_of_2 : FS := (sFor (fIEnum (fPl 1)) gl_times_of_1 bl_times_of_1)
def g_times_of : FS := (sSeq (sIf (fOr (fTst (f2 (fPl 0) (fOf (fTup fNil)) gEq)) (fTst (f2 (fPl 1) (fOf (fTup fNil)) gEq))) (sRet (fTup fNil)) sNil) (sSeq (sSet 2 (f2 (fOf (fLst (fCons (fOf (fC (.int 0))) fNil))) (fOf (f2 (fOf (f2 (fOf (fPr (fCons (fPl 0) fNil) gLenA)) (fOf (fPr (fCons (fPl 1) fNil) gLenA)) gAdd)) (fOf (fC (.int 1))) gSub)) gMul)) (sSeq (sFor (fIEnum (fPl 0)) gl_times_of_2 bl_times_of_2) (sRet (fCall m_trimmed (fCons (fPl 2) fNil))))))
def m_times_of : Mr := fun cs => (g_times_of 1000 (startR 7 cs)).bind (fin [true, true])
theorem h_times_of : ∀ cs o, m_times_of cs = some o → ∃ n out, g_times_of n (startR 7 cs) = some out ∧ fin [true, true] out = some o := fun cs o h => ⟨1000, Option.bind_eq_some_iff.mp h⟩
def gl_through_1 : FG := (gTp 2 (gsCons (gN 7) (gsCons (gN 8) gsNil)))
def bl_through_1 : FS := (sIf (fTst (f2 (fPl 7) (fPl 3) gNe)) (sSeq (sSet 5 (fCall m_times_of (fCons (fPl 5) (fCons (fOf (fTup (fCons (fOf (f1 (fPl 7) gNeg)) (fCons (fOf (fC (.int 1))) fNil)))) fNil)))) (sSet 6 (f2 (fPl 6) (fOf (f2 (fPl 3) (fPl 7) gSub)) gMul))) sNil)
def gl_through_2 : FG := (gTp 2 (gsCons (gN 3) (gsCons (gN 4) gsNil)))
def bl_through_2 : FS := (sSeq (sPar 5 6 (fTup (fCons (fPl 4) fNil)) (fC (.int 1))) (sSeq (sFor (fISeq (fPl 0)) gl_through_1 bl_through_1) (sSeq (sSet 1 (fCall m_plus_of (fCons (fOf (fCall m_scaled (fCons (fPl 1) (fCons (fPl 6) fNil)))) (fCons (fOf (fCall m_scaled (fCons (fPl 5) (fCons (fPl 2) fNil)))) fNil)))) (sSet 2 (f2 (fPl 2) (fPl 6) gMul)))))
def g_through : FS := (sSeq (sExpr (fOf (fCall m_check_points (fCons (fPl 0) fNil)))) (sSeq (sPar 1 2 (fTup fNil) (fC (.int 1))) (sSeq (sFor (fISeq (fPl 0)) gl_through_2 bl_through_2) (sRet (fCall m_reduced (fCons (fPl 1) (fCons (fPl 2) fNil)))))))
def m_through : Mr := fun cs => (g_through 1000 (startR 9 cs)).bind (fin [true])
theorem h_through : ∀ cs o, m_through cs = some o → ∃ n out, g_through n (startR 9 cs) = some out ∧ fin [true] out = some o := fun cs o h => ⟨1000, Option.bind_eq_some_iff.mp h⟩
def g_is_root : FS := (sSeq (sIf (fOr (fNot (fTst (fIsi "tuple" (fPl 0)))) (fOr (fTst (f2 (fOf (fPr (fCons (fPl 0) fNil) gLenA)) (fOf (fC (.int 2))) gNe)) (fNot (fTst (fCall m_is_from (fCons (fOf (f2 (fPl 0) (fOf (fC (.int 0))) gIx)) (fCons (fOf (f1 (fOf (fC (.int 20))) gNeg)) (fCons (fOf (fC (.int 20))) fNil)))))))) (sRet (fC (.bool false))) sNil) (sRet (fCall m_is_from (fCons (fOf (f2 (fPl 0) (fOf (fC (.int 1))) gIx)) (fCons (fOf (fC (.int 1))) (fCons (fOf (fC (.int 12))) fNil))))))
def m_is_root : Mr := fun cs => (g_is_root 1000 (startR 1 cs)).bind (fin [true])
theorem h_is_root : ∀ cs o, m_is_root cs = some o → ∃ n out, g_is_root n (startR 1 cs) = some out ∧ fin [true] out = some o := fun cs o h => ⟨1000, Option.bind_eq_some_iff.mp h⟩
def cg_by_roots_1 : FG := (gN 1)
def ce_by_roots_1 : Fn Bv := (fOf (fCall m_is_root (fCons (fPl 1) fNil)))
def cg_by_roots_2 : FG := (gTp 2 (gsCons (gN 2) (gsCons (gN 3) gsNil)))
def ck_by_roots_1 : Fn Bv := (fPl 2)
def cv_by_roots_1 : Fn Bv := (fOf (fC (.bool true)))
def cg_by_roots_3 : FG := (gTp 2 (gsCons (gN 2) (gsCons (gN 3) gsNil)))
def ce_by_roots_2 : Fn Bv := (fPl 3)
def gl_by_roots_1 : FG := (gTp 2 (gsCons (gN 2) (gsCons (gN 3) gsNil)))
def bl_by_roots_1 : FS := (sSet 4 (fCall m_times_of (fCons (fPl 4) (fCons (fOf (fCall m_power_of (fCons (fOf (fTup (fCons (fOf (f1 (fPl 2) gNeg)) (fCons (fOf (fC (.int 1))) fNil)))) (fCons (fPl 3) fNil)))) fNil))))
def g_by_roots : FS := (sSeq (sIf (fOr (fNot (fTst (fIsi2 "list" "tuple" (fPl 0)))) (fNot (fTst (fPr (fCons (fOf (fLc 5 [1] (fISeq (fPl 0)) cg_by_roots_1 fYes ce_by_roots_1)) fNil) gAll)))) (sRaise "BadRoots") sNil) (sSeq (sIf (fOr (fTst (f2 (fOf (fPr (fCons (fOf (fRest [2, 3] (fLc 5 [2, 3] (fISeq (fPl 0)) cg_by_roots_3 fYes ce_by_roots_2))) fNil) gSum)) (fOf (fC (.int 12))) (gI fun i j => decide (j < i)))) (fTst (f2 (fOf (fPr (fCons (fOf (fDc 5 [2, 3] (fISeq (fPl 0)) cg_by_roots_2 fYes ck_by_roots_1 cv_by_roots_1)) fNil) gLenA)) (fOf (fPr (fCons (fPl 0) fNil) gLenA)) (gI fun i j => decide (i < j))))) (sRaise "BadRoots") sNil) (sSeq (sSet 4 (fTup (fCons (fOf (fC (.int 1))) fNil))) (sSeq (sFor (fISeq (fPl 0)) gl_by_roots_1 bl_by_roots_1) (sRet (fMv 4))))))
def m_by_roots : Mr := fun cs => (g_by_roots 1000 (startR 5 cs)).bind (fin [true])
theorem h_by_roots : ∀ cs o, m_by_roots cs = some o → ∃ n out, g_by_roots n (startR 5 cs) = some out ∧ fin [true] out = some o := fun cs o h => ⟨1000, Option.bind_eq_some_iff.mp h⟩
def gl_check_poly_1 : FG := (gTp 2 (gsCons (gN 1) (gsCons (gN 2) gsNil)))
def bl_check_poly_1 : FS := (sIf (fNot (fTst (fCall m_is_from (fCons (fPl 2) (fCons (fOf (f1 (fOf (fC (.int 1000000000))) gNeg)) (fCons (fOf (fC (.int 1000000000))) fNil)))))) (sRaiseI "BadPoly" ["index"] (fCons (fPl 1) fNil)) sNil)
def g_check_poly : FS := (sSeq (sIf (fOr (fNot (fTst (fIsi "tuple" (fPl 0)))) (fTst (f2 (fOf (fPr (fCons (fPl 0) fNil) gLenA)) (fOf (fC (.int 13))) (gI fun i j => decide (j < i))))) (sRaiseI "BadPoly" ["index"] (fCons (fOf (fC .none)) fNil)) sNil) (sSeq (sFor (fIEnum (fPl 0)) gl_check_poly_1 bl_check_poly_1) (sIf (fAnd (fTst (f2 (fPl 0) (fOf (fTup fNil)) gNe)) (fTst (f2 (fOf (f2 (fPl 0) (fOf (f1 (fOf (fC (.int 1))) gNeg)) gIx)) (fOf (fC (.int 0))) gEq))) (sRaiseI "BadPoly" ["index"] (fCons (fOf (f2 (fOf (fPr (fCons (fPl 0) fNil) gLenA)) (fOf (fC (.int 1))) gSub)) fNil)) sNil)))
def m_check_poly : Mr := fun cs => (g_check_poly 1000 (startR 3 cs)).bind (fin [true])
theorem h_check_poly : ∀ cs o, m_check_poly cs = some o → ∃ n out, g_check_poly n (startR 3 cs) = some out ∧ fin [true] out = some o := fun cs o h => ⟨1000, Option.bind_eq_some_iff.mp h⟩
def g_check_zero : FS := (sIf (fTst (f2 (fPl 0) (fOf (fTup fNil)) gEq)) (sRaise "Zero") sNil)
def m_check_zero : Mr := fun cs => (g_check_zero 1000 (startR 1 cs)).bind (fin [true])
theorem h_check_zero : ∀ cs o, m_check_zero cs = some o → ∃ n out, g_check_zero n (startR 1 cs) = some out ∧ fin [true] out = some o := fun cs o h => ⟨1000, Option.bind_eq_some_iff.mp h⟩
def g_unlike : FS := (sSeq (sExpr (fOf (fCall m_check_poly (fCons (fPl 0) fNil)))) (sSeq (sExpr (fOf (fCall m_check_zero (fCons (fPl 0) fNil)))) (sRet (fCall m_many_roots (fCons (fPl 0) fNil)))))
def m_unlike : Mr := fun cs => (g_unlike 1000 (startR 1 cs)).bind (fin [true])
theorem h_unlike : ∀ cs o, m_unlike cs = some o → ∃ n out, g_unlike n (startR 1 cs) = some out ∧ fin [true] out = some o := fun cs o h => ⟨1000, Option.bind_eq_some_iff.mp h⟩
def wt_divisor_1 : Fn Bool := (fTst (f2 (fPl 1) (fOf (fC (.int 0))) (gI fun i j => decide (j < i))))
def wb_divisor_1 : FS := (sPar 0 1 (fFz (fPl 1)) (f2 (fPl 0) (fPl 1) gMod))
def g_divisor : FS := (sSeq (sPar 0 1 (fPr (fCons (fPl 0) fNil) gAbs) (fPr (fCons (fPl 1) fNil) gAbs)) (sSeq (sWh wt_divisor_1 wb_divisor_1) (sRet (fMv 0))))
def m_divisor : Mr := fun cs => (g_divisor 1000 (startR 2 cs)).bind (fin [false, false])
theorem h_divisor : ∀ cs o, m_divisor cs = some o → ∃ n out, g_divisor n (startR 2 cs) = some out ∧ fin [false, false] out = some o := fun cs o h => ⟨1000, Option.bind_eq_some_iff.mp h⟩
def gl_plain_1 : FG := (gN 2)
def bl_plain_1 : FS := (sSet 1 (fCall m_divisor (fCons (fPl 1) (fCons (fPl 2) fNil))))
def cg_plain_1 : FG := (gN 2)
def ce_plain_1 : Fn Bv := (fOf (f2 (fPl 2) (fPl 1) gFdiv))
def g_plain : FS := (sSeq (sIf (fTst (f2 (fPl 0) (fOf (fTup fNil)) gEq)) (sRet (fTup fNil)) sNil) (sSeq (sSet 1 (fC (.int 0))) (sSeq (sFor (fISeq (fPl 0)) gl_plain_1 bl_plain_1) (sSeq (sSet 1 (fIf (fTst (f2 (fOf (f2 (fPl 0) (fOf (f1 (fOf (fC (.int 1))) gNeg)) gIx)) (fOf (fC (.int 0))) (gI fun i j => decide (j < i)))) (fFz (fPl 1)) (f1 (fPl 1) gNeg))) (sRet (fPr (fCons (fOf (fRest [2] (fLc 3 [2] (fISeq (fPl 0)) cg_plain_1 fYes ce_plain_1))) fNil) gTuple))))))
def m_plain : Mr := fun cs => (g_plain 1000 (startR 3 cs)).bind (fin [true])
theorem h_plain : ∀ cs o, m_plain cs = some o → ∃ n out, g_plain n (startR 3 cs) = some out ∧ fin [true] out = some o := fun cs o h => ⟨1000, Option.bind_eq_some_iff.mp h⟩
def g_less_of : FS := (sRet (fCall m_plus_of (fCons (fPl 0) (fCons (fOf (fCall m_scaled (fCons (fPl 1) (fCons (fOf (f1 (fOf (fC (.int 1))) gNeg)) fNil)))) fNil))))
def m_less_of : Mr := fun cs => (g_less_of 1000 (startR 2 cs)).bind (fin [true, true])
theorem h_less_of : ∀ cs o, m_less_of cs = some o → ∃ n out, g_less_of n (startR 2 cs) = some out ∧ fin [true, true] out = some o := fun cs o h => ⟨1000, Option.bind_eq_some_iff.mp h⟩
def wt_left_over_1 : Fn Bool := (fTst (f2 (fOf (fPr (fCons (fPl 0) fNil) gLenA)) (fOf (fPr (fCons (fPl 1) fNil) gLenA)) (gI fun i j => decide (j ≤ i))))
def wb_left_over_1 : FS := (sSeq (sSet 2 (f2 (fOf (fTup (fCons (fOf (fC (.int 0))) fNil))) (fOf (f2 (fOf (fPr (fCons (fPl 0) fNil) gLenA)) (fOf (fPr (fCons (fPl 1) fNil) gLenA)) gSub)) gMul)) (sSet 0 (fCall m_less_of (fCons (fOf (fCall m_scaled (fCons (fPl 0) (fCons (fOf (f2 (fPl 1) (fOf (f1 (fOf (fC (.int 1))) gNeg)) gIx)) fNil)))) (fCons (fOf (fCall m_scaled (fCons (fOf (fTupD (dStar (fPl 2) (dStar (fPl 1) dNil)))) (fCons (fOf (f2 (fPl 0) (fOf (f1 (fOf (fC (.int 1))) gNeg)) gIx)) fNil)))) fNil)))))
def g_left_over : FS := (sSeq (sWh wt_left_over_1 wb_left_over_1) (sRet (fMv 0)))
def m_left_over : Mr := fun cs => (g_left_over 1000 (startR 3 cs)).bind (fin [false, true])
theorem h_left_over : ∀ cs o, m_left_over cs = some o → ∃ n out, g_left_over n (startR 3 cs) = some out ∧ fin [false, true] out = some o := fun cs o h => ⟨1000, Option.bind_eq_some_iff.mp h⟩
def wt_common_of_1 : Fn Bool := (fTst (f2 (fPl 1) (fOf (fTup fNil)) gNe))
def wb_common_of_1 : FS := (sPar 0 1 (fFz (fPl 1)) (fCall m_plain (fCons (fOf (fCall m_left_over (fCons (fPl 0) (fCons (fPl 1) fNil)))) fNil)))
def g_common_of : FS := (sSeq (sPar 0 1 (fCall m_plain (fCons (fPl 0) fNil)) (fCall m_plain (fCons (fPl 1) fNil))) (sSeq (sWh wt_common_of_1 wb_common_of_1) (sRet (fMv 0))))
def m_common_of : Mr := fun cs => (g_common_of 1000 (startR 2 cs)).bind (fin [false, false])
theorem h_common_of : ∀ cs o, m_common_of cs = some o → ∃ n out, g_common_of n (startR 2 cs) = some out ∧ fin [false, false] out = some o := fun cs o h => ⟨1000, Option.bind_eq_some_iff.mp h⟩
def g_check_sum : FS := (sSeq (sExpr (fOf (fCall m_check_poly (fCons (fPl 0) fNil)))) (sSeq (sExpr (fOf (fCall m_check_poly (fCons (fPl 1) fNil)))) (sSeq (sIf (fOr (fTst (f2 (fPl 0) (fOf (fTup fNil)) gEq)) (fOr (fTst (f2 (fPl 1) (fOf (fTup fNil)) gEq)) (fTst (f2 (fOf (fCall m_plus_of (fCons (fPl 0) (fCons (fPl 1) fNil)))) (fOf (fTup fNil)) gEq)))) (sRaise "Zero") sNil) (sSeq (sIf (fAnd (fTst (f2 (fOf (fPr (fCons (fPl 0) fNil) gLenA)) (fOf (fC (.int 1))) gEq)) (fTst (f2 (fOf (fPr (fCons (fPl 1) fNil) gLenA)) (fOf (fC (.int 1))) gEq))) (sRaise "Flat") sNil) (sIf (fTst (f2 (fOf (fPr (fCons (fOf (fCall m_common_of (fCons (fPl 0) (fCons (fPl 1) fNil)))) fNil) gLenA)) (fOf (fC (.int 1))) (gI fun i j => decide (j < i)))) (sRaise "Common") sNil)))))
def m_check_sum : Mr := fun cs => (g_check_sum 1000 (startR 2 cs)).bind (fin [true, true])
theorem h_check_sum : ∀ cs o, m_check_sum cs = some o → ∃ n out, g_check_sum n (startR 2 cs) = some out ∧ fin [true, true] out = some o := fun cs o h => ⟨1000, Option.bind_eq_some_iff.mp h⟩
def cg_measure_1 : FG := (gN 5)
def ce_measure_1 : Fn Bv := (fOf (fCall m_many_roots (fCons (fPl 5) fNil)))
def g_measure : FS := (sSeq (sExpr (fOf (fCall m_check_sum (fCons (fPl 0) (fCons (fPl 1) fNil))))) (sSeq (sSet 2 (fCall m_plus_of (fCons (fPl 0) (fCons (fPl 1) fNil)))) (sSeq (sSet 3 (f2 (fOf (fPr (fCons (fOf (fPr (fCons (fPl 0) fNil) gLenA)) (fCons (fOf (fPr (fCons (fPl 1) fNil) gLenA)) (fCons (fOf (fPr (fCons (fPl 2) fNil) gLenA)) fNil))) gMax3)) (fOf (fC (.int 1))) gSub)) (sSeq (sSet 4 (fPr (fCons (fOf (fLc 6 [5] (fISeq (fOf (fTup (fCons (fPl 0) (fCons (fPl 1) (fCons (fPl 2) fNil)))))) cg_measure_1 fYes ce_measure_1)) fNil) gSum)) (sRet (fTup (fCons (fPl 3) (fCons (fPl 4) (fCons (fOf (f2 (fOf (f2 (fPl 4) (fOf (fC (.int 1))) gSub)) (fPl 3) gSub)) fNil)))))))))
def m_measure : Mr := fun cs => (g_measure 1000 (startR 6 cs)).bind (fin [true, true])
theorem h_measure : ∀ cs o, m_measure cs = some o → ∃ n out, g_measure n (startR 6 cs) = some out ∧ fin [true, true] out = some o := fun cs o h => ⟨1000, Option.bind_eq_some_iff.mp h⟩
def cg_Desk_step_1 : FG := (gN 3)
def ce_Desk_step_1 : Fn Bv := (fOf (f2 (fOf (fPr (fCons (fPl 3) fNil) gAbs)) (fOf (fC (.int 1000000000))) (gI fun i j => decide (j < i))))
def g_Desk_step : FS := (sSeq (sIf (fTst (fPr (fCons (fOf (fLc 4 [3] (fISeq (fOf (f2 (fPl 1) (fPl 2) gAdd))) cg_Desk_step_1 fYes ce_Desk_step_1)) fNil) gAny)) (sRaise "Rising") sNil) (sFldSt "Desk" "rows" 0 (fOf (fTupD (dStar (fOf (fFld "Desk" "rows" (fPl 0))) (dCons (fOf (fTup (fCons (fPl 1) (fCons (fPl 2) fNil)))) dNil))))))
def m_Desk_step : Mr := fun cs => (g_Desk_step 1000 (startR 4 cs)).bind (fin [true, true, true])
theorem h_Desk_step : ∀ cs o, m_Desk_step cs = some o → ∃ n out, g_Desk_step n (startR 4 cs) = some out ∧ fin [true, true, true] out = some o := fun cs o h => ⟨1000, Option.bind_eq_some_iff.mp h⟩
def g_Desk_stretch : FS := (sSeq (sIf (fOr (fNot (fTst (fCall m_is_from (fCons (fPl 1) (fCons (fOf (f1 (fOf (fC (.int 5))) gNeg)) (fCons (fOf (fC (.int 5))) fNil)))))) (fTst (f2 (fPl 1) (fOf (fC (.int 0))) gEq))) (sRaise "BadNumber") sNil) (sSeq (sAsg (gTp 2 (gsCons (gN 2) (gsCons (gN 3) gsNil))) (fOf (f2 (fOf (fFld "Desk" "rows" (fPl 0))) (fOf (f1 (fOf (fC (.int 1))) gNeg)) gIx))) (sExpr (fOf (fMeth "Desk" "step" m_Desk_step (fPl 0) (fCons (fOf (fCall m_scaled (fCons (fPl 2) (fCons (fPl 1) fNil)))) (fCons (fOf (fCall m_scaled (fCons (fPl 3) (fCons (fPl 1) fNil)))) fNil)))))))
def m_Desk_stretch : Mr := fun cs => (g_Desk_stretch 1000 (startR 4 cs)).bind (fin [true, true])
theorem h_Desk_stretch : ∀ cs o, m_Desk_stretch cs = some o → ∃ n out, g_Desk_stretch n (startR 4 cs) = some out ∧ fin [true, true] out = some o := fun cs o h => ⟨1000, Option.bind_eq_some_iff.mp h⟩
def g_plus : FS := (sSeq (sExpr (fOf (fCall m_check_poly (fCons (fPl 0) fNil)))) (sSeq (sExpr (fOf (fCall m_check_poly (fCons (fPl 1) fNil)))) (sRet (fCall m_plus_of (fCons (fPl 0) (fCons (fPl 1) fNil))))))
def m_plus : Mr := fun cs => (g_plus 1000 (startR 2 cs)).bind (fin [true, true])
theorem h_plus : ∀ cs o, m_plus cs = some o → ∃ n out, g_plus n (startR 2 cs) = some out ∧ fin [true, true] out = some o := fun cs o h => ⟨1000, Option.bind_eq_some_iff.mp h⟩
def g_Desk___init__ : FS := (sSeq (sExpr (fOf (fCall m_check_sum (fCons (fPl 1) (fCons (fPl 2) fNil))))) (sFldSt "Desk" "rows" 0 (fOf (fTup (fCons (fOf (fTup (fCons (fPl 1) (fCons (fPl 2) fNil)))) fNil)))))
def m_Desk___init__ : Mr := fun cs => (g_Desk___init__ 1000 (startR 3 cs)).bind (fin [true, true, true])
theorem h_Desk___init__ : ∀ cs o, m_Desk___init__ cs = some o → ∃ n out, g_Desk___init__ n (startR 3 cs) = some out ∧ fin [true, true, true] out = some o := fun cs o h => ⟨1000, Option.bind_eq_some_iff.mp h⟩
def cg_is_list_1 : FG := (gN 1)
def ce_is_list_1 : Fn Bv := (fOf (fCall m_is_from (fCons (fPl 1) (fCons (fOf (fC (.int 1))) (fCons (fOf (fC (.int 12))) fNil)))))
def g_is_list : FS := (sSeq (sIf (fOr (fNot (fTst (fIsi "tuple" (fPl 0)))) (fNot (fTst (fCh (fOf (fC (.int 1))) (fOf (fPr (fCons (fPl 0) fNil) gLenA)) (fOf (fC (.int 12))) (gI fun i j => decide (i ≤ j)) (gI fun i j => decide (i ≤ j)))))) (sRet (fC (.bool false))) sNil) (sRet (fPr (fCons (fOf (fLc 2 [1] (fISeq (fPl 0)) cg_is_list_1 fYes ce_is_list_1)) fNil) gAll)))
def m_is_list : Mr := fun cs => (g_is_list 1000 (startR 2 cs)).bind (fin [true])
theorem h_is_list : ∀ cs o, m_is_list cs = some o → ∃ n out, g_is_list n (startR 2 cs) = some out ∧ fin [true] out = some o := fun cs o h => ⟨1000, Option.bind_eq_some_iff.mp h⟩
def gl_check_lists_1 : FG := (gTp 2 (gsCons (gN 2) (gsCons (gN 3) gsNil)))
def bl_check_lists_1 : FS := (sIf (fNot (fTst (fCall m_is_list (fCons (fPl 3) fNil)))) (sRaiseI "BadLists" ["index"] (fCons (fPl 2) fNil)) sNil)
def g_check_lists : FS := (sSeq (sFor (fIEnum (fOf (fLst (fCons (fPl 0) (fCons (fPl 1) fNil))))) gl_check_lists_1 bl_check_lists_1) (sIf (fOr (fTst (f2 (fOf (fPr (fCons (fPl 0) fNil) gSumT)) (fOf (fPr (fCons (fPl 1) fNil) gSumT)) gNe)) (fTst (f2 (fOf (f2 (fOf (fPr (fCons (fPl 0) fNil) gLenA)) (fOf (fPr (fCons (fPl 1) fNil) gLenA)) gAdd)) (fOf (f2 (fOf (fPr (fCons (fPl 0) fNil) gSumT)) (fOf (fC (.int 1))) gAdd)) gNe))) (sRaiseI "BadLists" ["index"] (fCons (fOf (fC .none)) fNil)) sNil))
def m_check_lists : Mr := fun cs => (g_check_lists 1000 (startR 4 cs)).bind (fin [true, true])
theorem h_check_lists : ∀ cs o, m_check_lists cs = some o → ∃ n out, g_check_lists n (startR 4 cs) = some out ∧ fin [true, true] out = some o := fun cs o h => ⟨1000, Option.bind_eq_some_iff.mp h⟩
def g_tree : FS := (sSeq (sExpr (fOf (fCall m_check_lists (fCons (fPl 0) (fCons (fPl 1) fNil))))) (sRet (fCall m_tree_of (fCons (fPl 0) (fCons (fPl 1) fNil)))))
def m_tree : Mr := fun cs => (g_tree 1000 (startR 2 cs)).bind (fin [true, true])
theorem h_tree : ∀ cs o, m_tree cs = some o → ∃ n out, g_tree n (startR 2 cs) = some out ∧ fin [true, true] out = some o := fun cs o h => ⟨1000, Option.bind_eq_some_iff.mp h⟩
def cg_is_whole_1 : FG := (gN 2)
def ce_is_whole_1 : Fn Bv := (fOf (f2 (fPl 2) (fOf (fC (.str "0123456789"))) (gInS false)))
def g_is_whole : FS := (sSeq (sSet 1 (fIf (fTst (f2 (fOf (fSlU (fPl 0) (fOf (fC (.int 1))))) (fOf (fC (.str "-"))) gEq)) (fSlL (fPl 0) (fOf (fC (.int 1)))) (fFz (fPl 0)))) (sSeq (sIf (fOr (fNot (fTst (fCh (fOf (fC (.int 1))) (fOf (fPr (fCons (fPl 1) fNil) gLenA)) (fOf (fC (.int 10))) (gI fun i j => decide (i ≤ j)) (gI fun i j => decide (i ≤ j))))) (fNot (fTst (fPr (fCons (fOf (fLc 3 [2] (fIStr (fPl 1)) cg_is_whole_1 fYes ce_is_whole_1)) fNil) gAll)))) (sRet (fC (.bool false))) sNil) (sRet (fOrV (f2 (fPl 0) (fOf (fC (.str "0"))) gEq) (f2 (fOf (f2 (fPl 1) (fOf (fC (.int 0))) gIx)) (fOf (fC (.str "0"))) gNe)))))
def m_is_whole : Mr := fun cs => (g_is_whole 1000 (startR 3 cs)).bind (fin [true])
theorem h_is_whole : ∀ cs o, m_is_whole cs = some o → ∃ n out, g_is_whole n (startR 3 cs) = some out ∧ fin [true] out = some o := fun cs o h => ⟨1000, Option.bind_eq_some_iff.mp h⟩
def gl_poly_in_1 : FG := (gTp 2 (gsCons (gN 3) (gsCons (gN 4) gsNil)))
def bl_poly_in_1 : FS := (sSeq (sIf (fOr (fTst (f2 (fPl 3) (fOf (fC (.int 13))) gEq)) (fOr (fNot (fTst (fCall m_is_whole (fCons (fPl 4) fNil)))) (fTst (f2 (fOf (fPr (fCons (fOf (fPr (fCons (fPl 4) fNil) gIntA)) fNil) gAbs)) (fOf (fC (.int 1000000000))) (gI fun i j => decide (j < i)))))) (sRaiseI "BadLine" ["line", "word"] (fCons (fPl 1) (fCons (fOf (f2 (fPl 3) (fOf (fC (.int 2))) gAdd)) fNil))) sNil) (sExpr (fOf (fMth isL 2 (fCons (fOf (fPr (fCons (fPl 4) fNil) gIntA)) fNil) gApp))))
def g_poly_in : FS := (sSeq (sIf (fTst (f2 (fOf (fSlU (fPl 0) (fOf (fC (.int 1))))) (fOf (fLst (fCons (fOf (fC (.str "poly"))) fNil))) gNe)) (sRaiseI "BadLine" ["line", "word"] (fCons (fPl 1) (fCons (fOf (fC (.int 1))) fNil))) sNil) (sSeq (sSet 2 (fLst fNil)) (sSeq (sFor (fIEnum (fOf (fSlL (fPl 0) (fOf (fC (.int 1)))))) gl_poly_in_1 bl_poly_in_1) (sSeq (sIf (fAnd (fTst (f2 (fPl 2) (fOf (fLst fNil)) gNe)) (fTst (f2 (fOf (f2 (fPl 2) (fOf (f1 (fOf (fC (.int 1))) gNeg)) gIx)) (fOf (fC (.int 0))) gEq))) (sRaiseI "BadLine" ["line", "word"] (fCons (fPl 1) (fCons (fOf (fPr (fCons (fPl 0) fNil) gLenA)) fNil))) sNil) (sRet (fPr (fCons (fPl 2) fNil) gTuple))))))
def m_poly_in : Mr := fun cs => (g_poly_in 1000 (startR 5 cs)).bind (fin [true, true])
theorem h_poly_in : ∀ cs o, m_poly_in cs = some o → ∃ n out, g_poly_in n (startR 5 cs) = some out ∧ fin [true, true] out = some o := fun cs o h => ⟨1000, Option.bind_eq_some_iff.mp h⟩
def ct_read_1 : Fn Bool := (fTst (f2 (fPl 3) (fOf (fC (.str ""))) gNe))
def cg_read_1 : FG := (gN 3)
def ce_read_1 : Fn Bv := (fPl 3)
def cg_read_2 : FG := (gN 2)
def ce_read_2 : Fn Bv := (fOf (fLc 6 [3] (fISeq (fOf (fMvS (fPl 2) (fCons (fOf (fC (.str " "))) fNil) gSplit))) cg_read_1 ct_read_1 ce_read_1))
def g_read : FS := (sSeq (sSet 1 (fLc 6 [2] (fISeq (fOf (fMvS (fPl 0) (fCons (fOf (fC (.str "\n"))) fNil) gSplit))) cg_read_2 fYes ce_read_2)) (sSeq (sSet 4 (fCall m_poly_in (fCons (fOf (f2 (fPl 1) (fOf (fC (.int 0))) gIx)) (fCons (fOf (fC (.int 1))) fNil)))) (sSeq (sIf (fTst (f2 (fOf (fPr (fCons (fPl 1) fNil) gLenA)) (fOf (fC (.int 2))) (gI fun i j => decide (i < j)))) (sRaiseI "BadLine" ["line", "word"] (fCons (fOf (fC (.int 2))) (fCons (fOf (fC (.int 1))) fNil))) sNil) (sSeq (sSet 5 (fCall m_poly_in (fCons (fOf (f2 (fPl 1) (fOf (fC (.int 1))) gIx)) (fCons (fOf (fC (.int 2))) fNil)))) (sSeq (sIf (fTst (f2 (fOf (fPr (fCons (fPl 1) fNil) gLenA)) (fOf (fC (.int 2))) (gI fun i j => decide (j < i)))) (sRaiseI "BadLine" ["line", "word"] (fCons (fOf (fC (.int 3))) (fCons (fOf (fC (.int 1))) fNil))) sNil) (sRet (fTup (fCons (fPl 4) (fCons (fPl 5) fNil)))))))))
def m_read : Mr := fun cs => (g_read 1000 (startR 6 cs)).bind (fin [true])
theorem h_read : ∀ cs o, m_read cs = some o → ∃ n out, g_read n (startR 6 cs) = some out ∧ fin [true] out = some o := fun cs o h => ⟨1000, Option.bind_eq_some_iff.mp h⟩
def tb__law_raised_1 : FS := (sIf (fTst (f2 (fPl 0) (fOf (fC (.int 0))) gEq)) (sExpr (fOf (fCall m_unlike_by (fCons (fOf (fC (.int 9))) (fCons (fOf (fTup (fCons (fOf (fC (.int 1))) fNil))) fNil))))) (sIf (fTst (f2 (fPl 0) (fOf (fC (.int 1))) gEq)) (sExpr (fOf (fCall m_barred (fCons (fOf (fC (.int 2))) (fCons (fOf (fC (.int 3))) (fCons (fOf (fC (.int 13))) fNil)))))) (sIf (fTst (f2 (fPl 0) (fOf (fC (.int 2))) gEq)) (sExpr (fOf (fCall m_through (fCons (fOf (fLst fNil)) fNil)))) (sIf (fTst (f2 (fPl 0) (fOf (fC (.int 3))) gEq)) (sExpr (fOf (fCall m_by_roots (fCons (fOf (fLst (fCons (fOf (fTup (fCons (fOf (fC (.int 0))) (fCons (fOf (fC (.int 0))) fNil)))) fNil))) fNil)))) (sIf (fTst (f2 (fPl 0) (fOf (fC (.int 4))) gEq)) (sExpr (fOf (fCall m_unlike (fCons (fOf (fTup fNil)) fNil)))) (sIf (fTst (f2 (fPl 0) (fOf (fC (.int 5))) gEq)) (sExpr (fOf (fCall m_measure (fCons (fOf (fTup (fCons (fOf (fC (.int 1))) fNil))) (fCons (fOf (fTup (fCons (fOf (fC (.int 2))) fNil))) fNil))))) (sIf (fTst (f2 (fPl 0) (fOf (fC (.int 6))) gEq)) (sExpr (fOf (fCall m_measure (fCons (fOf (fTup (fCons (fOf (fC (.int 0))) (fCons (fOf (fC (.int 1))) fNil)))) (fCons (fOf (fTup (fCons (fOf (fC (.int 0))) (fCons (fOf (fC (.int 0))) (fCons (fOf (fC (.int 1))) fNil))))) fNil))))) (sIf (fTst (f2 (fPl 0) (fOf (fC (.int 7))) gEq)) (sExpr (fOf (fMeth "Desk" "stretch" m_Desk_stretch (fOf (fMake "Desk" m_Desk___init__ (fCons (fOf (fTup (fCons (fOf (fC (.int 0))) (fCons (fOf (fC (.int 1000000000))) fNil)))) (fCons (fOf (fTup (fCons (fOf (fC (.int 1))) fNil))) fNil)))) (fCons (fOf (fC (.int 2))) fNil)))) (sIf (fTst (f2 (fPl 0) (fOf (fC (.int 8))) gEq)) (sExpr (fOf (fCall m_plus (fCons (fOf (fTup (fCons (fOf (fC (.int 1))) (fCons (fOf (fC (.int 2))) fNil)))) (fCons (fOf (fTup (fCons (fOf (fC (.int 1))) (fCons (fOf (fC (.int 2))) (fCons (fOf (fC (.str "3"))) fNil))))) fNil))))) (sIf (fTst (f2 (fPl 0) (fOf (fC (.int 9))) gEq)) (sExpr (fOf (fCall m_tree (fCons (fOf (fTup (fCons (fOf (fC (.int 2))) (fCons (fOf (fC (.int 1))) fNil)))) (fCons (fOf (fTup (fCons (fOf (fC (.int 3))) (fCons (fOf (fC (.int 1))) fNil)))) fNil))))) (sExpr (fOf (fCall m_read (fCons (fOf (fC (.str "poly 1\npoly 2 x"))) fNil))))))))))))))
def g__law_raised : FS := (sSeq (sSet 1 (fC .none)) (sSeq (sTryK 2 1 tb__law_raised_1 (tblO [("BadLine", true), ("BadLists", true), ("BadNumber", true), ("BadPoints", true), ("BadPoly", true), ("BadPrime", true), ("BadRoots", true), ("Common", true), ("Flat", true), ("Rising", true), ("Zero", true)])) (sRet (fMv 1))))
def m__law_raised : Mr := fun cs => (g__law_raised 1000 (startR 3 cs)).bind (fin [true])
theorem h__law_raised : ∀ cs o, m__law_raised cs = some o → ∃ n out, g__law_raised n (startR 3 cs) = some out ∧ fin [true] out = some o := fun cs o h => ⟨1000, Option.bind_eq_some_iff.mp h⟩
def g__law_kinds : FS := (sSeq (sSet 1 (fLst (fCons (fOf (fIsX (tblO [("BadLine", false), ("BadLists", false), ("BadNumber", false), ("BadPoints", false), ("BadPoly", false), ("BadPrime", true), ("BadRoots", false), ("Common", false), ("Flat", false), ("Rising", false), ("Zero", false)]) (fPl 0))) (fCons (fOf (fIsX (tblO [("BadLine", false), ("BadLists", false), ("BadNumber", true), ("BadPoints", false), ("BadPoly", false), ("BadPrime", false), ("BadRoots", false), ("Common", false), ("Flat", false), ("Rising", false), ("Zero", false)]) (fPl 0))) (fCons (fOf (fIsX (tblO [("BadLine", false), ("BadLists", false), ("BadNumber", false), ("BadPoints", true), ("BadPoly", false), ("BadPrime", false), ("BadRoots", false), ("Common", false), ("Flat", false), ("Rising", false), ("Zero", false)]) (fPl 0))) (fCons (fOf (fIsX (tblO [("BadLine", false), ("BadLists", false), ("BadNumber", false), ("BadPoints", false), ("BadPoly", false), ("BadPrime", false), ("BadRoots", true), ("Common", false), ("Flat", false), ("Rising", false), ("Zero", false)]) (fPl 0))) fNil)))))) (sSeq (sSet 1 (f2 (fPl 1) (fOf (fLst (fCons (fOf (fIsX (tblO [("BadLine", false), ("BadLists", false), ("BadNumber", false), ("BadPoints", false), ("BadPoly", false), ("BadPrime", false), ("BadRoots", false), ("Common", false), ("Flat", false), ("Rising", false), ("Zero", true)]) (fPl 0))) (fCons (fOf (fIsX (tblO [("BadLine", false), ("BadLists", false), ("BadNumber", false), ("BadPoints", false), ("BadPoly", false), ("BadPrime", false), ("BadRoots", false), ("Common", false), ("Flat", true), ("Rising", false), ("Zero", false)]) (fPl 0))) (fCons (fOf (fIsX (tblO [("BadLine", false), ("BadLists", false), ("BadNumber", false), ("BadPoints", false), ("BadPoly", false), ("BadPrime", false), ("BadRoots", false), ("Common", true), ("Flat", false), ("Rising", false), ("Zero", false)]) (fPl 0))) (fCons (fOf (fIsX (tblO [("BadLine", false), ("BadLists", false), ("BadNumber", false), ("BadPoints", false), ("BadPoly", false), ("BadPrime", false), ("BadRoots", false), ("Common", false), ("Flat", false), ("Rising", true), ("Zero", false)]) (fPl 0))) fNil)))))) gAdd)) (sRet (f2 (fPl 1) (fOf (fLst (fCons (fOf (fIsX (tblO [("BadLine", false), ("BadLists", false), ("BadNumber", false), ("BadPoints", false), ("BadPoly", true), ("BadPrime", false), ("BadRoots", false), ("Common", false), ("Flat", false), ("Rising", false), ("Zero", false)]) (fPl 0))) (fCons (fOf (fIsX (tblO [("BadLine", false), ("BadLists", true), ("BadNumber", false), ("BadPoints", false), ("BadPoly", false), ("BadPrime", false), ("BadRoots", false), ("Common", false), ("Flat", false), ("Rising", false), ("Zero", false)]) (fPl 0))) (fCons (fOf (fIsX (tblO [("BadLine", true), ("BadLists", false), ("BadNumber", false), ("BadPoints", false), ("BadPoly", false), ("BadPrime", false), ("BadRoots", false), ("Common", false), ("Flat", false), ("Rising", false), ("Zero", false)]) (fPl 0))) fNil))))) gAdd))))
def m__law_kinds : Mr := fun cs => (g__law_kinds 1000 (startR 2 cs)).bind (fin [true])
theorem h__law_kinds : ∀ cs o, m__law_kinds cs = some o → ∃ n out, g__law_kinds n (startR 2 cs) = some out ∧ fin [true] out = some o := fun cs o h => ⟨1000, Option.bind_eq_some_iff.mp h⟩
def st_law_1 : FS := (sSet 1 (fCall m__law_draws (fCons (fPl 0) fNil)))
def st_law_2 : FS := (sSet 2 (fCall m__law_pick (fCons (fPl 1) (fCons (fOf (fC (.int 11))) fNil))))
def st_law_3 : FS := (sSet 3 (fCall m__law_raised (fCons (fPl 2) fNil)))
def cg_law_1 : FG := (gN 4)
def ce_law_1 : Fn Bv := (fOf (f2 (fPl 2) (fPl 4) gEq))
def st_law_4 : FS := (sIf (fOr (fNot (fTst (fIsX (tblO [("BadLine", true), ("BadLists", true), ("BadNumber", true), ("BadPoints", true), ("BadPoly", true), ("BadPrime", true), ("BadRoots", true), ("Common", true), ("Flat", true), ("Rising", true), ("Zero", true)]) (fPl 3)))) (fTst (f2 (fOf (fCall m__law_kinds (fCons (fPl 3) fNil))) (fOf (fLc 5 [4] (fIR1 (fOf (fC (.int 11)))) cg_law_1 fYes ce_law_1)) gNe))) (sRet (fC (.bool false))) sNil)
def st_law_5 : FS := (sIf (fAnd (fTst (f2 (fPl 2) (fOf (fLst (fCons (fOf (fC (.int 8))) (fCons (fOf (fC (.int 9))) fNil)))) (gIn false))) (fTst (f2 (fOf (fXFld ["BadLists", "BadPoly"] "index" (fPl 3))) (fOf (f2 (fOf (fDct2c 8 (.int 2) 9 .none)) (fPl 2) gIxD)) gNe))) (sRet (fC (.bool false))) sNil)
def st_law_6 : FS := (sRet (fOrV (f2 (fPl 2) (fOf (fC (.int 10))) gNe) (f2 (fOf (fTup (fCons (fOf (fXFld ["BadLine"] "line" (fPl 3))) (fCons (fOf (fXFld ["BadLine"] "word" (fPl 3))) fNil)))) (fOf (fTup (fCons (fOf (fC (.int 2))) (fCons (fOf (fC (.int 3))) fNil)))) gEq)))
def g_law : FS := (sSeq st_law_1 (sSeq st_law_2 (sSeq st_law_3 (sSeq st_law_4 (sSeq st_law_5 st_law_6)))))
end L3

namespace L3
open PySem PySem.Spec L2
theorem h__law_draws : ∀ cs o, m__law_draws cs = some o → ∃ n out, g__law_draws n (startR 1 cs) = some out ∧ fin [true] out = some o := fun cs o h => by
  unfold m__law_draws at h
  split at h
  case h_2 => cases h
  rename_i ds
  cases q : intsD ds with
  | none => rw [q] at h; cases h
  | some ns =>
    rw [q] at h
    cases h
    cases zs_of q
    exact ⟨0, .rt (.lst (Rw.ds ⟨ns, 0, 0, 7⟩)) [some (.fz (.list (zs ns)))], by simp [g__law_draws, startR, Rw.ds], rfl⟩
theorem rw_of {ds : List D} {x : Rw} (h : Rw.of ds = some x) : ds = x.ds := by
  unfold Rw.of at h
  split at h
  · rename_i s p b r
    split at h
    · rename_i ns q
      split at h
      · rename_i hp
        cases h
        cases zs_of q
        unfold Rw.ds
        rw [Int.toNat_of_nonneg hp]
      · cases h
    · cases h
  · cases h
theorem of_rw (x : Rw) : Rw.of x.ds = some x := by
  unfold Rw.of Rw.ds
  simp [intsD_zs]
theorem pow18 : gPow [.fz (.int 10), .fz (.int 18)] = some (.fz (.int 1000000000000000000)) := by rfl
theorem fm_pos (a : Int) {b : Int} (h : 0 < b) : 0 ≤ a.fmod b ∧ a.fmod b < b := ⟨Int.fmod_nonneg_of_pos a h, Int.fmod_lt_of_pos a h⟩
def pickHd : FS := (sIf (fTst (f2 (fOf (f2 (fPl 0) (fOf (fC (.int 2))) gIx)) (fOf (fC (.int 0))) gEq)) (sIf (fTst (f2 (fOf (f2 (fPl 0) (fOf (fC (.int 1))) gIx)) (fOf (fPr (fCons (fOf (f2 (fPl 0) (fOf (fC (.int 0))) gIx)) fNil) gLenA)) (gI fun i j => decide (i < j)))) (sSeq (sSet 2 (f2 (fOf (f2 (fPl 0) (fOf (fC (.int 0))) gIx)) (fOf (f2 (fPl 0) (fOf (fC (.int 1))) gIx)) gIx)) (sSeq (sSetIx 0 (fOf (f2 (fOf (f2 (fPl 0) (fOf (fC (.int 1))) gIx)) (fOf (fC (.int 1))) gAdd)) (fOf (fC (.int 1)))) (sIf (fTst (f2 (fPl 2) (fOf (f2 (fOf (fC (.int 10))) (fOf (fC (.int 18))) gPow)) (gI fun i j => decide (j ≤ i)))) (sSetIx 0 (fPl 2) (fOf (fC (.int 2)))) (sSetIx 0 (fOf (f2 (fOf (fPr (fCons (fOf (f2 (fOf (f2 (fOf (f2 (fOf (f2 (fPl 0) (fOf (fC (.int 3))) gIx)) (fOf (fC (.int 48271))) gMul)) (fOf (f2 (fPl 2) (fOf (fC (.int 69621))) gMul)) gAdd)) (fOf (fC (.int 11))) gAdd)) fNil) gInt)) (fOf (fC (.int 2147483647))) gMod)) (fOf (fC (.int 3))))))) (sSetIx 0 (fOf (f2 (fOf (fPr (fCons (fOf (f2 (fOf (f2 (fOf (f2 (fPl 0) (fOf (fC (.int 3))) gIx)) (fOf (fC (.int 48271))) gMul)) (fOf (fC (.int 7))) gAdd)) fNil) gInt)) (fOf (fC (.int 2147483647))) gMod)) (fOf (fC (.int 3))))) sNil)
def pickTl : FS := (sSeq (sIf (fTst (f2 (fOf (f2 (fPl 0) (fOf (fC (.int 2))) gIx)) (fOf (fC (.int 0))) (gI fun i j => decide (j < i)))) (sSeq (sSet 3 (f2 (fOf (fPr (fCons (fOf (f2 (fPl 0) (fOf (fC (.int 2))) gIx)) fNil) gInt)) (fPl 1) gMod)) (sSeq (sSetIx 0 (fOf (f2 (fOf (f2 (fPl 0) (fOf (fC (.int 2))) gIx)) (fPl 1) gFdiv)) (fOf (fC (.int 2)))) (sRet (fMv 3)))) sNil) (sRet (f2 (fOf (f2 (fOf (fPr (fCons (fOf (f2 (fOf (f2 (fPl 0) (fOf (fC (.int 3))) gIx)) (fOf (fC (.int 16807))) gMul)) fNil) gInt)) (fOf (fC (.int 2147483629))) gMod)) (fPl 1) gMod)))
theorem pick_eq : g__law_pick = sSeq pickHd pickTl := rfl
theorem pick_tail (x : Rw) (many : Int) (h1 : 0 < many) (h2 : many < 2 ^ 64) (c2 c3 : Option Cl) (n : Nat) :
    ∃ c2' c3', pickTl n [some (.lst x.ds), some (.i many), c2, c3] = some (if 0 < x.b then .rt (.i (x.b.fmod many)) [some (.lst { x with b := x.b.fdiv many }.ds), some (.i many), c2', c3'] else .rt (.i (((x.r * 16807).fmod 2147483629).fmod many)) [some (.lst x.ds), some (.i many), c2', c3']) := by
  have e0 : many ≠ 0 := by omega
  have e1 := e_gModI (i := x.b) (j := many) e0
  have e2 := e_gFdivS (i := x.b) (j := many) e0 (by omega)
  have e3 := e_gMulI (i := x.r) (j := 16807) (.inr (by decide))
  have e4 := e_gModI (i := x.r * 16807) (j := 2147483629) (by decide)
  have e5 := e_gModI (i := (x.r * 16807).fmod 2147483629) (j := many) e0
  have a2 : atI x.ds 2 = some (.int x.b) := rfl
  have a3 : atI x.ds 3 = some (.int x.r) := rfl
  have i2 : ixN x.ds.length 2 = some 2 := rfl
  have s2 : ∀ v : Int, x.ds.set 2 (.int v) = ({ x with b := v } : Rw).ds := fun _ => rfl
  by_cases hb : 0 < x.b
  · refine ⟨c2, none, ?_⟩
    rw [if_pos hb]
    simp [pickTl, a2, hb, e1, e2, setIx, i2, s2]
  · refine ⟨c2, c3, ?_⟩
    rw [if_neg hb]
    simp [pickTl, a2, a3, hb, e3, e4, e5]
theorem rw_a0 (x : Rw) : atI x.ds 0 = some (.list (zs x.s)) := rfl
theorem rw_a1 (x : Rw) : atI x.ds 1 = some (.int x.p) := rfl
theorem rw_a2 (x : Rw) : atI x.ds 2 = some (.int x.b) := rfl
theorem rw_a3 (x : Rw) : atI x.ds 3 = some (.int x.r) := rfl
theorem rw_i1 (x : Rw) : ixN x.ds.length 1 = some 1 := rfl
theorem rw_i2 (x : Rw) : ixN x.ds.length 2 = some 2 := rfl
theorem rw_i3 (x : Rw) : ixN x.ds.length 3 = some 3 := rfl
theorem rw_s1 (x : Rw) : x.ds.set 1 (.int ((x.p : Int) + 1)) = (⟨x.s, x.p + 1, x.b, x.r⟩ : Rw).ds := rfl
theorem rw_s2 (x : Rw) (v : Int) : x.ds.set 2 (.int v) = (⟨x.s, x.p, v, x.r⟩ : Rw).ds := rfl
theorem rw_s3 (x : Rw) (v : Int) : x.ds.set 3 (.int v) = (⟨x.s, x.p, x.b, v⟩ : Rw).ds := rfl
theorem pick_head (x : Rw) (m : Option Cl) (n : Nat) : ∃ c2, pickHd n [some (.lst x.ds), m, none, none] = some (.nx [some (.lst x.next.ds), m, c2, none]) := by
  have e3 := e_gMulI (i := x.r) (j := 48271) (.inr (by decide))
  unfold Rw.next
  by_cases hb : x.b = 0
  · rw [if_pos hb]
    cases hs : x.s[x.p]? with
    | some c =>
      have hp : x.p < x.s.length := (List.getElem?_eq_some_iff.mp hs).1
      have hp' : (x.p : Int) < (x.s.length : Int) := by omega
      have ac : atI (zs x.s) (x.p : Int) = some (.int c) := atI_zs hs
      have e4 := e_gMulI (i := c) (j := 69621) (.inr (by decide))
      have e5 := e_gModI (i := x.r * 48271 + c * 69621 + 11) (j := 2147483647) (by decide)
      refine ⟨some (.i c), ?_⟩
      by_cases hc : (10 : Int) ^ 18 ≤ c
      · have hc' : (1000000000000000000 : Int) ≤ c := hc
        dsimp only
        rw [if_pos hc]
        simp [pickHd, rw_a0, rw_a1, rw_a2, hb, hp', ac, pow18, hc', setIx, rw_i1, rw_s1, rw_i2, rw_s2]
      · have hc' : ¬ (1000000000000000000 : Int) ≤ c := hc
        dsimp only
        rw [if_neg hc]
        simp [pickHd, rw_a0, rw_a1, rw_a2, rw_a3, hb, hp', ac, pow18, hc', setIx, rw_i1, rw_s1, e3, e4, e5, rw_i3, rw_s3]
    | none =>
      have hp : x.s.length ≤ x.p := List.getElem?_eq_none_iff.mp hs
      have hp' : ¬ (x.p : Int) < (x.s.length : Int) := by omega
      have e5 := e_gModI (i := x.r * 48271 + 7) (j := 2147483647) (by decide)
      refine ⟨none, ?_⟩
      simp [pickHd, rw_a0, rw_a1, rw_a2, rw_a3, hb, hp', e3, e5, setIx, rw_i3, rw_s3]
  · rw [if_neg hb]
    refine ⟨none, ?_⟩
    simp [pickHd, rw_a2, hb]
theorem h__law_pick : ∀ cs o, m__law_pick cs = some o → ∃ n out, g__law_pick n (startR 4 cs) = some out ∧ fin [true, true] out = some o := fun cs o h => by
  unfold m__law_pick at h
  split at h
  case h_2 => cases h
  rename_i ds many
  cases q : Rw.of ds with
  | none => rw [q] at h; cases h
  | some x =>
    rw [q] at h
    cases rw_of q
    dsimp only at h
    split at h
    case isFalse => cases h
    rename_i hm
    cases h
    obtain ⟨c2, e1⟩ := pick_head x (some (.i many)) 0
    obtain ⟨c2', c3', e2⟩ := pick_tail x.next many hm.1 hm.2 c2 none 0
    refine ⟨0, if 0 < x.next.b then .rt (.i (x.next.b.fmod many)) [some (.lst { x.next with b := x.next.b.fdiv many }.ds), some (.i many), c2', c3'] else .rt (.i (((x.next.r * 16807).fmod 2147483629).fmod many)) [some (.lst x.next.ds), some (.i many), c2', c3'], ?_, ?_⟩
    · show g__law_pick 0 [some (.lst x.ds), some (.i many), none, none] = _
      rw [pick_eq, e_sSeq, e1]
      exact e2
    · unfold Rw.pick
      split <;> rfl
theorem pick_rg (x : Rw) {many : Int} (h : 0 < many) : 0 ≤ (x.pick many).1 ∧ (x.pick many).1 < many := by
  unfold Rw.pick
  split
  · exact fm_pos _ h
  · exact fm_pos _ h
theorem pick_ok (x : Rw) {many : Int} (h1 : 0 < many) (h2 : many < 2 ^ 64) : m__law_pick [.lst x.ds, .fz (.int many)] = some (.ok (.i (x.pick many).1) [some (.lst (x.pick many).2.ds), some (.i many)]) := by
  unfold m__law_pick
  dsimp only
  rw [of_rw]
  exact if_pos ⟨h1, h2⟩
theorem pick_ex (x : Rw) {k : Int} (h1 : 0 < k) (h2 : k < 2 ^ 64) : ∃ (v : Int) (x1 : Rw), 0 ≤ v ∧ v < k ∧ m__law_pick [.lst x.ds, .fz (.int k)] = some (.ok (.i v) [some (.lst x1.ds), some (.i k)]) := ⟨_, _, (pick_rg x h1).1, (pick_rg x h1).2, pick_ok x h1 h2⟩
end L3

namespace L3
open PySem PySem.Spec L2
/-! ### the law -/
theorem raised_0 : m__law_raised [.fz (.int 0)] = some (.ok (.exn "BadPrime" []) [some (.fz (.int 0))]) := by kernel_rfl
theorem rest_0 (S R : Cl) : sSeq st_law_4 (sSeq st_law_5 st_law_6) 0 [some S, some R, some (.fz (.int 0)), some (.exn "BadPrime" []), none] = some (.rt (.fz (.bool true)) [some S, some R, some (.fz (.int 0)), some (.exn "BadPrime" []), none]) := by kernel_rfl
theorem raised_1 : m__law_raised [.fz (.int 1)] = some (.ok (.exn "BadNumber" []) [some (.fz (.int 1))]) := by kernel_rfl
theorem rest_1 (S R : Cl) : sSeq st_law_4 (sSeq st_law_5 st_law_6) 0 [some S, some R, some (.fz (.int 1)), some (.exn "BadNumber" []), none] = some (.rt (.fz (.bool true)) [some S, some R, some (.fz (.int 1)), some (.exn "BadNumber" []), none]) := by kernel_rfl
theorem raised_2 : m__law_raised [.fz (.int 2)] = some (.ok (.exn "BadPoints" []) [some (.fz (.int 2))]) := by kernel_rfl
theorem rest_2 (S R : Cl) : sSeq st_law_4 (sSeq st_law_5 st_law_6) 0 [some S, some R, some (.fz (.int 2)), some (.exn "BadPoints" []), none] = some (.rt (.fz (.bool true)) [some S, some R, some (.fz (.int 2)), some (.exn "BadPoints" []), none]) := by kernel_rfl
theorem raised_3 : m__law_raised [.fz (.int 3)] = some (.ok (.exn "BadRoots" []) [some (.fz (.int 3))]) := by kernel_rfl
theorem rest_3 (S R : Cl) : sSeq st_law_4 (sSeq st_law_5 st_law_6) 0 [some S, some R, some (.fz (.int 3)), some (.exn "BadRoots" []), none] = some (.rt (.fz (.bool true)) [some S, some R, some (.fz (.int 3)), some (.exn "BadRoots" []), none]) := by kernel_rfl
theorem raised_4 : m__law_raised [.fz (.int 4)] = some (.ok (.exn "Zero" []) [some (.fz (.int 4))]) := by kernel_rfl
theorem rest_4 (S R : Cl) : sSeq st_law_4 (sSeq st_law_5 st_law_6) 0 [some S, some R, some (.fz (.int 4)), some (.exn "Zero" []), none] = some (.rt (.fz (.bool true)) [some S, some R, some (.fz (.int 4)), some (.exn "Zero" []), none]) := by kernel_rfl
theorem raised_5 : m__law_raised [.fz (.int 5)] = some (.ok (.exn "Flat" []) [some (.fz (.int 5))]) := by kernel_rfl
theorem rest_5 (S R : Cl) : sSeq st_law_4 (sSeq st_law_5 st_law_6) 0 [some S, some R, some (.fz (.int 5)), some (.exn "Flat" []), none] = some (.rt (.fz (.bool true)) [some S, some R, some (.fz (.int 5)), some (.exn "Flat" []), none]) := by kernel_rfl
theorem raised_6 : m__law_raised [.fz (.int 6)] = some (.ok (.exn "Common" []) [some (.fz (.int 6))]) := by kernel_rfl
theorem rest_6 (S R : Cl) : sSeq st_law_4 (sSeq st_law_5 st_law_6) 0 [some S, some R, some (.fz (.int 6)), some (.exn "Common" []), none] = some (.rt (.fz (.bool true)) [some S, some R, some (.fz (.int 6)), some (.exn "Common" []), none]) := by kernel_rfl
theorem raised_7 : m__law_raised [.fz (.int 7)] = some (.ok (.exn "Rising" []) [some (.fz (.int 7))]) := by kernel_rfl
theorem rest_7 (S R : Cl) : sSeq st_law_4 (sSeq st_law_5 st_law_6) 0 [some S, some R, some (.fz (.int 7)), some (.exn "Rising" []), none] = some (.rt (.fz (.bool true)) [some S, some R, some (.fz (.int 7)), some (.exn "Rising" []), none]) := by kernel_rfl
theorem raised_8 : m__law_raised [.fz (.int 8)] = some (.ok (.exn "BadPoly" [("index", .int 2)]) [some (.fz (.int 8))]) := by kernel_rfl
theorem rest_8 (S R : Cl) : sSeq st_law_4 (sSeq st_law_5 st_law_6) 0 [some S, some R, some (.fz (.int 8)), some (.exn "BadPoly" [("index", .int 2)]), none] = some (.rt (.fz (.bool true)) [some S, some R, some (.fz (.int 8)), some (.exn "BadPoly" [("index", .int 2)]), none]) := by kernel_rfl
theorem raised_9 : m__law_raised [.fz (.int 9)] = some (.ok (.exn "BadLists" [("index", .none)]) [some (.fz (.int 9))]) := by kernel_rfl
theorem rest_9 (S R : Cl) : sSeq st_law_4 (sSeq st_law_5 st_law_6) 0 [some S, some R, some (.fz (.int 9)), some (.exn "BadLists" [("index", .none)]), none] = some (.rt (.fz (.bool true)) [some S, some R, some (.fz (.int 9)), some (.exn "BadLists" [("index", .none)]), none]) := by kernel_rfl
theorem raised_10 : m__law_raised [.fz (.int 10)] = some (.ok (.exn "BadLine" [("word", .int 3), ("line", .int 2)]) [some (.fz (.int 10))]) := by kernel_rfl
theorem rest_10 (S R : Cl) : sSeq st_law_4 (sSeq st_law_5 st_law_6) 0 [some S, some R, some (.fz (.int 10)), some (.exn "BadLine" [("word", .int 3), ("line", .int 2)]), none] = some (.rt (.fz (.bool true)) [some S, some R, some (.fz (.int 10)), some (.exn "BadLine" [("word", .int 3), ("line", .int 2)]), none]) := by kernel_rfl
theorem rest_all {k : Int} (h0 : 0 ≤ k) (h1 : k < 11) (S R : Cl) : ∃ c fs, m__law_raised [.fz (.int k)] = some (.ok (.exn c fs) [some (.fz (.int k))]) ∧ sSeq st_law_4 (sSeq st_law_5 st_law_6) 0 [some S, some R, some (.fz (.int k)), some (.exn c fs), none] = some (.rt (.fz (.bool true)) [some S, some R, some (.fz (.int k)), some (.exn c fs), none]) := by
  obtain ⟨n, rfl⟩ : ∃ n : Nat, k = (n : Int) := ⟨k.toNat, by omega⟩
  have hn : n < 11 := by omega
  match n, hn with
  | 0, _ => exact ⟨_, _, raised_0, rest_0 S R⟩
  | 1, _ => exact ⟨_, _, raised_1, rest_1 S R⟩
  | 2, _ => exact ⟨_, _, raised_2, rest_2 S R⟩
  | 3, _ => exact ⟨_, _, raised_3, rest_3 S R⟩
  | 4, _ => exact ⟨_, _, raised_4, rest_4 S R⟩
  | 5, _ => exact ⟨_, _, raised_5, rest_5 S R⟩
  | 6, _ => exact ⟨_, _, raised_6, rest_6 S R⟩
  | 7, _ => exact ⟨_, _, raised_7, rest_7 S R⟩
  | 8, _ => exact ⟨_, _, raised_8, rest_8 S R⟩
  | 9, _ => exact ⟨_, _, raised_9, rest_9 S R⟩
  | 10, _ => exact ⟨_, _, raised_10, rest_10 S R⟩
  | n + 11, h => exact absurd h (by omega)
theorem h_law : ∀ cs o, m_law cs = some o → ∃ n out, g_law n (startR 5 cs) = some out ∧ fin [true] out = some o := fun cs o h => by
  unfold m_law at h
  split at h
  case h_2 => cases h
  rename_i ds
  cases q : intsD ds with
  | none => rw [q] at h; cases h
  | some ns =>
    rw [q] at h
    cases h
    have e1 : m__law_draws [.fz (.list ds)] = some (.ok (.lst (Rw.ds ⟨ns, 0, 0, 7⟩)) [some (.fz (.list ds))]) := by
      unfold m__law_draws
      dsimp only
      rw [q]
    obtain ⟨v, x1, v0, v1, e2⟩ := pick_ex ⟨ns, 0, 0, 7⟩ (k := 11) (by decide) (by decide)
    have s1 : ∀ R : FS, sSeq st_law_1 R 0 [some (.fz (.list ds)), none, none, none, none] = R 0 [some (.fz (.list ds)), some (.lst (Rw.ds ⟨ns, 0, 0, 7⟩)), none, none, none] := fun R => by
      simp [st_law_1, e1]
    have s2 : ∀ R : FS, sSeq st_law_2 R 0 [some (.fz (.list ds)), some (.lst (Rw.ds ⟨ns, 0, 0, 7⟩)), none, none, none] = R 0 [some (.fz (.list ds)), some (.lst x1.ds), some (.fz (.int v)), none, none] := fun R => by
      simp [st_law_2, e2]
    obtain ⟨c, fs, r1, r2⟩ := rest_all v0 v1 (.fz (.list ds)) (.lst x1.ds)
    have s3 : ∀ R : FS, sSeq st_law_3 R 0 [some (.fz (.list ds)), some (.lst x1.ds), some (.fz (.int v)), none, none] = R 0 [some (.fz (.list ds)), some (.lst x1.ds), some (.fz (.int v)), some (.exn c fs), none] := fun R => by
      simp [st_law_3, r1]
    refine ⟨0, .rt (.b true) [some (.fz (.list ds)), some (.lst x1.ds), some (.fz (.int v)), some (.exn c fs), none], ?_, rfl⟩
    show sSeq st_law_1 (sSeq st_law_2 (sSeq st_law_3 (sSeq st_law_4 (sSeq st_law_5 st_law_6)))) 0 [some (.fz (.list ds)), none, none, none, none] = _
    rw [s1, s2, s3, r2]
theorem m_law_true (ns : List Int) : ∃ outs, m_law [.fz (.list (zs ns))] = some (.ok (.b true) outs) := by
  unfold m_law
  dsimp only
  rw [intsD_zs]
  exact ⟨_, rfl⟩
end L3

namespace L3
open PySem PySem.Spec L2 PyProof.Rows

def topS (i : Nat) : Stmt := PySem.Challenge.pw_fewroots_k17_errors_apart.main.body.getD i (.Pass ⟨0, 0, 0, 0⟩)
abbrev s__law_draws : Stmt := topS 84
theorem sc__law_draws : FnScope ["_law_script"] ["_law_script"] (defScope s__law_draws) := ⟨rfl, rfl, rfl, by decide +kernel, rfl, by decide +kernel, by decide +kernel⟩
abbrev s__law_pick : Stmt := topS 85
theorem sc__law_pick : FnScope ["_law_row", "_law_many", "_law_cell", "_law_found"] ["_law_row", "_law_many"] (defScope s__law_pick) := ⟨rfl, rfl, rfl, by decide +kernel, rfl, by decide +kernel, by decide +kernel⟩
abbrev s_is_from : Stmt := topS 17
theorem sc_is_from : FnScope ["value", "low", "high"] ["value", "low", "high"] (defScope s_is_from) := ⟨rfl, rfl, rfl, by decide +kernel, rfl, by decide +kernel, by decide +kernel⟩
abbrev s_check_prime : Stmt := topS 57
theorem sc_check_prime : FnScope ["value"] ["value"] (defScope s_check_prime) := ⟨rfl, rfl, rfl, by decide +kernel, rfl, by decide +kernel, by decide +kernel⟩
abbrev s_unlike_by : Stmt := topS 65
theorem sc_unlike_by : FnScope ["prime", "one"] ["prime", "one"] (defScope s_unlike_by) := ⟨rfl, rfl, rfl, by decide +kernel, rfl, by decide +kernel, by decide +kernel⟩
abbrev s_check_power : Stmt := topS 53
theorem sc_check_power : FnScope ["value"] ["value"] (defScope s_check_power) := ⟨rfl, rfl, rfl, by decide +kernel, rfl, by decide +kernel, by decide +kernel⟩
abbrev s_barred : Stmt := topS 54
theorem sc_barred : FnScope ["first", "second", "third"] ["first", "second", "third"] (defScope s_barred) := ⟨rfl, rfl, rfl, by decide +kernel, rfl, by decide +kernel, by decide +kernel⟩
abbrev s_is_point : Stmt := topS 47
theorem sc_is_point : FnScope ["value"] ["value"] (defScope s_is_point) := ⟨rfl, rfl, rfl, by decide +kernel, rfl, by decide +kernel, by decide +kernel⟩
abbrev s_check_points : Stmt := topS 48
theorem sc_check_points : FnScope ["value", "point"] ["value"] (defScope s_check_points) := ⟨rfl, rfl, rfl, by decide +kernel, rfl, by decide +kernel, by decide +kernel⟩
abbrev s_trimmed : Stmt := topS 19
theorem sc_trimmed : FnScope ["row", "many"] ["row"] (defScope s_trimmed) := ⟨rfl, rfl, rfl, by decide +kernel, rfl, by decide +kernel, by decide +kernel⟩
abbrev s_plus_of : Stmt := topS 20
theorem sc_plus_of : FnScope ["one", "other", "size", "first", "second", "a", "b"] ["one", "other"] (defScope s_plus_of) := ⟨rfl, rfl, rfl, by decide +kernel, rfl, by decide +kernel, by decide +kernel⟩
abbrev s_scaled : Stmt := topS 21
theorem sc_scaled : FnScope ["one", "number", "a"] ["one", "number"] (defScope s_scaled) := ⟨rfl, rfl, rfl, by decide +kernel, rfl, by decide +kernel, by decide +kernel⟩
abbrev s_times_of : Stmt := topS 23
theorem sc_times_of : FnScope ["one", "other", "found", "at", "a", "place", "b"] ["one", "other"] (defScope s_times_of) := ⟨rfl, rfl, rfl, by decide +kernel, rfl, by decide +kernel, by decide +kernel⟩
abbrev s_through : Stmt := topS 50
theorem sc_through : FnScope ["points", "found", "number", "place", "height", "part", "below", "other", "beside"] ["points"] (defScope s_through) := ⟨rfl, rfl, rfl, by decide +kernel, rfl, by decide +kernel, by decide +kernel⟩
abbrev s_is_root : Stmt := topS 70
theorem sc_is_root : FnScope ["value"] ["value"] (defScope s_is_root) := ⟨rfl, rfl, rfl, by decide +kernel, rfl, by decide +kernel, by decide +kernel⟩
abbrev s_by_roots : Stmt := topS 71
theorem sc_by_roots : FnScope ["rows", "row", "root", "times", "found"] ["rows"] (defScope s_by_roots) := ⟨rfl, rfl, rfl, by decide +kernel, rfl, by decide +kernel, by decide +kernel⟩
abbrev s_check_poly : Stmt := topS 18
theorem sc_check_poly : FnScope ["value", "index", "one"] ["value"] (defScope s_check_poly) := ⟨rfl, rfl, rfl, by decide +kernel, rfl, by decide +kernel, by decide +kernel⟩
abbrev s_check_zero : Stmt := topS 35
theorem sc_check_zero : FnScope ["one"] ["one"] (defScope s_check_zero) := ⟨rfl, rfl, rfl, by decide +kernel, rfl, by decide +kernel, by decide +kernel⟩
abbrev s_unlike : Stmt := topS 36
theorem sc_unlike : FnScope ["one"] ["one"] (defScope s_unlike) := ⟨rfl, rfl, rfl, by decide +kernel, rfl, by decide +kernel, by decide +kernel⟩
abbrev s_divisor : Stmt := topS 28
theorem sc_divisor : FnScope ["one", "other"] ["one", "other"] (defScope s_divisor) := ⟨rfl, rfl, rfl, by decide +kernel, rfl, by decide +kernel, by decide +kernel⟩
abbrev s_plain : Stmt := topS 29
theorem sc_plain : FnScope ["one", "found", "a"] ["one"] (defScope s_plain) := ⟨rfl, rfl, rfl, by decide +kernel, rfl, by decide +kernel, by decide +kernel⟩
abbrev s_less_of : Stmt := topS 22
theorem sc_less_of : FnScope ["one", "other"] ["one", "other"] (defScope s_less_of) := ⟨rfl, rfl, rfl, by decide +kernel, rfl, by decide +kernel, by decide +kernel⟩
abbrev s_left_over : Stmt := topS 30
theorem sc_left_over : FnScope ["one", "other", "shift"] ["one", "other"] (defScope s_left_over) := ⟨rfl, rfl, rfl, by decide +kernel, rfl, by decide +kernel, by decide +kernel⟩
abbrev s_common_of : Stmt := topS 31
theorem sc_common_of : FnScope ["one", "other"] ["one", "other"] (defScope s_common_of) := ⟨rfl, rfl, rfl, by decide +kernel, rfl, by decide +kernel, by decide +kernel⟩
abbrev s_check_sum : Stmt := topS 38
theorem sc_check_sum : FnScope ["one", "other"] ["one", "other"] (defScope s_check_sum) := ⟨rfl, rfl, rfl, by decide +kernel, rfl, by decide +kernel, by decide +kernel⟩
abbrev s_measure : Stmt := topS 39
theorem sc_measure : FnScope ["one", "other", "whole", "degree", "roots", "part"] ["one", "other"] (defScope s_measure) := ⟨rfl, rfl, rfl, by decide +kernel, rfl, by decide +kernel, by decide +kernel⟩
abbrev s_Desk_step : Stmt := clsNth (topS 42) 3
theorem sc_Desk_step : FnScope ["self", "one", "other", "a"] ["self", "one", "other"] (defScope s_Desk_step) := ⟨rfl, rfl, rfl, by decide +kernel, rfl, by decide +kernel, by decide +kernel⟩
abbrev s_Desk_stretch : Stmt := clsNth (topS 42) 5
theorem sc_Desk_stretch : FnScope ["self", "by", "one", "other"] ["self", "by"] (defScope s_Desk_stretch) := ⟨rfl, rfl, rfl, by decide +kernel, rfl, by decide +kernel, by decide +kernel⟩
abbrev s_plus : Stmt := topS 26
theorem sc_plus : FnScope ["one", "other"] ["one", "other"] (defScope s_plus) := ⟨rfl, rfl, rfl, by decide +kernel, rfl, by decide +kernel, by decide +kernel⟩
abbrev s_Desk___init__ : Stmt := clsNth (topS 42) 0
theorem sc_Desk___init__ : FnScope ["self", "one", "other"] ["self", "one", "other"] (defScope s_Desk___init__) := ⟨rfl, rfl, rfl, by decide +kernel, rfl, by decide +kernel, by decide +kernel⟩
abbrev s_is_list : Stmt := topS 72
theorem sc_is_list : FnScope ["value", "one"] ["value"] (defScope s_is_list) := ⟨rfl, rfl, rfl, by decide +kernel, rfl, by decide +kernel, by decide +kernel⟩
abbrev s_check_lists : Stmt := topS 73
theorem sc_check_lists : FnScope ["one", "other", "index", "told"] ["one", "other"] (defScope s_check_lists) := ⟨rfl, rfl, rfl, by decide +kernel, rfl, by decide +kernel, by decide +kernel⟩
abbrev s_tree : Stmt := topS 75
theorem sc_tree : FnScope ["one", "other"] ["one", "other"] (defScope s_tree) := ⟨rfl, rfl, rfl, by decide +kernel, rfl, by decide +kernel, by decide +kernel⟩
abbrev s_is_whole : Stmt := topS 80
theorem sc_is_whole : FnScope ["word", "figures", "sign"] ["word"] (defScope s_is_whole) := ⟨rfl, rfl, rfl, by decide +kernel, rfl, by decide +kernel, by decide +kernel⟩
abbrev s_poly_in : Stmt := topS 81
theorem sc_poly_in : FnScope ["words", "line", "found", "at", "word"] ["words", "line"] (defScope s_poly_in) := ⟨rfl, rfl, rfl, by decide +kernel, rfl, by decide +kernel, by decide +kernel⟩
abbrev s_read : Stmt := topS 82
theorem sc_read : FnScope ["text", "lines", "line", "word", "one", "other"] ["text"] (defScope s_read) := ⟨rfl, rfl, rfl, by decide +kernel, rfl, by decide +kernel, by decide +kernel⟩
abbrev s__law_raised : Stmt := topS 86
theorem sc__law_raised : FnScope ["_law_k", "_law_found", "_law_e"] ["_law_k"] (defScope s__law_raised) := ⟨rfl, rfl, rfl, by decide +kernel, rfl, by decide +kernel, by decide +kernel⟩
abbrev s__law_kinds : Stmt := topS 87
theorem sc__law_kinds : FnScope ["_law_e", "_law_found"] ["_law_e"] (defScope s__law_kinds) := ⟨rfl, rfl, rfl, by decide +kernel, rfl, by decide +kernel, by decide +kernel⟩
abbrev s_law : Stmt := topS 88
theorem sc_law : FnScope ["_law_script", "_law_row", "_law_k", "_law_found", "_law_j"] ["_law_script"] (defScope s_law) := ⟨rfl, rfl, rfl, by decide +kernel, rfl, by decide +kernel, by decide +kernel⟩
abbrev s_check_rests : Stmt := topS 58
abbrev s_roots_by : Stmt := topS 64
abbrev s_reduced : Stmt := topS 49
abbrev s_power_of : Stmt := topS 24
abbrev s_many_roots : Stmt := topS 34
abbrev s_tree_of : Stmt := topS 74
structure Ad where
  f_check_rests : Addr
  d_check_rests : FuncData
  f_roots_by : Addr
  d_roots_by : FuncData
  f_reduced : Addr
  d_reduced : FuncData
  f_power_of : Addr
  d_power_of : FuncData
  f_many_roots : Addr
  d_many_roots : FuncData
  f_tree_of : Addr
  d_tree_of : FuncData
  f__law_draws : Addr
  d__law_draws : FuncData
  f__law_pick : Addr
  d__law_pick : FuncData
  f_is_from : Addr
  d_is_from : FuncData
  f_check_prime : Addr
  d_check_prime : FuncData
  f_unlike_by : Addr
  d_unlike_by : FuncData
  f_check_power : Addr
  d_check_power : FuncData
  f_barred : Addr
  d_barred : FuncData
  f_is_point : Addr
  d_is_point : FuncData
  f_check_points : Addr
  d_check_points : FuncData
  f_trimmed : Addr
  d_trimmed : FuncData
  f_plus_of : Addr
  d_plus_of : FuncData
  f_scaled : Addr
  d_scaled : FuncData
  f_times_of : Addr
  d_times_of : FuncData
  f_through : Addr
  d_through : FuncData
  f_is_root : Addr
  d_is_root : FuncData
  f_by_roots : Addr
  d_by_roots : FuncData
  f_check_poly : Addr
  d_check_poly : FuncData
  f_check_zero : Addr
  d_check_zero : FuncData
  f_unlike : Addr
  d_unlike : FuncData
  f_divisor : Addr
  d_divisor : FuncData
  f_plain : Addr
  d_plain : FuncData
  f_less_of : Addr
  d_less_of : FuncData
  f_left_over : Addr
  d_left_over : FuncData
  f_common_of : Addr
  d_common_of : FuncData
  f_check_sum : Addr
  d_check_sum : FuncData
  f_measure : Addr
  d_measure : FuncData
  f_Desk_step : Addr
  d_Desk_step : FuncData
  f_Desk_stretch : Addr
  d_Desk_stretch : FuncData
  f_plus : Addr
  d_plus : FuncData
  f_Desk___init__ : Addr
  d_Desk___init__ : FuncData
  f_is_list : Addr
  d_is_list : FuncData
  f_check_lists : Addr
  d_check_lists : FuncData
  f_tree : Addr
  d_tree : FuncData
  f_is_whole : Addr
  d_is_whole : FuncData
  f_poly_in : Addr
  d_poly_in : FuncData
  f_read : Addr
  d_read : FuncData
  f__law_raised : Addr
  d__law_raised : FuncData
  f__law_kinds : Addr
  d__law_kinds : FuncData
  f_law : Addr
  d_law : FuncData
  C_Desk : Addr
  C_BadLine : Addr
  C_BadLists : Addr
  C_BadNumber : Addr
  C_BadPoints : Addr
  C_BadPoly : Addr
  C_BadPrime : Addr
  C_BadRoots : Addr
  C_Common : Addr
  C_Flat : Addr
  C_Rising : Addr
  C_RootError : Addr
  C_Zero : Addr
  fi_BadLine : Addr
  di_BadLine : FuncData
  fi_BadLists : Addr
  di_BadLists : FuncData
  fi_BadPoly : Addr
  di_BadPoly : FuncData
  t_DIGITS : Tok
  t_FAR : Tok
  t_MOST_FIGURES : Tok
  t_MOST_HEIGHT : Tok
  t_MOST_LIST : Tok
  t_MOST_PLACE : Tok
  t_MOST_POINTS : Tok
  t_MOST_POWER : Tok
  t_MOST_ROOT : Tok
  t_MOST_STRETCH : Tok
  t_MOST_TERMS : Tok
  t_MOST_TIMES : Tok
  t_POLY : Tok
  t_PRIMES : Addr
  un : Unit
structure Evd (P : Program) (w : World) (K : PySem.W.Frag) (mg : Str → Option Value) (base : Heap) (A0 : Ad) : Prop where
  F_check_rests : Fun K "check_rests" "check_rests" s_check_rests A0.f_check_rests A0.d_check_rests
  b_check_rests : Binds K A0.d_check_rests ["prime", "value"] []
  m_check_rests : mg "check_rests" = some (.ref A0.f_check_rests)
  F_roots_by : Fun K "roots_by" "roots_by" s_roots_by A0.f_roots_by A0.d_roots_by
  b_roots_by : Binds K A0.d_roots_by ["prime", "one"] []
  m_roots_by : mg "roots_by" = some (.ref A0.f_roots_by)
  F_reduced : Fun K "reduced" "reduced" s_reduced A0.f_reduced A0.d_reduced
  b_reduced : Binds K A0.d_reduced ["one", "number"] []
  m_reduced : mg "reduced" = some (.ref A0.f_reduced)
  F_power_of : Fun K "power_of" "power_of" s_power_of A0.f_power_of A0.d_power_of
  b_power_of : Binds K A0.d_power_of ["one", "many"] []
  m_power_of : mg "power_of" = some (.ref A0.f_power_of)
  F_many_roots : Fun K "many_roots" "many_roots" s_many_roots A0.f_many_roots A0.d_many_roots
  b_many_roots : Binds K A0.d_many_roots ["one"] []
  m_many_roots : mg "many_roots" = some (.ref A0.f_many_roots)
  F_tree_of : Fun K "tree_of" "tree_of" s_tree_of A0.f_tree_of A0.d_tree_of
  b_tree_of : Binds K A0.d_tree_of ["one", "other"] []
  m_tree_of : mg "tree_of" = some (.ref A0.f_tree_of)
  F__law_draws : Fun K "_law_draws" "_law_draws" s__law_draws A0.f__law_draws A0.d__law_draws
  b__law_draws : Binds K A0.d__law_draws ["_law_script"] []
  m__law_draws : mg "_law_draws" = some (.ref A0.f__law_draws)
  F__law_pick : Fun K "_law_pick" "_law_pick" s__law_pick A0.f__law_pick A0.d__law_pick
  b__law_pick : Binds K A0.d__law_pick ["_law_row", "_law_many"] []
  m__law_pick : mg "_law_pick" = some (.ref A0.f__law_pick)
  F_is_from : Fun K "is_from" "is_from" s_is_from A0.f_is_from A0.d_is_from
  b_is_from : Binds K A0.d_is_from ["value", "low", "high"] []
  m_is_from : mg "is_from" = some (.ref A0.f_is_from)
  F_check_prime : Fun K "check_prime" "check_prime" s_check_prime A0.f_check_prime A0.d_check_prime
  b_check_prime : Binds K A0.d_check_prime ["value"] []
  m_check_prime : mg "check_prime" = some (.ref A0.f_check_prime)
  F_unlike_by : Fun K "unlike_by" "unlike_by" s_unlike_by A0.f_unlike_by A0.d_unlike_by
  b_unlike_by : Binds K A0.d_unlike_by ["prime", "one"] []
  m_unlike_by : mg "unlike_by" = some (.ref A0.f_unlike_by)
  F_check_power : Fun K "check_power" "check_power" s_check_power A0.f_check_power A0.d_check_power
  b_check_power : Binds K A0.d_check_power ["value"] []
  m_check_power : mg "check_power" = some (.ref A0.f_check_power)
  F_barred : Fun K "barred" "barred" s_barred A0.f_barred A0.d_barred
  b_barred : Binds K A0.d_barred ["first", "second", "third"] []
  m_barred : mg "barred" = some (.ref A0.f_barred)
  F_is_point : Fun K "is_point" "is_point" s_is_point A0.f_is_point A0.d_is_point
  b_is_point : Binds K A0.d_is_point ["value"] []
  m_is_point : mg "is_point" = some (.ref A0.f_is_point)
  F_check_points : Fun K "check_points" "check_points" s_check_points A0.f_check_points A0.d_check_points
  b_check_points : Binds K A0.d_check_points ["value"] []
  m_check_points : mg "check_points" = some (.ref A0.f_check_points)
  F_trimmed : Fun K "trimmed" "trimmed" s_trimmed A0.f_trimmed A0.d_trimmed
  b_trimmed : Binds K A0.d_trimmed ["row"] []
  m_trimmed : mg "trimmed" = some (.ref A0.f_trimmed)
  F_plus_of : Fun K "plus_of" "plus_of" s_plus_of A0.f_plus_of A0.d_plus_of
  b_plus_of : Binds K A0.d_plus_of ["one", "other"] []
  m_plus_of : mg "plus_of" = some (.ref A0.f_plus_of)
  F_scaled : Fun K "scaled" "scaled" s_scaled A0.f_scaled A0.d_scaled
  b_scaled : Binds K A0.d_scaled ["one", "number"] []
  m_scaled : mg "scaled" = some (.ref A0.f_scaled)
  F_times_of : Fun K "times_of" "times_of" s_times_of A0.f_times_of A0.d_times_of
  b_times_of : Binds K A0.d_times_of ["one", "other"] []
  m_times_of : mg "times_of" = some (.ref A0.f_times_of)
  F_through : Fun K "through" "through" s_through A0.f_through A0.d_through
  b_through : Binds K A0.d_through ["points"] []
  m_through : mg "through" = some (.ref A0.f_through)
  F_is_root : Fun K "is_root" "is_root" s_is_root A0.f_is_root A0.d_is_root
  b_is_root : Binds K A0.d_is_root ["value"] []
  m_is_root : mg "is_root" = some (.ref A0.f_is_root)
  F_by_roots : Fun K "by_roots" "by_roots" s_by_roots A0.f_by_roots A0.d_by_roots
  b_by_roots : Binds K A0.d_by_roots ["rows"] []
  m_by_roots : mg "by_roots" = some (.ref A0.f_by_roots)
  F_check_poly : Fun K "check_poly" "check_poly" s_check_poly A0.f_check_poly A0.d_check_poly
  b_check_poly : Binds K A0.d_check_poly ["value"] []
  m_check_poly : mg "check_poly" = some (.ref A0.f_check_poly)
  F_check_zero : Fun K "check_zero" "check_zero" s_check_zero A0.f_check_zero A0.d_check_zero
  b_check_zero : Binds K A0.d_check_zero ["one"] []
  m_check_zero : mg "check_zero" = some (.ref A0.f_check_zero)
  F_unlike : Fun K "unlike" "unlike" s_unlike A0.f_unlike A0.d_unlike
  b_unlike : Binds K A0.d_unlike ["one"] []
  m_unlike : mg "unlike" = some (.ref A0.f_unlike)
  F_divisor : Fun K "divisor" "divisor" s_divisor A0.f_divisor A0.d_divisor
  b_divisor : Binds K A0.d_divisor ["one", "other"] []
  m_divisor : mg "divisor" = some (.ref A0.f_divisor)
  F_plain : Fun K "plain" "plain" s_plain A0.f_plain A0.d_plain
  b_plain : Binds K A0.d_plain ["one"] []
  m_plain : mg "plain" = some (.ref A0.f_plain)
  F_less_of : Fun K "less_of" "less_of" s_less_of A0.f_less_of A0.d_less_of
  b_less_of : Binds K A0.d_less_of ["one", "other"] []
  m_less_of : mg "less_of" = some (.ref A0.f_less_of)
  F_left_over : Fun K "left_over" "left_over" s_left_over A0.f_left_over A0.d_left_over
  b_left_over : Binds K A0.d_left_over ["one", "other"] []
  m_left_over : mg "left_over" = some (.ref A0.f_left_over)
  F_common_of : Fun K "common_of" "common_of" s_common_of A0.f_common_of A0.d_common_of
  b_common_of : Binds K A0.d_common_of ["one", "other"] []
  m_common_of : mg "common_of" = some (.ref A0.f_common_of)
  F_check_sum : Fun K "check_sum" "check_sum" s_check_sum A0.f_check_sum A0.d_check_sum
  b_check_sum : Binds K A0.d_check_sum ["one", "other"] []
  m_check_sum : mg "check_sum" = some (.ref A0.f_check_sum)
  F_measure : Fun K "measure" "measure" s_measure A0.f_measure A0.d_measure
  b_measure : Binds K A0.d_measure ["one", "other"] []
  m_measure : mg "measure" = some (.ref A0.f_measure)
  F_Desk_step : Fun K "step" "Desk.step" s_Desk_step A0.f_Desk_step A0.d_Desk_step
  b_Desk_step : Binds K A0.d_Desk_step ["self", "one", "other"] []
  mt_Desk_step : Meth K A0.C_Desk "step" A0.f_Desk_step
  F_Desk_stretch : Fun K "stretch" "Desk.stretch" s_Desk_stretch A0.f_Desk_stretch A0.d_Desk_stretch
  b_Desk_stretch : Binds K A0.d_Desk_stretch ["self", "by"] []
  mt_Desk_stretch : Meth K A0.C_Desk "stretch" A0.f_Desk_stretch
  F_plus : Fun K "plus" "plus" s_plus A0.f_plus A0.d_plus
  b_plus : Binds K A0.d_plus ["one", "other"] []
  m_plus : mg "plus" = some (.ref A0.f_plus)
  F_Desk___init__ : Fun K "__init__" "Desk.__init__" s_Desk___init__ A0.f_Desk___init__ A0.d_Desk___init__
  b_Desk___init__ : Binds K A0.d_Desk___init__ ["self", "one", "other"] []
  F_is_list : Fun K "is_list" "is_list" s_is_list A0.f_is_list A0.d_is_list
  b_is_list : Binds K A0.d_is_list ["value"] []
  m_is_list : mg "is_list" = some (.ref A0.f_is_list)
  F_check_lists : Fun K "check_lists" "check_lists" s_check_lists A0.f_check_lists A0.d_check_lists
  b_check_lists : Binds K A0.d_check_lists ["one", "other"] []
  m_check_lists : mg "check_lists" = some (.ref A0.f_check_lists)
  F_tree : Fun K "tree" "tree" s_tree A0.f_tree A0.d_tree
  b_tree : Binds K A0.d_tree ["one", "other"] []
  m_tree : mg "tree" = some (.ref A0.f_tree)
  F_is_whole : Fun K "is_whole" "is_whole" s_is_whole A0.f_is_whole A0.d_is_whole
  b_is_whole : Binds K A0.d_is_whole ["word"] []
  m_is_whole : mg "is_whole" = some (.ref A0.f_is_whole)
  F_poly_in : Fun K "poly_in" "poly_in" s_poly_in A0.f_poly_in A0.d_poly_in
  b_poly_in : Binds K A0.d_poly_in ["words", "line"] []
  m_poly_in : mg "poly_in" = some (.ref A0.f_poly_in)
  F_read : Fun K "read" "read" s_read A0.f_read A0.d_read
  b_read : Binds K A0.d_read ["text"] []
  m_read : mg "read" = some (.ref A0.f_read)
  F__law_raised : Fun K "_law_raised" "_law_raised" s__law_raised A0.f__law_raised A0.d__law_raised
  b__law_raised : Binds K A0.d__law_raised ["_law_k"] []
  m__law_raised : mg "_law_raised" = some (.ref A0.f__law_raised)
  F__law_kinds : Fun K "_law_kinds" "_law_kinds" s__law_kinds A0.f__law_kinds A0.d__law_kinds
  b__law_kinds : Binds K A0.d__law_kinds ["_law_e"] []
  m__law_kinds : mg "_law_kinds" = some (.ref A0.f__law_kinds)
  F_law : Fun K "law" "law" s_law A0.f_law A0.d_law
  b_law : Binds K A0.d_law ["_law_script"] []
  m_law : mg "law" = some (.ref A0.f_law)
  m_Desk : mg "Desk" = some (.ref A0.C_Desk)
  cl_Desk : Cls K A0.C_Desk
  mk_Desk : Mk K A0.C_Desk A0.f_Desk___init__
  na_Desk_rows : NoAttr K A0.C_Desk "rows"
  c_DIGITS : mg "DIGITS" = some (.str "0123456789" A0.t_DIGITS)
  c_FAR : mg "FAR" = some (.int 1000000000 A0.t_FAR)
  c_MOST_FIGURES : mg "MOST_FIGURES" = some (.int 10 A0.t_MOST_FIGURES)
  c_MOST_HEIGHT : mg "MOST_HEIGHT" = some (.int 1000 A0.t_MOST_HEIGHT)
  c_MOST_LIST : mg "MOST_LIST" = some (.int 12 A0.t_MOST_LIST)
  c_MOST_PLACE : mg "MOST_PLACE" = some (.int 50 A0.t_MOST_PLACE)
  c_MOST_POINTS : mg "MOST_POINTS" = some (.int 7 A0.t_MOST_POINTS)
  c_MOST_POWER : mg "MOST_POWER" = some (.int 12 A0.t_MOST_POWER)
  c_MOST_ROOT : mg "MOST_ROOT" = some (.int 20 A0.t_MOST_ROOT)
  c_MOST_STRETCH : mg "MOST_STRETCH" = some (.int 5 A0.t_MOST_STRETCH)
  c_MOST_TERMS : mg "MOST_TERMS" = some (.int 13 A0.t_MOST_TERMS)
  c_MOST_TIMES : mg "MOST_TIMES" = some (.int 12 A0.t_MOST_TIMES)
  c_POLY : mg "POLY" = some (.str "poly" A0.t_POLY)
  c_PRIMES : mg "PRIMES" = some (.ref A0.t_PRIMES)
  p_PRIMES : TupIs K A0.t_PRIMES [2, 3, 5, 7, 11, 13, 17, 19, 23, 29, 31]
  z_ValueError : mg "ValueError" = none
  z_abs : mg "abs" = none
  z_all : mg "all" = none
  z_any : mg "any" = none
  z_bool : mg "bool" = none
  z_enumerate : mg "enumerate" = none
  z_int : mg "int" = none
  z_isinstance : mg "isinstance" = none
  z_len : mg "len" = none
  z_list : mg "list" = none
  z_max : mg "max" = none
  z_range : mg "range" = none
  z_sum : mg "sum" = none
  z_tuple : mg "tuple" = none
  z_zip : mg "zip" = none
  m_BadLine : mg "BadLine" = some (.ref A0.C_BadLine)
  e_BadLine : EcK K A0.C_BadLine
  i_BadLine : EcI P w K mg base 1 A0.C_BadLine A0.fi_BadLine A0.di_BadLine ["line", "word"]
  m_BadLists : mg "BadLists" = some (.ref A0.C_BadLists)
  e_BadLists : EcK K A0.C_BadLists
  i_BadLists : EcI P w K mg base 1 A0.C_BadLists A0.fi_BadLists A0.di_BadLists ["index"]
  m_BadNumber : mg "BadNumber" = some (.ref A0.C_BadNumber)
  e_BadNumber : EcK K A0.C_BadNumber
  n_BadNumber : EcN K A0.C_BadNumber
  m_BadPoints : mg "BadPoints" = some (.ref A0.C_BadPoints)
  e_BadPoints : EcK K A0.C_BadPoints
  n_BadPoints : EcN K A0.C_BadPoints
  m_BadPoly : mg "BadPoly" = some (.ref A0.C_BadPoly)
  e_BadPoly : EcK K A0.C_BadPoly
  i_BadPoly : EcI P w K mg base 1 A0.C_BadPoly A0.fi_BadPoly A0.di_BadPoly ["index"]
  m_BadPrime : mg "BadPrime" = some (.ref A0.C_BadPrime)
  e_BadPrime : EcK K A0.C_BadPrime
  n_BadPrime : EcN K A0.C_BadPrime
  m_BadRoots : mg "BadRoots" = some (.ref A0.C_BadRoots)
  e_BadRoots : EcK K A0.C_BadRoots
  n_BadRoots : EcN K A0.C_BadRoots
  m_Common : mg "Common" = some (.ref A0.C_Common)
  e_Common : EcK K A0.C_Common
  n_Common : EcN K A0.C_Common
  m_Flat : mg "Flat" = some (.ref A0.C_Flat)
  e_Flat : EcK K A0.C_Flat
  n_Flat : EcN K A0.C_Flat
  m_Rising : mg "Rising" = some (.ref A0.C_Rising)
  e_Rising : EcK K A0.C_Rising
  n_Rising : EcN K A0.C_Rising
  m_RootError : mg "RootError" = some (.ref A0.C_RootError)
  m_Zero : mg "Zero" = some (.ref A0.C_Zero)
  e_Zero : EcK K A0.C_Zero
  n_Zero : EcN K A0.C_Zero
  x_BadLine_RootError : PySem.W.exmOne K (.ref A0.C_BadLine) (.ref A0.C_RootError) = some true
  x_BadLists_RootError : PySem.W.exmOne K (.ref A0.C_BadLists) (.ref A0.C_RootError) = some true
  x_BadNumber_RootError : PySem.W.exmOne K (.ref A0.C_BadNumber) (.ref A0.C_RootError) = some true
  x_BadPoints_RootError : PySem.W.exmOne K (.ref A0.C_BadPoints) (.ref A0.C_RootError) = some true
  x_BadPoly_RootError : PySem.W.exmOne K (.ref A0.C_BadPoly) (.ref A0.C_RootError) = some true
  x_BadPrime_RootError : PySem.W.exmOne K (.ref A0.C_BadPrime) (.ref A0.C_RootError) = some true
  x_BadRoots_RootError : PySem.W.exmOne K (.ref A0.C_BadRoots) (.ref A0.C_RootError) = some true
  x_Common_RootError : PySem.W.exmOne K (.ref A0.C_Common) (.ref A0.C_RootError) = some true
  x_Flat_RootError : PySem.W.exmOne K (.ref A0.C_Flat) (.ref A0.C_RootError) = some true
  x_Rising_RootError : PySem.W.exmOne K (.ref A0.C_Rising) (.ref A0.C_RootError) = some true
  x_Zero_RootError : PySem.W.exmOne K (.ref A0.C_Zero) (.ref A0.C_RootError) = some true
  xf_BadLine : XfC K A0.C_BadLine
  xf_BadLists : XfC K A0.C_BadLists
  xf_BadPoly : XfC K A0.C_BadPoly
  ecs : ∀ p ∈ ([("BadLine", A0.C_BadLine), ("BadLists", A0.C_BadLists), ("BadNumber", A0.C_BadNumber), ("BadPoints", A0.C_BadPoints), ("BadPoly", A0.C_BadPoly), ("BadPrime", A0.C_BadPrime), ("BadRoots", A0.C_BadRoots), ("Common", A0.C_Common), ("Flat", A0.C_Flat), ("Rising", A0.C_Rising), ("Zero", A0.C_Zero)] : List (Str × Addr)), mg p.1 = some (.ref p.2) ∧ EcK K p.2
  kb_BadLine : kbRow K (.ref A0.C_BadLine) [(A0.C_BadLine, true), (A0.C_BadLists, false), (A0.C_BadNumber, false), (A0.C_BadPoints, false), (A0.C_BadPoly, false), (A0.C_BadPrime, false), (A0.C_BadRoots, false), (A0.C_Common, false), (A0.C_Flat, false), (A0.C_Rising, false), (A0.C_Zero, false)] = true
  kb_BadLists : kbRow K (.ref A0.C_BadLists) [(A0.C_BadLine, false), (A0.C_BadLists, true), (A0.C_BadNumber, false), (A0.C_BadPoints, false), (A0.C_BadPoly, false), (A0.C_BadPrime, false), (A0.C_BadRoots, false), (A0.C_Common, false), (A0.C_Flat, false), (A0.C_Rising, false), (A0.C_Zero, false)] = true
  kb_BadNumber : kbRow K (.ref A0.C_BadNumber) [(A0.C_BadLine, false), (A0.C_BadLists, false), (A0.C_BadNumber, true), (A0.C_BadPoints, false), (A0.C_BadPoly, false), (A0.C_BadPrime, false), (A0.C_BadRoots, false), (A0.C_Common, false), (A0.C_Flat, false), (A0.C_Rising, false), (A0.C_Zero, false)] = true
  kb_BadPoints : kbRow K (.ref A0.C_BadPoints) [(A0.C_BadLine, false), (A0.C_BadLists, false), (A0.C_BadNumber, false), (A0.C_BadPoints, true), (A0.C_BadPoly, false), (A0.C_BadPrime, false), (A0.C_BadRoots, false), (A0.C_Common, false), (A0.C_Flat, false), (A0.C_Rising, false), (A0.C_Zero, false)] = true
  kb_BadPoly : kbRow K (.ref A0.C_BadPoly) [(A0.C_BadLine, false), (A0.C_BadLists, false), (A0.C_BadNumber, false), (A0.C_BadPoints, false), (A0.C_BadPoly, true), (A0.C_BadPrime, false), (A0.C_BadRoots, false), (A0.C_Common, false), (A0.C_Flat, false), (A0.C_Rising, false), (A0.C_Zero, false)] = true
  kb_BadPrime : kbRow K (.ref A0.C_BadPrime) [(A0.C_BadLine, false), (A0.C_BadLists, false), (A0.C_BadNumber, false), (A0.C_BadPoints, false), (A0.C_BadPoly, false), (A0.C_BadPrime, true), (A0.C_BadRoots, false), (A0.C_Common, false), (A0.C_Flat, false), (A0.C_Rising, false), (A0.C_Zero, false)] = true
  kb_BadRoots : kbRow K (.ref A0.C_BadRoots) [(A0.C_BadLine, false), (A0.C_BadLists, false), (A0.C_BadNumber, false), (A0.C_BadPoints, false), (A0.C_BadPoly, false), (A0.C_BadPrime, false), (A0.C_BadRoots, true), (A0.C_Common, false), (A0.C_Flat, false), (A0.C_Rising, false), (A0.C_Zero, false)] = true
  kb_Common : kbRow K (.ref A0.C_Common) [(A0.C_BadLine, false), (A0.C_BadLists, false), (A0.C_BadNumber, false), (A0.C_BadPoints, false), (A0.C_BadPoly, false), (A0.C_BadPrime, false), (A0.C_BadRoots, false), (A0.C_Common, true), (A0.C_Flat, false), (A0.C_Rising, false), (A0.C_Zero, false)] = true
  kb_Flat : kbRow K (.ref A0.C_Flat) [(A0.C_BadLine, false), (A0.C_BadLists, false), (A0.C_BadNumber, false), (A0.C_BadPoints, false), (A0.C_BadPoly, false), (A0.C_BadPrime, false), (A0.C_BadRoots, false), (A0.C_Common, false), (A0.C_Flat, true), (A0.C_Rising, false), (A0.C_Zero, false)] = true
  kb_Rising : kbRow K (.ref A0.C_Rising) [(A0.C_BadLine, false), (A0.C_BadLists, false), (A0.C_BadNumber, false), (A0.C_BadPoints, false), (A0.C_BadPoly, false), (A0.C_BadPrime, false), (A0.C_BadRoots, false), (A0.C_Common, false), (A0.C_Flat, false), (A0.C_Rising, true), (A0.C_Zero, false)] = true
  kb_ValueError : kbRow K (.type "ValueError") [(A0.C_BadLine, true), (A0.C_BadLists, true), (A0.C_BadNumber, true), (A0.C_BadPoints, true), (A0.C_BadPoly, true), (A0.C_BadPrime, true), (A0.C_BadRoots, true), (A0.C_Common, true), (A0.C_Flat, true), (A0.C_Rising, true), (A0.C_Zero, true)] = true
  kb_Zero : kbRow K (.ref A0.C_Zero) [(A0.C_BadLine, false), (A0.C_BadLists, false), (A0.C_BadNumber, false), (A0.C_BadPoints, false), (A0.C_BadPoly, false), (A0.C_BadPrime, false), (A0.C_BadRoots, false), (A0.C_Common, false), (A0.C_Flat, false), (A0.C_Rising, false), (A0.C_Zero, true)] = true
  nf_BadLine_line : PySem.W.findIn K (.ref A0.C_BadLine) "line" = some none
  nf_BadLine_word : PySem.W.findIn K (.ref A0.C_BadLine) "word" = some none
  nf_BadLists_index : PySem.W.findIn K (.ref A0.C_BadLists) "index" = some none
  nf_BadPoly_index : PySem.W.findIn K (.ref A0.C_BadPoly) "index" = some none
  un : True
section
variable {P : Program} {w : World} {K : PySem.W.Frag} {mg : Str → Option Value} {base : Heap} {A0 : Ad}
theorem w__law_draws (Ev : Evd P w K mg base A0) (cdv : Value) (A : Around) (outer : List Env) (s : Shared) (H : Hp) (E : XK) (hr : Room 0 (A.deeper (envOfC "_law_draws" (defScope s__law_draws) s.heap.objs.size A0.f__law_draws cdv))) :
    XSs ⟨K, mg⟩ (fun _ : Unit => cxOf (L2.CX P w) P w K mg base ["_law_script"] "_law_draws" (defScope s__law_draws) A0.f__law_draws cdv A outer s H E) (fun cls d _ H => E cls d H) [0] (defBody s__law_draws) g__law_draws :=
  (xss_one (xs_ret (xe_lst (xbs_cons (xb_of (xe_callTy (fun _ => call_list_of) prm_list (fun _ => rfl) (fun _ => Ev.z_list) (by decide +kernel) (xbs_cons (xb_var fun _ => pv 0) xbs_nil (fun _ => rfl)) (by decide) rfl (fun _ => rfl) (fun _ => rfl))) (xbs_cons (xb_of xe_int) (xbs_cons (xb_of xe_int) (xbs_cons (xb_of xe_int) xbs_nil (fun _ => rfl)) (fun _ => rfl)) (fun _ => rfl)) (fun _ => rfl)))))
theorem o__law_draws (Ev : Evd P w K mg base A0) (h : ∀ cs o, m__law_draws cs = some o → ∃ n out, g__law_draws n (startR 1 cs) = some out ∧ fin [true] out = some o) : FnOk P w K mg base (L2.CX P w) 1 A0.f__law_draws A0.d__law_draws ["_law_script"] (spM ⟨K, mg⟩ 1 m__law_draws) :=
  def_ok (fl := [true]) (Pk := [0]) Ev.F__law_draws sc__law_draws rfl (flB_ok rfl) (by decide) (fun cdv A outer s H E hr => w__law_draws Ev cdv A outer s H E hr) h
theorem w__law_pick (Ev : Evd P w K mg base A0) (cdv : Value) (A : Around) (outer : List Env) (s : Shared) (H : Hp) (E : XK) (hr : Room 0 (A.deeper (envOfC "_law_pick" (defScope s__law_pick) s.heap.objs.size A0.f__law_pick cdv))) :
    XSs ⟨K, mg⟩ (fun _ : Unit => cxOf (L2.CX P w) P w K mg base ["_law_row", "_law_many", "_law_cell", "_law_found"] "_law_pick" (defScope s__law_pick) A0.f__law_pick cdv A outer s H E) (fun cls d _ H => E cls d H) [0, 1] (defBody s__law_pick) g__law_pick :=
  (xss_cons (xs_if (xt_cmp (fun _ => op_eqD hr.units) prm_eq (xb_of (xe_ix (fun _ => ix_seq) prm_ix (xb_var fun _ => pv 0) (xb_of xe_int) (fun _ _ => rfl))) (xb_of xe_int) (nomark _)) (xss_one (xs_if (xt_cmp (fun _ => op_lt) prm_i (xb_of (xe_ix (fun _ => ix_seq) prm_ix (xb_var fun _ => pv 0) (xb_of xe_int) (fun _ _ => rfl))) (xb_of (xe_callB (fun _ => call_lenB) prm_lenA (fun _ => rfl) (fun _ => Ev.z_len) (by decide +kernel) (xbs_cons (xb_of (xe_ix (fun _ => ix_seq) prm_ix (xb_var fun _ => pv 0) (xb_of xe_int) (fun _ _ => rfl))) xbs_nil (fun _ => rfl)) (by decide) rfl (fun _ => rfl) (fun _ => rfl))) (nomark _)) (xss_cons (xs_set (by decide) (fun t h j => ps_set sc__law_pick.nd rfl (by first | exact .inl rfl | exact .inr rfl) (h j) rfl (by first | exact .inl rfl | exact .inr rfl)) (xe_ix (fun _ => ix_seq) prm_ix (xb_of (xe_ix (fun _ => ix_seq) prm_ix (xb_var fun _ => pv 0) (xb_of xe_int) (fun _ _ => rfl))) (xb_of (xe_ix (fun _ => ix_seq) prm_ix (xb_var fun _ => pv 0) (xb_of xe_int) (fun _ _ => rfl))) (fun _ _ => rfl))) (xss_cons (xs_setIx (fun _ => pv 0) (xb_of xe_int) (xb_of (xe_bin (fun _ => op_addA) prm_add (xb_of (xe_ix (fun _ => ix_seq) prm_ix (xb_var fun _ => pv 0) (xb_of xe_int) (fun _ _ => rfl))) (xb_of xe_int))) (fun _ => rfl) (fun _ => rfl) (fun _ => rfl) (fun _ _ => rfl)) (xss_one (xs_if (xt_cmp (fun _ => op_ge) prm_i (xb_var fun _ => pv 2) (xb_of (xe_bin (fun _ => op_pow) prm_pow (xb_of xe_int) (xb_of xe_int))) (nomark _)) (xss_one (xs_setIx (fun _ => pv 0) (xb_of xe_int) (xb_var fun _ => pv 2) (fun _ => rfl) (fun _ => rfl) (fun _ => rfl) (fun _ _ => rfl))) (xss_one (xs_setIx (fun _ => pv 0) (xb_of xe_int) (xb_of (xe_bin (fun _ => op_modN) prm_mod (xb_of (xe_callTy (fun _ => call_int1) prm_int (fun _ => rfl) (fun _ => Ev.z_int) (by decide +kernel) (xbs_cons (xb_of (xe_bin (fun _ => op_addA) prm_add (xb_of (xe_bin (fun _ => op_addA) prm_add (xb_of (xe_bin (fun _ => op_mulA) prm_mul (xb_of (xe_ix (fun _ => ix_seq) prm_ix (xb_var fun _ => pv 0) (xb_of xe_int) (fun _ _ => rfl))) (xb_of xe_int))) (xb_of (xe_bin (fun _ => op_mulA) prm_mul (xb_var fun _ => pv 2) (xb_of xe_int))))) (xb_of xe_int))) xbs_nil (fun _ => rfl)) (by decide) rfl (fun _ => rfl) (fun _ => rfl))) (xb_of xe_int))) (fun _ => rfl) (fun _ => rfl) (fun _ => rfl) (fun _ _ => rfl))))))) (xss_one (xs_setIx (fun _ => pv 0) (xb_of xe_int) (xb_of (xe_bin (fun _ => op_modN) prm_mod (xb_of (xe_callTy (fun _ => call_int1) prm_int (fun _ => rfl) (fun _ => Ev.z_int) (by decide +kernel) (xbs_cons (xb_of (xe_bin (fun _ => op_addA) prm_add (xb_of (xe_bin (fun _ => op_mulA) prm_mul (xb_of (xe_ix (fun _ => ix_seq) prm_ix (xb_var fun _ => pv 0) (xb_of xe_int) (fun _ _ => rfl))) (xb_of xe_int))) (xb_of xe_int))) xbs_nil (fun _ => rfl)) (by decide) rfl (fun _ => rfl) (fun _ => rfl))) (xb_of xe_int))) (fun _ => rfl) (fun _ => rfl) (fun _ => rfl) (fun _ _ => rfl))))) xss_nil) (xss_cons (xs_if (xt_cmp (fun _ => op_gt) prm_i (xb_of (xe_ix (fun _ => ix_seq) prm_ix (xb_var fun _ => pv 0) (xb_of xe_int) (fun _ _ => rfl))) (xb_of xe_int) (nomark _)) (xss_cons (xs_set (by decide) (fun t h j => ps_set sc__law_pick.nd rfl (by first | exact .inl rfl | exact .inr rfl) (h j) rfl (by first | exact .inl rfl | exact .inr rfl)) (xe_bin (fun _ => op_modN) prm_mod (xb_of (xe_callTy (fun _ => call_int1) prm_int (fun _ => rfl) (fun _ => Ev.z_int) (by decide +kernel) (xbs_cons (xb_of (xe_ix (fun _ => ix_seq) prm_ix (xb_var fun _ => pv 0) (xb_of xe_int) (fun _ _ => rfl))) xbs_nil (fun _ => rfl)) (by decide) rfl (fun _ => rfl) (fun _ => rfl))) (xb_var fun _ => pv 1))) (xss_cons (xs_setIx (fun _ => pv 0) (xb_of xe_int) (xb_of (xe_bin (fun _ => op_fdivB) prm_fdiv (xb_of (xe_ix (fun _ => ix_seq) prm_ix (xb_var fun _ => pv 0) (xb_of xe_int) (fun _ _ => rfl))) (xb_var fun _ => pv 1))) (fun _ => rfl) (fun _ => rfl) (fun _ => rfl) (fun _ _ => rfl)) (xss_one (xs_ret (xe_mv fun _ => pv 3))))) xss_nil) (xss_one (xs_ret (xe_bin (fun _ => op_modN) prm_mod (xb_of (xe_bin (fun _ => op_modN) prm_mod (xb_of (xe_callTy (fun _ => call_int1) prm_int (fun _ => rfl) (fun _ => Ev.z_int) (by decide +kernel) (xbs_cons (xb_of (xe_bin (fun _ => op_mulA) prm_mul (xb_of (xe_ix (fun _ => ix_seq) prm_ix (xb_var fun _ => pv 0) (xb_of xe_int) (fun _ _ => rfl))) (xb_of xe_int))) xbs_nil (fun _ => rfl)) (by decide) rfl (fun _ => rfl) (fun _ => rfl))) (xb_of xe_int))) (xb_var fun _ => pv 1))))))
theorem o__law_pick (Ev : Evd P w K mg base A0) (h : ∀ cs o, m__law_pick cs = some o → ∃ n out, g__law_pick n (startR 4 cs) = some out ∧ fin [true, true] out = some o) : FnOk P w K mg base (L2.CX P w) 1 A0.f__law_pick A0.d__law_pick ["_law_row", "_law_many"] (spM ⟨K, mg⟩ 2 m__law_pick) :=
  def_ok (fl := [true, true]) (Pk := [0, 1]) Ev.F__law_pick sc__law_pick rfl (flB_ok rfl) (by decide) (fun cdv A outer s H E hr => w__law_pick Ev cdv A outer s H E hr) h
theorem w_is_from (Ev : Evd P w K mg base A0) (cdv : Value) (A : Around) (outer : List Env) (s : Shared) (H : Hp) (E : XK) (hr : Room 0 (A.deeper (envOfC "is_from" (defScope s_is_from) s.heap.objs.size A0.f_is_from cdv))) :
    XSs ⟨K, mg⟩ (fun _ : Unit => cxOf (L2.CX P w) P w K mg base ["value", "low", "high"] "is_from" (defScope s_is_from) A0.f_is_from cdv A outer s H E) (fun cls d _ H => E cls d H) [0, 1, 2] (defBody s_is_from) g_is_from :=
  (xss_one (xs_ret (xe_and (xe_isi (fun _ => rfl) (fun _ => rfl) (fun _ => Ev.z_isinstance) (fun _ => rfl) (fun _ => Ev.z_int) (by decide +kernel) (by decide) rfl (xb_var fun _ => pv 0) (fun _ => rfl) (fun _ => rfl) (fun _ => rfl)) (xe_and (xe_not (xe_isi (fun _ => rfl) (fun _ => rfl) (fun _ => Ev.z_isinstance) (fun _ => rfl) (fun _ => Ev.z_bool) (by decide +kernel) (by decide) rfl (xb_var fun _ => pv 0) (fun _ => rfl) (fun _ => rfl) (fun _ => rfl))) (xe_one (xe_ch (fun _ => op_le) (fun _ => op_le) prm_i prm_i (xb_var fun _ => pv 1) (xb_var fun _ => pv 0) (xb_var fun _ => pv 2) rfl))))))
theorem o_is_from (Ev : Evd P w K mg base A0) (h : ∀ cs o, m_is_from cs = some o → ∃ n out, g_is_from n (startR 3 cs) = some out ∧ fin [true, true, true] out = some o) : FnOk P w K mg base (L2.CX P w) 1 A0.f_is_from A0.d_is_from ["value", "low", "high"] (spM ⟨K, mg⟩ 3 m_is_from) :=
  def_ok (fl := [true, true, true]) (Pk := [0, 1, 2]) Ev.F_is_from sc_is_from rfl (flB_ok rfl) (by decide) (fun cdv A outer s H E hr => w_is_from Ev cdv A outer s H E hr) h
theorem w_check_prime (Ev : Evd P w K mg base A0) (k_is_from : FnOk P w K mg base (L2.CX P w) 1 A0.f_is_from A0.d_is_from ["value", "low", "high"] (spM ⟨K, mg⟩ 3 m_is_from)) (cdv : Value) (A : Around) (outer : List Env) (s : Shared) (H : Hp) (E : XK) (hr : Room 2 (A.deeper (envOfC "check_prime" (defScope s_check_prime) s.heap.objs.size A0.f_check_prime cdv))) :
    XSs ⟨K, mg⟩ (fun _ : Unit => cxOf (L2.CX P w) P w K mg base ["value"] "check_prime" (defScope s_check_prime) A0.f_check_prime cdv A outer s H E) (fun cls d _ H => E cls d H) [0] (defBody s_check_prime) g_check_prime :=
  (xss_one (xs_if (xt_w (xw_or (xt_not (xt_val (xe_call (fun _ => k_is_from) (fun _ => hr.mono (by decide)) (fun _ => rfl) (fun _ => Ev.m_is_from) (fun _ => Ev.F_is_from.kp) (fun _ => Ev.b_is_from) (fun _ => takes_of rfl rfl rfl rfl) (xbs_cons (xb_var fun _ => pv 0) (xbs_cons (xb_of xe_int) (xbs_cons (xb_of (xe_ix (fun _ => ix_seq) prm_ix (xb_of (xe_glob (v := .ref A0.t_PRIMES) (fun _ => rfl) (fun _ => Ev.c_PRIMES) rfl (fun F => tup_rp Ev.p_PRIMES F) rfl)) (xb_of (xe_un (fun _ => un_neg) prm_neg (xb_of xe_int))) (fun _ _ => rfl))) xbs_nil (fun _ => rfl)) (fun _ => rfl)) (fun _ => rfl)) (len_cons (len_cons (len_cons (fun _ _ _ _ => len_nil)))) rfl (fun _ => rfl) (fun _ => rfl)) (fun _ _ => rfl))) (xw_or1 (xt_cmp (fun _ => op_notInA (u65 hr)) prm_in (xb_var fun _ => pv 0) (xb_of (xe_glob (v := .ref A0.t_PRIMES) (fun _ => rfl) (fun _ => Ev.c_PRIMES) rfl (fun F => tup_rp Ev.p_PRIMES F) rfl)) rfl)))) (xss_one (xs_raise0 (fun _ => rfl) (fun _ => rfl) (fun _ => rfl) (fun _ => takes_of rfl rfl rfl rfl) Ev.n_BadPrime Ev.m_BadPrime (fun _ => rfl) rfl)) xss_nil))
theorem o_check_prime (Ev : Evd P w K mg base A0) (k_is_from : FnOk P w K mg base (L2.CX P w) 1 A0.f_is_from A0.d_is_from ["value", "low", "high"] (spM ⟨K, mg⟩ 3 m_is_from)) (h : ∀ cs o, m_check_prime cs = some o → ∃ n out, g_check_prime n (startR 1 cs) = some out ∧ fin [true] out = some o) : FnOk P w K mg base (L2.CX P w) 3 A0.f_check_prime A0.d_check_prime ["value"] (spM ⟨K, mg⟩ 1 m_check_prime) :=
  def_ok (fl := [true]) (Pk := [0]) Ev.F_check_prime sc_check_prime rfl (flB_ok rfl) (by decide) (fun cdv A outer s H E hr => w_check_prime Ev k_is_from cdv A outer s H E hr) h
theorem w_unlike_by (Ev : Evd P w K mg base A0) (k_check_prime : FnOk P w K mg base (L2.CX P w) 3 A0.f_check_prime A0.d_check_prime ["value"] (spM ⟨K, mg⟩ 1 m_check_prime)) (k_check_rests : FnOk P w K mg base (L2.CX P w) 2 A0.f_check_rests A0.d_check_rests ["prime", "value"] (spM ⟨K, mg⟩ 2 m_check_rests)) (k_roots_by : FnOk P w K mg base (L2.CX P w) 2 A0.f_roots_by A0.d_roots_by ["prime", "one"] (spM ⟨K, mg⟩ 2 m_roots_by)) (cdv : Value) (A : Around) (outer : List Env) (s : Shared) (H : Hp) (E : XK) (hr : Room 3 (A.deeper (envOfC "unlike_by" (defScope s_unlike_by) s.heap.objs.size A0.f_unlike_by cdv))) :
    XSs ⟨K, mg⟩ (fun _ : Unit => cxOf (L2.CX P w) P w K mg base ["prime", "one"] "unlike_by" (defScope s_unlike_by) A0.f_unlike_by cdv A outer s H E) (fun cls d _ H => E cls d H) [0, 1] (defBody s_unlike_by) g_unlike_by :=
  (xss_cons (xs_expr (xb_of (xe_call (fun _ => k_check_prime) (fun _ => hr.mono (by decide)) (fun _ => rfl) (fun _ => Ev.m_check_prime) (fun _ => Ev.F_check_prime.kp) (fun _ => Ev.b_check_prime) (fun _ => takes_of rfl rfl rfl rfl) (xbs_cons (xb_var fun _ => pv 0) xbs_nil (fun _ => rfl)) (len_cons (fun _ _ _ _ => len_nil)) rfl (fun _ => rfl) (fun _ => rfl))) (fun _ => rfl)) (xss_cons (xs_expr (xb_of (xe_call (fun _ => k_check_rests) (fun _ => hr.mono (by decide)) (fun _ => rfl) (fun _ => Ev.m_check_rests) (fun _ => Ev.F_check_rests.kp) (fun _ => Ev.b_check_rests) (fun _ => takes_of rfl rfl rfl rfl) (xbs_cons (xb_var fun _ => pv 0) (xbs_cons (xb_var fun _ => pv 1) xbs_nil (fun _ => rfl)) (fun _ => rfl)) (len_cons (len_cons (fun _ _ _ _ => len_nil))) rfl (fun _ => rfl) (fun _ => rfl))) (fun _ => rfl)) (xss_cons (xs_if (xt_cmp (fun _ => op_eqD hr.units) prm_eq (xb_var fun _ => pv 1) (xb_of (xe_tup xbs_nil)) (nomark _)) (xss_one (xs_raise0 (fun _ => rfl) (fun _ => rfl) (fun _ => rfl) (fun _ => takes_of rfl rfl rfl rfl) Ev.n_Zero Ev.m_Zero (fun _ => rfl) rfl)) xss_nil) (xss_one (xs_ret (xe_call (fun _ => k_roots_by) (fun _ => hr.mono (by decide)) (fun _ => rfl) (fun _ => Ev.m_roots_by) (fun _ => Ev.F_roots_by.kp) (fun _ => Ev.b_roots_by) (fun _ => takes_of rfl rfl rfl rfl) (xbs_cons (xb_var fun _ => pv 0) (xbs_cons (xb_var fun _ => pv 1) xbs_nil (fun _ => rfl)) (fun _ => rfl)) (len_cons (len_cons (fun _ _ _ _ => len_nil))) rfl (fun _ => rfl) (fun _ => rfl)))))))
theorem o_unlike_by (Ev : Evd P w K mg base A0) (k_check_prime : FnOk P w K mg base (L2.CX P w) 3 A0.f_check_prime A0.d_check_prime ["value"] (spM ⟨K, mg⟩ 1 m_check_prime)) (k_check_rests : FnOk P w K mg base (L2.CX P w) 2 A0.f_check_rests A0.d_check_rests ["prime", "value"] (spM ⟨K, mg⟩ 2 m_check_rests)) (k_roots_by : FnOk P w K mg base (L2.CX P w) 2 A0.f_roots_by A0.d_roots_by ["prime", "one"] (spM ⟨K, mg⟩ 2 m_roots_by)) (h : ∀ cs o, m_unlike_by cs = some o → ∃ n out, g_unlike_by n (startR 2 cs) = some out ∧ fin [true, true] out = some o) : FnOk P w K mg base (L2.CX P w) 4 A0.f_unlike_by A0.d_unlike_by ["prime", "one"] (spM ⟨K, mg⟩ 2 m_unlike_by) :=
  def_ok (fl := [true, true]) (Pk := [0, 1]) Ev.F_unlike_by sc_unlike_by rfl (flB_ok rfl) (by decide) (fun cdv A outer s H E hr => w_unlike_by Ev k_check_prime k_check_rests k_roots_by cdv A outer s H E hr) h
theorem w_check_power (Ev : Evd P w K mg base A0) (k_is_from : FnOk P w K mg base (L2.CX P w) 1 A0.f_is_from A0.d_is_from ["value", "low", "high"] (spM ⟨K, mg⟩ 3 m_is_from)) (cdv : Value) (A : Around) (outer : List Env) (s : Shared) (H : Hp) (E : XK) (hr : Room 2 (A.deeper (envOfC "check_power" (defScope s_check_power) s.heap.objs.size A0.f_check_power cdv))) :
    XSs ⟨K, mg⟩ (fun _ : Unit => cxOf (L2.CX P w) P w K mg base ["value"] "check_power" (defScope s_check_power) A0.f_check_power cdv A outer s H E) (fun cls d _ H => E cls d H) [0] (defBody s_check_power) g_check_power :=
  (xss_one (xs_if (xt_not (xt_val (xe_call (fun _ => k_is_from) (fun _ => hr.mono (by decide)) (fun _ => rfl) (fun _ => Ev.m_is_from) (fun _ => Ev.F_is_from.kp) (fun _ => Ev.b_is_from) (fun _ => takes_of rfl rfl rfl rfl) (xbs_cons (xb_var fun _ => pv 0) (xbs_cons (xb_of xe_int) (xbs_cons (xb_of (xe_glob (v := .int 12) (fun _ => rfl) (fun _ => Ev.c_MOST_POWER) ⟨_, rfl⟩ (fun _ => .int _) rfl)) xbs_nil (fun _ => rfl)) (fun _ => rfl)) (fun _ => rfl)) (len_cons (len_cons (len_cons (fun _ _ _ _ => len_nil)))) rfl (fun _ => rfl) (fun _ => rfl)) (fun _ _ => rfl))) (xss_one (xs_raise0 (fun _ => rfl) (fun _ => rfl) (fun _ => rfl) (fun _ => takes_of rfl rfl rfl rfl) Ev.n_BadNumber Ev.m_BadNumber (fun _ => rfl) rfl)) xss_nil))
theorem o_check_power (Ev : Evd P w K mg base A0) (k_is_from : FnOk P w K mg base (L2.CX P w) 1 A0.f_is_from A0.d_is_from ["value", "low", "high"] (spM ⟨K, mg⟩ 3 m_is_from)) (h : ∀ cs o, m_check_power cs = some o → ∃ n out, g_check_power n (startR 1 cs) = some out ∧ fin [true] out = some o) : FnOk P w K mg base (L2.CX P w) 3 A0.f_check_power A0.d_check_power ["value"] (spM ⟨K, mg⟩ 1 m_check_power) :=
  def_ok (fl := [true]) (Pk := [0]) Ev.F_check_power sc_check_power rfl (flB_ok rfl) (by decide) (fun cdv A outer s H E hr => w_check_power Ev k_is_from cdv A outer s H E hr) h
theorem w_barred (Ev : Evd P w K mg base A0) (k_check_power : FnOk P w K mg base (L2.CX P w) 3 A0.f_check_power A0.d_check_power ["value"] (spM ⟨K, mg⟩ 1 m_check_power)) (cdv : Value) (A : Around) (outer : List Env) (s : Shared) (H : Hp) (E : XK) (hr : Room 3 (A.deeper (envOfC "barred" (defScope s_barred) s.heap.objs.size A0.f_barred cdv))) :
    XSs ⟨K, mg⟩ (fun _ : Unit => cxOf (L2.CX P w) P w K mg base ["first", "second", "third"] "barred" (defScope s_barred) A0.f_barred cdv A outer s H E) (fun cls d _ H => E cls d H) [0, 1, 2] (defBody s_barred) g_barred :=
  (xss_cons (xs_expr (xb_of (xe_call (fun _ => k_check_power) (fun _ => hr.mono (by decide)) (fun _ => rfl) (fun _ => Ev.m_check_power) (fun _ => Ev.F_check_power.kp) (fun _ => Ev.b_check_power) (fun _ => takes_of rfl rfl rfl rfl) (xbs_cons (xb_var fun _ => pv 0) xbs_nil (fun _ => rfl)) (len_cons (fun _ _ _ _ => len_nil)) rfl (fun _ => rfl) (fun _ => rfl))) (fun _ => rfl)) (xss_cons (xs_expr (xb_of (xe_call (fun _ => k_check_power) (fun _ => hr.mono (by decide)) (fun _ => rfl) (fun _ => Ev.m_check_power) (fun _ => Ev.F_check_power.kp) (fun _ => Ev.b_check_power) (fun _ => takes_of rfl rfl rfl rfl) (xbs_cons (xb_var fun _ => pv 1) xbs_nil (fun _ => rfl)) (len_cons (fun _ _ _ _ => len_nil)) rfl (fun _ => rfl) (fun _ => rfl))) (fun _ => rfl)) (xss_cons (xs_expr (xb_of (xe_call (fun _ => k_check_power) (fun _ => hr.mono (by decide)) (fun _ => rfl) (fun _ => Ev.m_check_power) (fun _ => Ev.F_check_power.kp) (fun _ => Ev.b_check_power) (fun _ => takes_of rfl rfl rfl rfl) (xbs_cons (xb_var fun _ => pv 2) xbs_nil (fun _ => rfl)) (len_cons (fun _ _ _ _ => len_nil)) rfl (fun _ => rfl) (fun _ => rfl))) (fun _ => rfl)) (xss_one (xs_ret (xe_cmp (fun _ => op_le) prm_i (xb_of (xe_bin (fun _ => op_addA) prm_add (xb_of (xe_bin (fun _ => op_addA) prm_add (xb_of (xe_bin (fun _ => op_mulA) prm_mul (xb_var fun _ => pv 1) (xb_var fun _ => pv 2))) (xb_of (xe_bin (fun _ => op_mulA) prm_mul (xb_var fun _ => pv 0) (xb_var fun _ => pv 2))))) (xb_of (xe_bin (fun _ => op_mulA) prm_mul (xb_var fun _ => pv 0) (xb_var fun _ => pv 1))))) (xb_of (xe_bin (fun _ => op_mulA) prm_mul (xb_of (xe_bin (fun _ => op_mulA) prm_mul (xb_var fun _ => pv 0) (xb_var fun _ => pv 1))) (xb_var fun _ => pv 2))) (nomark _)))))))
theorem o_barred (Ev : Evd P w K mg base A0) (k_check_power : FnOk P w K mg base (L2.CX P w) 3 A0.f_check_power A0.d_check_power ["value"] (spM ⟨K, mg⟩ 1 m_check_power)) (h : ∀ cs o, m_barred cs = some o → ∃ n out, g_barred n (startR 3 cs) = some out ∧ fin [true, true, true] out = some o) : FnOk P w K mg base (L2.CX P w) 4 A0.f_barred A0.d_barred ["first", "second", "third"] (spM ⟨K, mg⟩ 3 m_barred) :=
  def_ok (fl := [true, true, true]) (Pk := [0, 1, 2]) Ev.F_barred sc_barred rfl (flB_ok rfl) (by decide) (fun cdv A outer s H E hr => w_barred Ev k_check_power cdv A outer s H E hr) h
theorem w_is_point (Ev : Evd P w K mg base A0) (k_is_from : FnOk P w K mg base (L2.CX P w) 1 A0.f_is_from A0.d_is_from ["value", "low", "high"] (spM ⟨K, mg⟩ 3 m_is_from)) (cdv : Value) (A : Around) (outer : List Env) (s : Shared) (H : Hp) (E : XK) (hr : Room 1 (A.deeper (envOfC "is_point" (defScope s_is_point) s.heap.objs.size A0.f_is_point cdv))) :
    XSs ⟨K, mg⟩ (fun _ : Unit => cxOf (L2.CX P w) P w K mg base ["value"] "is_point" (defScope s_is_point) A0.f_is_point cdv A outer s H E) (fun cls d _ H => E cls d H) [0] (defBody s_is_point) g_is_point :=
  (xss_cons (xs_if (xt_w (xw_or (xt_not (xt_val (xe_isi (fun _ => rfl) (fun _ => rfl) (fun _ => Ev.z_isinstance) (fun _ => rfl) (fun _ => Ev.z_tuple) (by decide +kernel) (by decide) rfl (xb_var fun _ => pv 0) (fun _ => rfl) (fun _ => rfl) (fun _ => rfl)) (fun _ _ => rfl))) (xw_or (xt_cmp (fun _ => op_neD hr.units) prm_ne (xb_of (xe_callB (fun _ => call_lenB) prm_lenA (fun _ => rfl) (fun _ => Ev.z_len) (by decide +kernel) (xbs_cons (xb_var fun _ => pv 0) xbs_nil (fun _ => rfl)) (by decide) rfl (fun _ => rfl) (fun _ => rfl))) (xb_of xe_int) (nomark _)) (xw_or1 (xt_not (xt_val (xe_call (fun _ => k_is_from) (fun _ => hr.mono (by decide)) (fun _ => rfl) (fun _ => Ev.m_is_from) (fun _ => Ev.F_is_from.kp) (fun _ => Ev.b_is_from) (fun _ => takes_of rfl rfl rfl rfl) (xbs_cons (xb_of (xe_ix (fun _ => ix_seq) prm_ix (xb_var fun _ => pv 0) (xb_of xe_int) (fun _ _ => rfl))) (xbs_cons (xb_of (xe_un (fun _ => un_neg) prm_neg (xb_of (xe_glob (v := .int 50) (fun _ => rfl) (fun _ => Ev.c_MOST_PLACE) ⟨_, rfl⟩ (fun _ => .int _) rfl)))) (xbs_cons (xb_of (xe_glob (v := .int 50) (fun _ => rfl) (fun _ => Ev.c_MOST_PLACE) ⟨_, rfl⟩ (fun _ => .int _) rfl)) xbs_nil (fun _ => rfl)) (fun _ => rfl)) (fun _ => rfl)) (len_cons (len_cons (len_cons (fun _ _ _ _ => len_nil)))) rfl (fun _ => rfl) (fun _ => rfl)) (fun _ _ => rfl))))))) (xss_one (xs_ret xe_bool)) xss_nil) (xss_one (xs_ret (xe_call (fun _ => k_is_from) (fun _ => hr.mono (by decide)) (fun _ => rfl) (fun _ => Ev.m_is_from) (fun _ => Ev.F_is_from.kp) (fun _ => Ev.b_is_from) (fun _ => takes_of rfl rfl rfl rfl) (xbs_cons (xb_of (xe_ix (fun _ => ix_seq) prm_ix (xb_var fun _ => pv 0) (xb_of xe_int) (fun _ _ => rfl))) (xbs_cons (xb_of (xe_un (fun _ => un_neg) prm_neg (xb_of (xe_glob (v := .int 1000) (fun _ => rfl) (fun _ => Ev.c_MOST_HEIGHT) ⟨_, rfl⟩ (fun _ => .int _) rfl)))) (xbs_cons (xb_of (xe_glob (v := .int 1000) (fun _ => rfl) (fun _ => Ev.c_MOST_HEIGHT) ⟨_, rfl⟩ (fun _ => .int _) rfl)) xbs_nil (fun _ => rfl)) (fun _ => rfl)) (fun _ => rfl)) (len_cons (len_cons (len_cons (fun _ _ _ _ => len_nil)))) rfl (fun _ => rfl) (fun _ => rfl)))))
theorem o_is_point (Ev : Evd P w K mg base A0) (k_is_from : FnOk P w K mg base (L2.CX P w) 1 A0.f_is_from A0.d_is_from ["value", "low", "high"] (spM ⟨K, mg⟩ 3 m_is_from)) (h : ∀ cs o, m_is_point cs = some o → ∃ n out, g_is_point n (startR 1 cs) = some out ∧ fin [true] out = some o) : FnOk P w K mg base (L2.CX P w) 2 A0.f_is_point A0.d_is_point ["value"] (spM ⟨K, mg⟩ 1 m_is_point) :=
  def_ok (fl := [true]) (Pk := [0]) Ev.F_is_point sc_is_point rfl (flB_ok rfl) (by decide) (fun cdv A outer s H E hr => w_is_point Ev k_is_from cdv A outer s H E hr) h
theorem w_check_points (Ev : Evd P w K mg base A0) (k_is_point : FnOk P w K mg base (L2.CX P w) 2 A0.f_is_point A0.d_is_point ["value"] (spM ⟨K, mg⟩ 1 m_is_point)) (cdv : Value) (A : Around) (outer : List Env) (s : Shared) (H : Hp) (E : XK) (hr : Room 2 (A.deeper (envOfC "check_points" (defScope s_check_points) s.heap.objs.size A0.f_check_points cdv))) :
    XSs ⟨K, mg⟩ (fun _ : Unit => cxOf (L2.CX P w) P w K mg base ["value", "point"] "check_points" (defScope s_check_points) A0.f_check_points cdv A outer s H E) (fun cls d _ H => E cls d H) [0] (defBody s_check_points) g_check_points :=
  (xss_cons (xs_if (xt_w (xw_or (xt_not (xt_val (xe_isi2 (fun _ => rfl) (fun _ => rfl) (fun _ => Ev.z_isinstance) (fun _ => rfl) (fun _ => Ev.z_list) (by decide +kernel) (by decide) rfl (fun _ => rfl) (fun _ => Ev.z_tuple) (by decide +kernel) (by decide) rfl (xb_var fun _ => pv 0) (fun _ => rfl) (fun _ => rfl) (fun _ => rfl) (fun _ => rfl) (fun _ => rfl)) (fun _ _ => rfl))) (xw_or1 (xt_not (xt_ch (fun _ => op_le) (fun _ => op_le) prm_i prm_i (xb_of xe_int) (xb_of (xe_callB (fun _ => call_lenB) prm_lenA (fun _ => rfl) (fun _ => Ev.z_len) (by decide +kernel) (xbs_cons (xb_var fun _ => pv 0) xbs_nil (fun _ => rfl)) (by decide) rfl (fun _ => rfl) (fun _ => rfl))) (xb_of (xe_glob (v := .int 7) (fun _ => rfl) (fun _ => Ev.c_MOST_POINTS) ⟨_, rfl⟩ (fun _ => .int _) rfl)) rfl))))) (xss_one (xs_raise0 (fun _ => rfl) (fun _ => rfl) (fun _ => rfl) (fun _ => takes_of rfl rfl rfl rfl) Ev.n_BadPoints Ev.m_BadPoints (fun _ => rfl) rfl)) xss_nil) (xss_one (xs_if (xt_w (xw_or (xt_not (xt_val (xe_callB (fun _ => cr_all rfl) prm_all (fun _ => rfl) (fun _ => Ev.z_all) (by decide +kernel) (xbs_cons (xb_of (xe_lc0 (own := [("point", 1)]) (N := 2) (fun _ => rfl) (fun _ => sc_check_points.nd) (xi_seq (fun _ => rfl) (xb_var fun _ => pv 0)) (fun _ => blkB_ok rfl) (xg_name (by decide) (fun _ => pg_name sc_check_points.nd rfl (by first | exact .inl rfl | exact .inr rfl) (by first | exact .inl rfl | exact .inr rfl))) (xb_of (xe_call (fun _ => k_is_point) (fun _ => hr.mono (by decide)) (fun _ => rfl) (fun _ => Ev.m_is_point) (fun _ => Ev.F_is_point.kp) (fun _ => Ev.b_is_point) (fun _ => takes0) (xbs_cons (xb_var fun _ => pv 1) xbs_nil (fun _ => rfl)) (len_cons (fun _ _ _ _ => len_nil)) rfl (fun _ => rfl) (fun _ => rfl))) (fun _ _ => rfl))) xbs_nil (fun _ => rfl)) (by decide) rfl (fun _ => rfl) (fun _ => rfl)) (fun _ _ => rfl))) (xw_or1 (xt_cmp (fun _ => op_lt) prm_i (xb_of (xe_callB (fun _ => call_lenB) prm_lenA (fun _ => rfl) (fun _ => Ev.z_len) (by decide +kernel) (xbs_cons (xb_of (xe_dc0 (own := [("point", 1)]) (N := 2) (fun _ => rfl) (fun _ => sc_check_points.nd) (xi_seq (fun _ => rfl) (xb_var fun _ => pv 0)) (fun _ => blkB_ok rfl) (xg_name (by decide) (fun _ => pg_name sc_check_points.nd rfl (by first | exact .inl rfl | exact .inr rfl) (by first | exact .inl rfl | exact .inr rfl))) (xb_of (xe_ix (fun _ => ix_seq) prm_ix (xb_var fun _ => pv 1) (xb_of xe_int) (fun _ _ => rfl))) (xb_of xe_bool) (fun _ _ => rfl))) xbs_nil (fun _ => rfl)) (by decide) rfl (fun _ => rfl) (fun _ => rfl))) (xb_of (xe_callB (fun _ => call_lenB) prm_lenA (fun _ => rfl) (fun _ => Ev.z_len) (by decide +kernel) (xbs_cons (xb_var fun _ => pv 0) xbs_nil (fun _ => rfl)) (by decide) rfl (fun _ => rfl) (fun _ => rfl))) (nomark _))))) (xss_one (xs_raise0 (fun _ => rfl) (fun _ => rfl) (fun _ => rfl) (fun _ => takes_of rfl rfl rfl rfl) Ev.n_BadPoints Ev.m_BadPoints (fun _ => rfl) rfl)) xss_nil)))
theorem o_check_points (Ev : Evd P w K mg base A0) (k_is_point : FnOk P w K mg base (L2.CX P w) 2 A0.f_is_point A0.d_is_point ["value"] (spM ⟨K, mg⟩ 1 m_is_point)) (h : ∀ cs o, m_check_points cs = some o → ∃ n out, g_check_points n (startR 2 cs) = some out ∧ fin [true] out = some o) : FnOk P w K mg base (L2.CX P w) 3 A0.f_check_points A0.d_check_points ["value"] (spM ⟨K, mg⟩ 1 m_check_points) :=
  def_ok (fl := [true]) (Pk := [0]) Ev.F_check_points sc_check_points rfl (flB_ok rfl) (by decide) (fun cdv A outer s H E hr => w_check_points Ev k_is_point cdv A outer s H E hr) h
theorem w_trimmed (Ev : Evd P w K mg base A0) (cdv : Value) (A : Around) (outer : List Env) (s : Shared) (H : Hp) (E : XK) (hr : Room 0 (A.deeper (envOfC "trimmed" (defScope s_trimmed) s.heap.objs.size A0.f_trimmed cdv))) :
    XSs ⟨K, mg⟩ (fun _ : Unit => cxOf (L2.CX P w) P w K mg base ["row", "many"] "trimmed" (defScope s_trimmed) A0.f_trimmed cdv A outer s H E) (fun cls d _ H => E cls d H) [0] (defBody s_trimmed) g_trimmed :=
  (xss_cons (xs_set (by decide) (fun t h j => ps_set sc_trimmed.nd rfl (by first | exact .inl rfl | exact .inr rfl) (h j) rfl (by first | exact .inl rfl | exact .inr rfl)) (xe_callB (fun _ => call_lenB) prm_lenA (fun _ => rfl) (fun _ => Ev.z_len) (by decide +kernel) (xbs_cons (xb_var fun _ => pv 0) xbs_nil (fun _ => rfl)) (by decide) rfl (fun _ => rfl) (fun _ => rfl))) (xss_cons (xs_wh (fun _ => passes_of (K := fun e s'' => L2.CX P w outer H s E e s'') (E₁ := fun e' s'' => L2.CX P w outer H s E e' s'') rfl) (xt_w (xw_and (xt_cmp (fun _ => op_gt) prm_i (xb_var fun _ => pv 1) (xb_of xe_int) (nomark _)) (xw_and1 (xt_cmp (fun _ => op_eqD hr.units) prm_eq (xb_of (xe_ix (fun _ => ix_seq) prm_ix (xb_var fun _ => pv 0) (xb_of (xe_bin (fun _ => op_sub) prm_sub (xb_var fun _ => pv 1) (xb_of xe_int))) (fun _ _ => rfl))) (xb_of xe_int) (nomark _))))) (xss_one (xs_aug (by decide) (fun te h j => ps_aug sc_trimmed.nd rfl (by first | exact .inl rfl | exact .inr rfl) (h j) ip_sub (by first | exact .inl rfl | exact .inr rfl)) (xb_of xe_int) snd_ipI))) (xss_one (xs_ret (xe_callTy (fun _ => call_tuple_of) prm_tuple (fun _ => rfl) (fun _ => Ev.z_tuple) (by decide +kernel) (xbs_cons (xb_of (xe_slU (fun _ => rfl) (xb_var fun _ => pv 0) (xb_var fun _ => pv 1))) xbs_nil (fun _ => rfl)) (by decide) rfl (fun _ => rfl) (fun _ => rfl))))))
theorem o_trimmed (Ev : Evd P w K mg base A0) (h : ∀ cs o, m_trimmed cs = some o → ∃ n out, g_trimmed n (startR 2 cs) = some out ∧ fin [true] out = some o) : FnOk P w K mg base (L2.CX P w) 1 A0.f_trimmed A0.d_trimmed ["row"] (spM ⟨K, mg⟩ 1 m_trimmed) :=
  def_ok (fl := [true]) (Pk := [0]) Ev.F_trimmed sc_trimmed rfl (flB_ok rfl) (by decide) (fun cdv A outer s H E hr => w_trimmed Ev cdv A outer s H E hr) h
theorem w_plus_of (Ev : Evd P w K mg base A0) (k_trimmed : FnOk P w K mg base (L2.CX P w) 1 A0.f_trimmed A0.d_trimmed ["row"] (spM ⟨K, mg⟩ 1 m_trimmed)) (cdv : Value) (A : Around) (outer : List Env) (s : Shared) (H : Hp) (E : XK) (hr : Room 1 (A.deeper (envOfC "plus_of" (defScope s_plus_of) s.heap.objs.size A0.f_plus_of cdv))) :
    XSs ⟨K, mg⟩ (fun _ : Unit => cxOf (L2.CX P w) P w K mg base ["one", "other", "size", "first", "second", "a", "b"] "plus_of" (defScope s_plus_of) A0.f_plus_of cdv A outer s H E) (fun cls d _ H => E cls d H) [0, 1] (defBody s_plus_of) g_plus_of :=
  (xss_cons (xs_set (by decide) (fun t h j => ps_set sc_plus_of.nd rfl (by first | exact .inl rfl | exact .inr rfl) (h j) rfl (by first | exact .inl rfl | exact .inr rfl)) (xe_callB (fun _ => call_max2 rfl) prm_max2 (fun _ => rfl) (fun _ => Ev.z_max) (by decide +kernel) (xbs_cons (xb_of (xe_callB (fun _ => call_lenB) prm_lenA (fun _ => rfl) (fun _ => Ev.z_len) (by decide +kernel) (xbs_cons (xb_var fun _ => pv 0) xbs_nil (fun _ => rfl)) (by decide) rfl (fun _ => rfl) (fun _ => rfl))) (xbs_cons (xb_of (xe_callB (fun _ => call_lenB) prm_lenA (fun _ => rfl) (fun _ => Ev.z_len) (by decide +kernel) (xbs_cons (xb_var fun _ => pv 1) xbs_nil (fun _ => rfl)) (by decide) rfl (fun _ => rfl) (fun _ => rfl))) xbs_nil (fun _ => rfl)) (fun _ => rfl)) (by decide) rfl (fun _ => rfl) (fun _ => rfl))) (xss_cons (xs_parA (by decide) (by decide) (fun _ => rfl) (by first | exact .inl (fun t u h1 h2 k => ps_par rfl sc_plus_of.nd rfl rfl (by decide) rfl rfl (pa_cons (h1 k) (pa_cons (h2 k) pa_nil)) rfl) | exact .inr (fun t u h1 h2 k => ps_asg (pe_tup (pa_cons (h1 k) (pa_cons (h2 k) pa_nil))) (pg_tup rfl (pgs_cons (pg_name sc_plus_of.nd rfl (by first | exact .inl rfl | exact .inr rfl) (by first | exact .inl rfl | exact .inr rfl)) (pgs_cons (pg_name sc_plus_of.nd rfl (by first | exact .inl rfl | exact .inr rfl) (by first | exact .inl rfl | exact .inr rfl)) pgs_nil))))) (xe_lstD (xds_star (fun _ => rfl) (xb_var fun _ => pv 0) (xds_star (fun _ => rfl) (xb_of (xe_bin (fun _ => op_mulA) prm_mul (xb_of (xe_lst (xbs_cons (xb_of xe_int) xbs_nil (fun _ => rfl)))) (xb_of (xe_bin (fun _ => op_sub) prm_sub (xb_var fun _ => pv 2) (xb_of (xe_callB (fun _ => call_lenB) prm_lenA (fun _ => rfl) (fun _ => Ev.z_len) (by decide +kernel) (xbs_cons (xb_var fun _ => pv 0) xbs_nil (fun _ => rfl)) (by decide) rfl (fun _ => rfl) (fun _ => rfl))))))) xds_nil (fun t u h1 h2 i => StX.pa_star (h1 i) (h2 i) rfl)) (fun t u h1 h2 i => StX.pa_star (h1 i) (h2 i) rfl))) (xe_lstD (xds_star (fun _ => rfl) (xb_var fun _ => pv 1) (xds_star (fun _ => rfl) (xb_of (xe_bin (fun _ => op_mulA) prm_mul (xb_of (xe_lst (xbs_cons (xb_of xe_int) xbs_nil (fun _ => rfl)))) (xb_of (xe_bin (fun _ => op_sub) prm_sub (xb_var fun _ => pv 2) (xb_of (xe_callB (fun _ => call_lenB) prm_lenA (fun _ => rfl) (fun _ => Ev.z_len) (by decide +kernel) (xbs_cons (xb_var fun _ => pv 1) xbs_nil (fun _ => rfl)) (by decide) rfl (fun _ => rfl) (fun _ => rfl))))))) xds_nil (fun t u h1 h2 i => StX.pa_star (h1 i) (h2 i) rfl)) (fun t u h1 h2 i => StX.pa_star (h1 i) (h2 i) rfl)))) (xss_one (xs_ret (xe_call (fun _ => k_trimmed) (fun _ => hr.mono (by decide)) (fun _ => rfl) (fun _ => Ev.m_trimmed) (fun _ => Ev.F_trimmed.kp) (fun _ => Ev.b_trimmed) (fun _ => takes_of rfl rfl rfl rfl) (xbs_cons (xb_of (xe_lc0 (own := [("a", 5), ("b", 6)]) (N := 7) (fun _ => rfl) (fun _ => sc_plus_of.nd) (xi_zip (fun _ => rfl) (fun _ => rfl) (fun _ => Ev.z_zip) (xb_var fun _ => pv 3) (xb_var fun _ => pv 4) (fun _ => rfl) (fun _ => rfl) (fun _ => rfl)) (fun _ => blkB_ok rfl) (xg_tup (fun _ => rfl) (fun _ => rfl) (xgs_cons (xg_name (by decide) (fun _ => pg_name sc_plus_of.nd rfl (by first | exact .inl rfl | exact .inr rfl) (by first | exact .inl rfl | exact .inr rfl))) (xgs_cons (xg_name (by decide) (fun _ => pg_name sc_plus_of.nd rfl (by first | exact .inl rfl | exact .inr rfl) (by first | exact .inl rfl | exact .inr rfl))) xgs_nil (fun _ => rfl)) (fun _ => rfl)) (fun _ => rfl) (fun _ => rfl)) (xb_of (xe_bin (fun _ => op_addA) prm_add (xb_var fun _ => pv 5) (xb_var fun _ => pv 6))) (fun _ _ => rfl))) xbs_nil (fun _ => rfl)) (len_cons (fun _ _ _ _ => len_nil)) rfl (fun _ => rfl) (fun _ => rfl))))))
theorem o_plus_of (Ev : Evd P w K mg base A0) (k_trimmed : FnOk P w K mg base (L2.CX P w) 1 A0.f_trimmed A0.d_trimmed ["row"] (spM ⟨K, mg⟩ 1 m_trimmed)) (h : ∀ cs o, m_plus_of cs = some o → ∃ n out, g_plus_of n (startR 7 cs) = some out ∧ fin [true, true] out = some o) : FnOk P w K mg base (L2.CX P w) 2 A0.f_plus_of A0.d_plus_of ["one", "other"] (spM ⟨K, mg⟩ 2 m_plus_of) :=
  def_ok (fl := [true, true]) (Pk := [0, 1]) Ev.F_plus_of sc_plus_of rfl (flB_ok rfl) (by decide) (fun cdv A outer s H E hr => w_plus_of Ev k_trimmed cdv A outer s H E hr) h
theorem w_scaled (Ev : Evd P w K mg base A0) (k_trimmed : FnOk P w K mg base (L2.CX P w) 1 A0.f_trimmed A0.d_trimmed ["row"] (spM ⟨K, mg⟩ 1 m_trimmed)) (cdv : Value) (A : Around) (outer : List Env) (s : Shared) (H : Hp) (E : XK) (hr : Room 1 (A.deeper (envOfC "scaled" (defScope s_scaled) s.heap.objs.size A0.f_scaled cdv))) :
    XSs ⟨K, mg⟩ (fun _ : Unit => cxOf (L2.CX P w) P w K mg base ["one", "number", "a"] "scaled" (defScope s_scaled) A0.f_scaled cdv A outer s H E) (fun cls d _ H => E cls d H) [0, 1] (defBody s_scaled) g_scaled :=
  (xss_one (xs_ret (xe_call (fun _ => k_trimmed) (fun _ => hr.mono (by decide)) (fun _ => rfl) (fun _ => Ev.m_trimmed) (fun _ => Ev.F_trimmed.kp) (fun _ => Ev.b_trimmed) (fun _ => takes_of rfl rfl rfl rfl) (xbs_cons (xb_of (xe_lc0 (own := [("a", 2)]) (N := 3) (fun _ => rfl) (fun _ => sc_scaled.nd) (xi_seq (fun _ => rfl) (xb_var fun _ => pv 0)) (fun _ => blkB_ok rfl) (xg_name (by decide) (fun _ => pg_name sc_scaled.nd rfl (by first | exact .inl rfl | exact .inr rfl) (by first | exact .inl rfl | exact .inr rfl))) (xb_of (xe_bin (fun _ => op_mulA) prm_mul (xb_var fun _ => pv 1) (xb_var fun _ => pv 2))) (fun _ _ => rfl))) xbs_nil (fun _ => rfl)) (len_cons (fun _ _ _ _ => len_nil)) rfl (fun _ => rfl) (fun _ => rfl))))
theorem o_scaled (Ev : Evd P w K mg base A0) (k_trimmed : FnOk P w K mg base (L2.CX P w) 1 A0.f_trimmed A0.d_trimmed ["row"] (spM ⟨K, mg⟩ 1 m_trimmed)) (h : ∀ cs o, m_scaled cs = some o → ∃ n out, g_scaled n (startR 3 cs) = some out ∧ fin [true, true] out = some o) : FnOk P w K mg base (L2.CX P w) 2 A0.f_scaled A0.d_scaled ["one", "number"] (spM ⟨K, mg⟩ 2 m_scaled) :=
  def_ok (fl := [true, true]) (Pk := [0, 1]) Ev.F_scaled sc_scaled rfl (flB_ok rfl) (by decide) (fun cdv A outer s H E hr => w_scaled Ev k_trimmed cdv A outer s H E hr) h
theorem w_times_of (Ev : Evd P w K mg base A0) (k_trimmed : FnOk P w K mg base (L2.CX P w) 1 A0.f_trimmed A0.d_trimmed ["row"] (spM ⟨K, mg⟩ 1 m_trimmed)) (cdv : Value) (A : Around) (outer : List Env) (s : Shared) (H : Hp) (E : XK) (hr : Room 1 (A.deeper (envOfC "times_of" (defScope s_times_of) s.heap.objs.size A0.f_times_of cdv))) :
    XSs ⟨K, mg⟩ (fun _ : Unit => cxOf (L2.CX P w) P w K mg base ["one", "other", "found", "at", "a", "place", "b"] "times_of" (defScope s_times_of) A0.f_times_of cdv A outer s H E) (fun cls d _ H => E cls d H) [0, 1] (defBody s_times_of) g_times_of :=
  (xss_cons (xs_if (xt_w (xw_or (xt_cmp (fun _ => op_eqD hr.units) prm_eq (xb_var fun _ => pv 0) (xb_of (xe_tup xbs_nil)) (nomark _)) (xw_or1 (xt_cmp (fun _ => op_eqD hr.units) prm_eq (xb_var fun _ => pv 1) (xb_of (xe_tup xbs_nil)) (nomark _))))) (xss_one (xs_ret (xe_tup xbs_nil))) xss_nil) (xss_cons (xs_set (by decide) (fun t h j => ps_set sc_times_of.nd rfl (by first | exact .inl rfl | exact .inr rfl) (h j) rfl (by first | exact .inl rfl | exact .inr rfl)) (xe_bin (fun _ => op_mulA) prm_mul (xb_of (xe_lst (xbs_cons (xb_of xe_int) xbs_nil (fun _ => rfl)))) (xb_of (xe_bin (fun _ => op_sub) prm_sub (xb_of (xe_bin (fun _ => op_addA) prm_add (xb_of (xe_callB (fun _ => call_lenB) prm_lenA (fun _ => rfl) (fun _ => Ev.z_len) (by decide +kernel) (xbs_cons (xb_var fun _ => pv 0) xbs_nil (fun _ => rfl)) (by decide) rfl (fun _ => rfl) (fun _ => rfl))) (xb_of (xe_callB (fun _ => call_lenB) prm_lenA (fun _ => rfl) (fun _ => Ev.z_len) (by decide +kernel) (xbs_cons (xb_var fun _ => pv 1) xbs_nil (fun _ => rfl)) (by decide) rfl (fun _ => rfl) (fun _ => rfl))))) (xb_of xe_int))))) (xss_cons (xs_for (fun _ => passes_of (K := fun e s'' => L2.CX P w outer H s E e s'') (E₁ := fun e' s'' => L2.CX P w outer H s E e' s'') rfl) (fun _ => rfl) (xi_enum (fun _ => rfl) (fun _ => rfl) (fun _ => Ev.z_enumerate) (xb_var fun _ => pv 0) (fun _ => rfl)) (xg_tup (fun _ => rfl) (fun _ => rfl) (xgs_cons (xg_name (by decide) (fun _ => pg_name sc_times_of.nd rfl (by first | exact .inl rfl | exact .inr rfl) (by first | exact .inl rfl | exact .inr rfl))) (xgs_cons (xg_name (by decide) (fun _ => pg_name sc_times_of.nd rfl (by first | exact .inl rfl | exact .inr rfl) (by first | exact .inl rfl | exact .inr rfl))) xgs_nil (fun _ => rfl)) (fun _ => rfl)) (fun _ => rfl) (fun _ => rfl)) (xss_one (xs_for (fun _ => passes_of (K := fun e s'' => L2.CX P w outer H s E e s'') (E₁ := fun e' s'' => L2.CX P w outer H s E e' s'') rfl) (fun _ => rfl) (xi_enum (fun _ => rfl) (fun _ => rfl) (fun _ => Ev.z_enumerate) (xb_var fun _ => pv 1) (fun _ => rfl)) (xg_tup (fun _ => rfl) (fun _ => rfl) (xgs_cons (xg_name (by decide) (fun _ => pg_name sc_times_of.nd rfl (by first | exact .inl rfl | exact .inr rfl) (by first | exact .inl rfl | exact .inr rfl))) (xgs_cons (xg_name (by decide) (fun _ => pg_name sc_times_of.nd rfl (by first | exact .inl rfl | exact .inr rfl) (by first | exact .inl rfl | exact .inr rfl))) xgs_nil (fun _ => rfl)) (fun _ => rfl)) (fun _ => rfl) (fun _ => rfl)) (xss_one (xs_augIx (fun _ => rfl) (fun _ => pv 2) (xb_of (xe_bin (fun _ => op_addA) prm_add (xb_var fun _ => pv 3) (xb_var fun _ => pv 5))) (xb_of (xe_bin (fun _ => op_mulA) prm_mul (xb_var fun _ => pv 4) (xb_var fun _ => pv 6))) (fun _ => ip_add) snd_ipI (fun _ _ _ => rfl))) (fun _ _ => rfl))) (fun _ _ => rfl)) (xss_one (xs_ret (xe_call (fun _ => k_trimmed) (fun _ => hr.mono (by decide)) (fun _ => rfl) (fun _ => Ev.m_trimmed) (fun _ => Ev.F_trimmed.kp) (fun _ => Ev.b_trimmed) (fun _ => takes_of rfl rfl rfl rfl) (xbs_cons (xb_var fun _ => pv 2) xbs_nil (fun _ => rfl)) (len_cons (fun _ _ _ _ => len_nil)) rfl (fun _ => rfl) (fun _ => rfl)))))))
theorem o_times_of (Ev : Evd P w K mg base A0) (k_trimmed : FnOk P w K mg base (L2.CX P w) 1 A0.f_trimmed A0.d_trimmed ["row"] (spM ⟨K, mg⟩ 1 m_trimmed)) (h : ∀ cs o, m_times_of cs = some o → ∃ n out, g_times_of n (startR 7 cs) = some out ∧ fin [true, true] out = some o) : FnOk P w K mg base (L2.CX P w) 2 A0.f_times_of A0.d_times_of ["one", "other"] (spM ⟨K, mg⟩ 2 m_times_of) :=
  def_ok (fl := [true, true]) (Pk := [0, 1]) Ev.F_times_of sc_times_of rfl (flB_ok rfl) (by decide) (fun cdv A outer s H E hr => w_times_of Ev k_trimmed cdv A outer s H E hr) h
theorem w_through (Ev : Evd P w K mg base A0) (k_check_points : FnOk P w K mg base (L2.CX P w) 3 A0.f_check_points A0.d_check_points ["value"] (spM ⟨K, mg⟩ 1 m_check_points)) (k_times_of : FnOk P w K mg base (L2.CX P w) 2 A0.f_times_of A0.d_times_of ["one", "other"] (spM ⟨K, mg⟩ 2 m_times_of)) (k_plus_of : FnOk P w K mg base (L2.CX P w) 2 A0.f_plus_of A0.d_plus_of ["one", "other"] (spM ⟨K, mg⟩ 2 m_plus_of)) (k_scaled : FnOk P w K mg base (L2.CX P w) 2 A0.f_scaled A0.d_scaled ["one", "number"] (spM ⟨K, mg⟩ 2 m_scaled)) (k_reduced : FnOk P w K mg base (L2.CX P w) 2 A0.f_reduced A0.d_reduced ["one", "number"] (spM ⟨K, mg⟩ 2 m_reduced)) (cdv : Value) (A : Around) (outer : List Env) (s : Shared) (H : Hp) (E : XK) (hr : Room 3 (A.deeper (envOfC "through" (defScope s_through) s.heap.objs.size A0.f_through cdv))) :
    XSs ⟨K, mg⟩ (fun _ : Unit => cxOf (L2.CX P w) P w K mg base ["points", "found", "number", "place", "height", "part", "below", "other", "beside"] "through" (defScope s_through) A0.f_through cdv A outer s H E) (fun cls d _ H => E cls d H) [0] (defBody s_through) g_through :=
  (xss_cons (xs_expr (xb_of (xe_call (fun _ => k_check_points) (fun _ => hr.mono (by decide)) (fun _ => rfl) (fun _ => Ev.m_check_points) (fun _ => Ev.F_check_points.kp) (fun _ => Ev.b_check_points) (fun _ => takes_of rfl rfl rfl rfl) (xbs_cons (xb_var fun _ => pv 0) xbs_nil (fun _ => rfl)) (len_cons (fun _ _ _ _ => len_nil)) rfl (fun _ => rfl) (fun _ => rfl))) (fun _ => rfl)) (xss_cons (xs_parA (by decide) (by decide) (fun _ => rfl) (by first | exact .inl (fun t u h1 h2 k => ps_par rfl sc_through.nd rfl rfl (by decide) rfl rfl (pa_cons (h1 k) (pa_cons (h2 k) pa_nil)) rfl) | exact .inr (fun t u h1 h2 k => ps_asg (pe_tup (pa_cons (h1 k) (pa_cons (h2 k) pa_nil))) (pg_tup rfl (pgs_cons (pg_name sc_through.nd rfl (by first | exact .inl rfl | exact .inr rfl) (by first | exact .inl rfl | exact .inr rfl)) (pgs_cons (pg_name sc_through.nd rfl (by first | exact .inl rfl | exact .inr rfl) (by first | exact .inl rfl | exact .inr rfl)) pgs_nil))))) (xe_tup xbs_nil) xe_int) (xss_cons (xs_for (fun _ => passes_of (K := fun e s'' => L2.CX P w outer H s E e s'') (E₁ := fun e' s'' => L2.CX P w outer H s E e' s'') rfl) (fun _ => rfl) (xi_seq (fun _ => rfl) (xb_var fun _ => pv 0)) (xg_tup (fun _ => rfl) (fun _ => rfl) (xgs_cons (xg_name (by decide) (fun _ => pg_name sc_through.nd rfl (by first | exact .inl rfl | exact .inr rfl) (by first | exact .inl rfl | exact .inr rfl))) (xgs_cons (xg_name (by decide) (fun _ => pg_name sc_through.nd rfl (by first | exact .inl rfl | exact .inr rfl) (by first | exact .inl rfl | exact .inr rfl))) xgs_nil (fun _ => rfl)) (fun _ => rfl)) (fun _ => rfl) (fun _ => rfl)) (xss_cons (xs_parA (by decide) (by decide) (fun _ => rfl) (by first | exact .inl (fun t u h1 h2 k => ps_par rfl sc_through.nd rfl rfl (by decide) rfl rfl (pa_cons (h1 k) (pa_cons (h2 k) pa_nil)) rfl) | exact .inr (fun t u h1 h2 k => ps_asg (pe_tup (pa_cons (h1 k) (pa_cons (h2 k) pa_nil))) (pg_tup rfl (pgs_cons (pg_name sc_through.nd rfl (by first | exact .inl rfl | exact .inr rfl) (by first | exact .inl rfl | exact .inr rfl)) (pgs_cons (pg_name sc_through.nd rfl (by first | exact .inl rfl | exact .inr rfl) (by first | exact .inl rfl | exact .inr rfl)) pgs_nil))))) (xe_tup (xbs_cons (xb_var fun _ => pv 4) xbs_nil (fun _ => rfl))) xe_int) (xss_cons (xs_for (fun _ => passes_of (K := fun e s'' => L2.CX P w outer H s E e s'') (E₁ := fun e' s'' => L2.CX P w outer H s E e' s'') rfl) (fun _ => rfl) (xi_seq (fun _ => rfl) (xb_var fun _ => pv 0)) (xg_tup (fun _ => rfl) (fun _ => rfl) (xgs_cons (xg_name (by decide) (fun _ => pg_name sc_through.nd rfl (by first | exact .inl rfl | exact .inr rfl) (by first | exact .inl rfl | exact .inr rfl))) (xgs_cons (xg_name (by decide) (fun _ => pg_name sc_through.nd rfl (by first | exact .inl rfl | exact .inr rfl) (by first | exact .inl rfl | exact .inr rfl))) xgs_nil (fun _ => rfl)) (fun _ => rfl)) (fun _ => rfl) (fun _ => rfl)) (xss_one (xs_if (xt_cmp (fun _ => op_neD hr.units) prm_ne (xb_var fun _ => pv 7) (xb_var fun _ => pv 3) (nomark _)) (xss_cons (xs_set (by decide) (fun t h j => ps_set sc_through.nd rfl (by first | exact .inl rfl | exact .inr rfl) (h j) rfl (by first | exact .inl rfl | exact .inr rfl)) (xe_call (fun _ => k_times_of) (fun _ => hr.mono (by decide)) (fun _ => rfl) (fun _ => Ev.m_times_of) (fun _ => Ev.F_times_of.kp) (fun _ => Ev.b_times_of) (fun _ => takes_of rfl rfl rfl rfl) (xbs_cons (xb_var fun _ => pv 5) (xbs_cons (xb_of (xe_tup (xbs_cons (xb_of (xe_un (fun _ => un_neg) prm_neg (xb_var fun _ => pv 7))) (xbs_cons (xb_of xe_int) xbs_nil (fun _ => rfl)) (fun _ => rfl)))) xbs_nil (fun _ => rfl)) (fun _ => rfl)) (len_cons (len_cons (fun _ _ _ _ => len_nil))) rfl (fun _ => rfl) (fun _ => rfl))) (xss_one (xs_set (by decide) (fun t h j => ps_set sc_through.nd rfl (by first | exact .inl rfl | exact .inr rfl) (h j) rfl (by first | exact .inl rfl | exact .inr rfl)) (xe_bin (fun _ => op_mulA) prm_mul (xb_var fun _ => pv 6) (xb_of (xe_bin (fun _ => op_sub) prm_sub (xb_var fun _ => pv 3) (xb_var fun _ => pv 7))))))) xss_nil)) (fun _ _ => rfl)) (xss_cons (xs_set (by decide) (fun t h j => ps_set sc_through.nd rfl (by first | exact .inl rfl | exact .inr rfl) (h j) rfl (by first | exact .inl rfl | exact .inr rfl)) (xe_call (fun _ => k_plus_of) (fun _ => hr.mono (by decide)) (fun _ => rfl) (fun _ => Ev.m_plus_of) (fun _ => Ev.F_plus_of.kp) (fun _ => Ev.b_plus_of) (fun _ => takes_of rfl rfl rfl rfl) (xbs_cons (xb_of (xe_call (fun _ => k_scaled) (fun _ => hr.mono (by decide)) (fun _ => rfl) (fun _ => Ev.m_scaled) (fun _ => Ev.F_scaled.kp) (fun _ => Ev.b_scaled) (fun _ => takes_of rfl rfl rfl rfl) (xbs_cons (xb_var fun _ => pv 1) (xbs_cons (xb_var fun _ => pv 6) xbs_nil (fun _ => rfl)) (fun _ => rfl)) (len_cons (len_cons (fun _ _ _ _ => len_nil))) rfl (fun _ => rfl) (fun _ => rfl))) (xbs_cons (xb_of (xe_call (fun _ => k_scaled) (fun _ => hr.mono (by decide)) (fun _ => rfl) (fun _ => Ev.m_scaled) (fun _ => Ev.F_scaled.kp) (fun _ => Ev.b_scaled) (fun _ => takes_of rfl rfl rfl rfl) (xbs_cons (xb_var fun _ => pv 5) (xbs_cons (xb_var fun _ => pv 2) xbs_nil (fun _ => rfl)) (fun _ => rfl)) (len_cons (len_cons (fun _ _ _ _ => len_nil))) rfl (fun _ => rfl) (fun _ => rfl))) xbs_nil (fun _ => rfl)) (fun _ => rfl)) (len_cons (len_cons (fun _ _ _ _ => len_nil))) rfl (fun _ => rfl) (fun _ => rfl))) (xss_one (xs_set (by decide) (fun t h j => ps_set sc_through.nd rfl (by first | exact .inl rfl | exact .inr rfl) (h j) rfl (by first | exact .inl rfl | exact .inr rfl)) (xe_bin (fun _ => op_mulA) prm_mul (xb_var fun _ => pv 2) (xb_var fun _ => pv 6))))))) (fun _ _ => rfl)) (xss_one (xs_ret (xe_call (fun _ => k_reduced) (fun _ => hr.mono (by decide)) (fun _ => rfl) (fun _ => Ev.m_reduced) (fun _ => Ev.F_reduced.kp) (fun _ => Ev.b_reduced) (fun _ => takes_of rfl rfl rfl rfl) (xbs_cons (xb_var fun _ => pv 1) (xbs_cons (xb_var fun _ => pv 2) xbs_nil (fun _ => rfl)) (fun _ => rfl)) (len_cons (len_cons (fun _ _ _ _ => len_nil))) rfl (fun _ => rfl) (fun _ => rfl)))))))
theorem o_through (Ev : Evd P w K mg base A0) (k_check_points : FnOk P w K mg base (L2.CX P w) 3 A0.f_check_points A0.d_check_points ["value"] (spM ⟨K, mg⟩ 1 m_check_points)) (k_times_of : FnOk P w K mg base (L2.CX P w) 2 A0.f_times_of A0.d_times_of ["one", "other"] (spM ⟨K, mg⟩ 2 m_times_of)) (k_plus_of : FnOk P w K mg base (L2.CX P w) 2 A0.f_plus_of A0.d_plus_of ["one", "other"] (spM ⟨K, mg⟩ 2 m_plus_of)) (k_scaled : FnOk P w K mg base (L2.CX P w) 2 A0.f_scaled A0.d_scaled ["one", "number"] (spM ⟨K, mg⟩ 2 m_scaled)) (k_reduced : FnOk P w K mg base (L2.CX P w) 2 A0.f_reduced A0.d_reduced ["one", "number"] (spM ⟨K, mg⟩ 2 m_reduced)) (h : ∀ cs o, m_through cs = some o → ∃ n out, g_through n (startR 9 cs) = some out ∧ fin [true] out = some o) : FnOk P w K mg base (L2.CX P w) 4 A0.f_through A0.d_through ["points"] (spM ⟨K, mg⟩ 1 m_through) :=
  def_ok (fl := [true]) (Pk := [0]) Ev.F_through sc_through rfl (flB_ok rfl) (by decide) (fun cdv A outer s H E hr => w_through Ev k_check_points k_times_of k_plus_of k_scaled k_reduced cdv A outer s H E hr) h
theorem w_is_root (Ev : Evd P w K mg base A0) (k_is_from : FnOk P w K mg base (L2.CX P w) 1 A0.f_is_from A0.d_is_from ["value", "low", "high"] (spM ⟨K, mg⟩ 3 m_is_from)) (cdv : Value) (A : Around) (outer : List Env) (s : Shared) (H : Hp) (E : XK) (hr : Room 1 (A.deeper (envOfC "is_root" (defScope s_is_root) s.heap.objs.size A0.f_is_root cdv))) :
    XSs ⟨K, mg⟩ (fun _ : Unit => cxOf (L2.CX P w) P w K mg base ["value"] "is_root" (defScope s_is_root) A0.f_is_root cdv A outer s H E) (fun cls d _ H => E cls d H) [0] (defBody s_is_root) g_is_root :=
  (xss_cons (xs_if (xt_w (xw_or (xt_not (xt_val (xe_isi (fun _ => rfl) (fun _ => rfl) (fun _ => Ev.z_isinstance) (fun _ => rfl) (fun _ => Ev.z_tuple) (by decide +kernel) (by decide) rfl (xb_var fun _ => pv 0) (fun _ => rfl) (fun _ => rfl) (fun _ => rfl)) (fun _ _ => rfl))) (xw_or (xt_cmp (fun _ => op_neD hr.units) prm_ne (xb_of (xe_callB (fun _ => call_lenB) prm_lenA (fun _ => rfl) (fun _ => Ev.z_len) (by decide +kernel) (xbs_cons (xb_var fun _ => pv 0) xbs_nil (fun _ => rfl)) (by decide) rfl (fun _ => rfl) (fun _ => rfl))) (xb_of xe_int) (nomark _)) (xw_or1 (xt_not (xt_val (xe_call (fun _ => k_is_from) (fun _ => hr.mono (by decide)) (fun _ => rfl) (fun _ => Ev.m_is_from) (fun _ => Ev.F_is_from.kp) (fun _ => Ev.b_is_from) (fun _ => takes_of rfl rfl rfl rfl) (xbs_cons (xb_of (xe_ix (fun _ => ix_seq) prm_ix (xb_var fun _ => pv 0) (xb_of xe_int) (fun _ _ => rfl))) (xbs_cons (xb_of (xe_un (fun _ => un_neg) prm_neg (xb_of (xe_glob (v := .int 20) (fun _ => rfl) (fun _ => Ev.c_MOST_ROOT) ⟨_, rfl⟩ (fun _ => .int _) rfl)))) (xbs_cons (xb_of (xe_glob (v := .int 20) (fun _ => rfl) (fun _ => Ev.c_MOST_ROOT) ⟨_, rfl⟩ (fun _ => .int _) rfl)) xbs_nil (fun _ => rfl)) (fun _ => rfl)) (fun _ => rfl)) (len_cons (len_cons (len_cons (fun _ _ _ _ => len_nil)))) rfl (fun _ => rfl) (fun _ => rfl)) (fun _ _ => rfl))))))) (xss_one (xs_ret xe_bool)) xss_nil) (xss_one (xs_ret (xe_call (fun _ => k_is_from) (fun _ => hr.mono (by decide)) (fun _ => rfl) (fun _ => Ev.m_is_from) (fun _ => Ev.F_is_from.kp) (fun _ => Ev.b_is_from) (fun _ => takes_of rfl rfl rfl rfl) (xbs_cons (xb_of (xe_ix (fun _ => ix_seq) prm_ix (xb_var fun _ => pv 0) (xb_of xe_int) (fun _ _ => rfl))) (xbs_cons (xb_of xe_int) (xbs_cons (xb_of (xe_glob (v := .int 12) (fun _ => rfl) (fun _ => Ev.c_MOST_TIMES) ⟨_, rfl⟩ (fun _ => .int _) rfl)) xbs_nil (fun _ => rfl)) (fun _ => rfl)) (fun _ => rfl)) (len_cons (len_cons (len_cons (fun _ _ _ _ => len_nil)))) rfl (fun _ => rfl) (fun _ => rfl)))))
theorem o_is_root (Ev : Evd P w K mg base A0) (k_is_from : FnOk P w K mg base (L2.CX P w) 1 A0.f_is_from A0.d_is_from ["value", "low", "high"] (spM ⟨K, mg⟩ 3 m_is_from)) (h : ∀ cs o, m_is_root cs = some o → ∃ n out, g_is_root n (startR 1 cs) = some out ∧ fin [true] out = some o) : FnOk P w K mg base (L2.CX P w) 2 A0.f_is_root A0.d_is_root ["value"] (spM ⟨K, mg⟩ 1 m_is_root) :=
  def_ok (fl := [true]) (Pk := [0]) Ev.F_is_root sc_is_root rfl (flB_ok rfl) (by decide) (fun cdv A outer s H E hr => w_is_root Ev k_is_from cdv A outer s H E hr) h
theorem w_by_roots (Ev : Evd P w K mg base A0) (k_is_root : FnOk P w K mg base (L2.CX P w) 2 A0.f_is_root A0.d_is_root ["value"] (spM ⟨K, mg⟩ 1 m_is_root)) (k_times_of : FnOk P w K mg base (L2.CX P w) 2 A0.f_times_of A0.d_times_of ["one", "other"] (spM ⟨K, mg⟩ 2 m_times_of)) (k_power_of : FnOk P w K mg base (L2.CX P w) 2 A0.f_power_of A0.d_power_of ["one", "many"] (spM ⟨K, mg⟩ 2 m_power_of)) (cdv : Value) (A : Around) (outer : List Env) (s : Shared) (H : Hp) (E : XK) (hr : Room 2 (A.deeper (envOfC "by_roots" (defScope s_by_roots) s.heap.objs.size A0.f_by_roots cdv))) :
    XSs ⟨K, mg⟩ (fun _ : Unit => cxOf (L2.CX P w) P w K mg base ["rows", "row", "root", "times", "found"] "by_roots" (defScope s_by_roots) A0.f_by_roots cdv A outer s H E) (fun cls d _ H => E cls d H) [0] (defBody s_by_roots) g_by_roots :=
  (xss_cons (xs_if (xt_w (xw_or (xt_not (xt_val (xe_isi2 (fun _ => rfl) (fun _ => rfl) (fun _ => Ev.z_isinstance) (fun _ => rfl) (fun _ => Ev.z_list) (by decide +kernel) (by decide) rfl (fun _ => rfl) (fun _ => Ev.z_tuple) (by decide +kernel) (by decide) rfl (xb_var fun _ => pv 0) (fun _ => rfl) (fun _ => rfl) (fun _ => rfl) (fun _ => rfl) (fun _ => rfl)) (fun _ _ => rfl))) (xw_or1 (xt_not (xt_val (xe_callB (fun _ => cr_all rfl) prm_all (fun _ => rfl) (fun _ => Ev.z_all) (by decide +kernel) (xbs_cons (xb_of (xe_lc0 (own := [("row", 1)]) (N := 5) (fun _ => rfl) (fun _ => sc_by_roots.nd) (xi_seq (fun _ => rfl) (xb_var fun _ => pv 0)) (fun _ => blkB_ok rfl) (xg_name (by decide) (fun _ => pg_name sc_by_roots.nd rfl (by first | exact .inl rfl | exact .inr rfl) (by first | exact .inl rfl | exact .inr rfl))) (xb_of (xe_call (fun _ => k_is_root) (fun _ => hr.mono (by decide)) (fun _ => rfl) (fun _ => Ev.m_is_root) (fun _ => Ev.F_is_root.kp) (fun _ => Ev.b_is_root) (fun _ => takes0) (xbs_cons (xb_var fun _ => pv 1) xbs_nil (fun _ => rfl)) (len_cons (fun _ _ _ _ => len_nil)) rfl (fun _ => rfl) (fun _ => rfl))) (fun _ _ => rfl))) xbs_nil (fun _ => rfl)) (by decide) rfl (fun _ => rfl) (fun _ => rfl)) (fun _ _ => rfl)))))) (xss_one (xs_raise0 (fun _ => rfl) (fun _ => rfl) (fun _ => rfl) (fun _ => takes_of rfl rfl rfl rfl) Ev.n_BadRoots Ev.m_BadRoots (fun _ => rfl) rfl)) xss_nil) (xss_cons (xs_if (xt_w (xw_or (xt_cmp (fun _ => op_gt) prm_i (xb_of (xe_callB (fun _ => cr_sum rfl) prm_sum (fun _ => rfl) (fun _ => Ev.z_sum) (by decide +kernel) (xbs_cons (xb_of (xe_rest [2, 3] (xe_lc0 (own := [("root", 2), ("times", 3)]) (N := 5) (fun _ => rfl) (fun _ => sc_by_roots.nd) (xi_seq (fun _ => rfl) (xb_var fun _ => pv 0)) (fun _ => blkB_ok rfl) (xg_tup (fun _ => rfl) (fun _ => rfl) (xgs_cons (xg_name (by decide) (fun _ => pg_name sc_by_roots.nd rfl (by first | exact .inl rfl | exact .inr rfl) (by first | exact .inl rfl | exact .inr rfl))) (xgs_cons (xg_name (by decide) (fun _ => pg_name sc_by_roots.nd rfl (by first | exact .inl rfl | exact .inr rfl) (by first | exact .inl rfl | exact .inr rfl))) xgs_nil (fun _ => rfl)) (fun _ => rfl)) (fun _ => rfl) (fun _ => rfl)) (xb_var fun _ => pv 3) (fun _ _ => rfl)))) xbs_nil (fun _ => rfl)) (by decide) rfl (fun _ => rfl) (fun _ => rfl))) (xb_of (xe_glob (v := .int 12) (fun _ => rfl) (fun _ => Ev.c_MOST_TIMES) ⟨_, rfl⟩ (fun _ => .int _) rfl)) (nomark _)) (xw_or1 (xt_cmp (fun _ => op_lt) prm_i (xb_of (xe_callB (fun _ => call_lenB) prm_lenA (fun _ => rfl) (fun _ => Ev.z_len) (by decide +kernel) (xbs_cons (xb_of (xe_dc0 (own := [("root", 2), ("times", 3)]) (N := 5) (fun _ => rfl) (fun _ => sc_by_roots.nd) (xi_seq (fun _ => rfl) (xb_var fun _ => pv 0)) (fun _ => blkB_ok rfl) (xg_tup (fun _ => rfl) (fun _ => rfl) (xgs_cons (xg_name (by decide) (fun _ => pg_name sc_by_roots.nd rfl (by first | exact .inl rfl | exact .inr rfl) (by first | exact .inl rfl | exact .inr rfl))) (xgs_cons (xg_name (by decide) (fun _ => pg_name sc_by_roots.nd rfl (by first | exact .inl rfl | exact .inr rfl) (by first | exact .inl rfl | exact .inr rfl))) xgs_nil (fun _ => rfl)) (fun _ => rfl)) (fun _ => rfl) (fun _ => rfl)) (xb_var fun _ => pv 2) (xb_of xe_bool) (fun _ _ => rfl))) xbs_nil (fun _ => rfl)) (by decide) rfl (fun _ => rfl) (fun _ => rfl))) (xb_of (xe_callB (fun _ => call_lenB) prm_lenA (fun _ => rfl) (fun _ => Ev.z_len) (by decide +kernel) (xbs_cons (xb_var fun _ => pv 0) xbs_nil (fun _ => rfl)) (by decide) rfl (fun _ => rfl) (fun _ => rfl))) (nomark _))))) (xss_one (xs_raise0 (fun _ => rfl) (fun _ => rfl) (fun _ => rfl) (fun _ => takes_of rfl rfl rfl rfl) Ev.n_BadRoots Ev.m_BadRoots (fun _ => rfl) rfl)) xss_nil) (xss_cons (xs_set (by decide) (fun t h j => ps_set sc_by_roots.nd rfl (by first | exact .inl rfl | exact .inr rfl) (h j) rfl (by first | exact .inl rfl | exact .inr rfl)) (xe_tup (xbs_cons (xb_of xe_int) xbs_nil (fun _ => rfl)))) (xss_cons (xs_for (fun _ => passes_of (K := fun e s'' => L2.CX P w outer H s E e s'') (E₁ := fun e' s'' => L2.CX P w outer H s E e' s'') rfl) (fun _ => rfl) (xi_seq (fun _ => rfl) (xb_var fun _ => pv 0)) (xg_tup (fun _ => rfl) (fun _ => rfl) (xgs_cons (xg_name (by decide) (fun _ => pg_name sc_by_roots.nd rfl (by first | exact .inl rfl | exact .inr rfl) (by first | exact .inl rfl | exact .inr rfl))) (xgs_cons (xg_name (by decide) (fun _ => pg_name sc_by_roots.nd rfl (by first | exact .inl rfl | exact .inr rfl) (by first | exact .inl rfl | exact .inr rfl))) xgs_nil (fun _ => rfl)) (fun _ => rfl)) (fun _ => rfl) (fun _ => rfl)) (xss_one (xs_set (by decide) (fun t h j => ps_set sc_by_roots.nd rfl (by first | exact .inl rfl | exact .inr rfl) (h j) rfl (by first | exact .inl rfl | exact .inr rfl)) (xe_call (fun _ => k_times_of) (fun _ => hr.mono (by decide)) (fun _ => rfl) (fun _ => Ev.m_times_of) (fun _ => Ev.F_times_of.kp) (fun _ => Ev.b_times_of) (fun _ => takes_of rfl rfl rfl rfl) (xbs_cons (xb_var fun _ => pv 4) (xbs_cons (xb_of (xe_call (fun _ => k_power_of) (fun _ => hr.mono (by decide)) (fun _ => rfl) (fun _ => Ev.m_power_of) (fun _ => Ev.F_power_of.kp) (fun _ => Ev.b_power_of) (fun _ => takes_of rfl rfl rfl rfl) (xbs_cons (xb_of (xe_tup (xbs_cons (xb_of (xe_un (fun _ => un_neg) prm_neg (xb_var fun _ => pv 2))) (xbs_cons (xb_of xe_int) xbs_nil (fun _ => rfl)) (fun _ => rfl)))) (xbs_cons (xb_var fun _ => pv 3) xbs_nil (fun _ => rfl)) (fun _ => rfl)) (len_cons (len_cons (fun _ _ _ _ => len_nil))) rfl (fun _ => rfl) (fun _ => rfl))) xbs_nil (fun _ => rfl)) (fun _ => rfl)) (len_cons (len_cons (fun _ _ _ _ => len_nil))) rfl (fun _ => rfl) (fun _ => rfl)))) (fun _ _ => rfl)) (xss_one (xs_ret (xe_mv fun _ => pv 4)))))))
theorem o_by_roots (Ev : Evd P w K mg base A0) (k_is_root : FnOk P w K mg base (L2.CX P w) 2 A0.f_is_root A0.d_is_root ["value"] (spM ⟨K, mg⟩ 1 m_is_root)) (k_times_of : FnOk P w K mg base (L2.CX P w) 2 A0.f_times_of A0.d_times_of ["one", "other"] (spM ⟨K, mg⟩ 2 m_times_of)) (k_power_of : FnOk P w K mg base (L2.CX P w) 2 A0.f_power_of A0.d_power_of ["one", "many"] (spM ⟨K, mg⟩ 2 m_power_of)) (h : ∀ cs o, m_by_roots cs = some o → ∃ n out, g_by_roots n (startR 5 cs) = some out ∧ fin [true] out = some o) : FnOk P w K mg base (L2.CX P w) 3 A0.f_by_roots A0.d_by_roots ["rows"] (spM ⟨K, mg⟩ 1 m_by_roots) :=
  def_ok (fl := [true]) (Pk := [0]) Ev.F_by_roots sc_by_roots rfl (flB_ok rfl) (by decide) (fun cdv A outer s H E hr => w_by_roots Ev k_is_root k_times_of k_power_of cdv A outer s H E hr) h
theorem w_check_poly (Ev : Evd P w K mg base A0) (k_is_from : FnOk P w K mg base (L2.CX P w) 1 A0.f_is_from A0.d_is_from ["value", "low", "high"] (spM ⟨K, mg⟩ 3 m_is_from)) (cdv : Value) (A : Around) (outer : List Env) (s : Shared) (H : Hp) (E : XK) (hr : Room 2 (A.deeper (envOfC "check_poly" (defScope s_check_poly) s.heap.objs.size A0.f_check_poly cdv))) :
    XSs ⟨K, mg⟩ (fun _ : Unit => cxOf (L2.CX P w) P w K mg base ["value", "index", "one"] "check_poly" (defScope s_check_poly) A0.f_check_poly cdv A outer s H E) (fun cls d _ H => E cls d H) [0] (defBody s_check_poly) g_check_poly :=
  (xss_cons (xs_if (xt_w (xw_or (xt_not (xt_val (xe_isi (fun _ => rfl) (fun _ => rfl) (fun _ => Ev.z_isinstance) (fun _ => rfl) (fun _ => Ev.z_tuple) (by decide +kernel) (by decide) rfl (xb_var fun _ => pv 0) (fun _ => rfl) (fun _ => rfl) (fun _ => rfl)) (fun _ _ => rfl))) (xw_or1 (xt_cmp (fun _ => op_gt) prm_i (xb_of (xe_callB (fun _ => call_lenB) prm_lenA (fun _ => rfl) (fun _ => Ev.z_len) (by decide +kernel) (xbs_cons (xb_var fun _ => pv 0) xbs_nil (fun _ => rfl)) (by decide) rfl (fun _ => rfl) (fun _ => rfl))) (xb_of (xe_glob (v := .int 13) (fun _ => rfl) (fun _ => Ev.c_MOST_TERMS) ⟨_, rfl⟩ (fun _ => .int _) rfl)) (nomark _))))) (xss_one (xs_raiseI (fun _ => rfl) (fun _ => rfl) (fun _ => rfl) (fun _ => takes_of rfl rfl rfl rfl) (fun _ => Ev.i_BadPoly) (fun _ => hr.mono (by decide)) Ev.m_BadPoly (fun _ => rfl) rfl (xbs_cons (xb_of xe_none) xbs_nil (fun _ => rfl)) (fun _ => rfl) (fun _ => rfl))) xss_nil) (xss_cons (xs_for (fun _ => passes_of (K := fun e s'' => L2.CX P w outer H s E e s'') (E₁ := fun e' s'' => L2.CX P w outer H s E e' s'') rfl) (fun _ => rfl) (xi_enum (fun _ => rfl) (fun _ => rfl) (fun _ => Ev.z_enumerate) (xb_var fun _ => pv 0) (fun _ => rfl)) (xg_tup (fun _ => rfl) (fun _ => rfl) (xgs_cons (xg_name (by decide) (fun _ => pg_name sc_check_poly.nd rfl (by first | exact .inl rfl | exact .inr rfl) (by first | exact .inl rfl | exact .inr rfl))) (xgs_cons (xg_name (by decide) (fun _ => pg_name sc_check_poly.nd rfl (by first | exact .inl rfl | exact .inr rfl) (by first | exact .inl rfl | exact .inr rfl))) xgs_nil (fun _ => rfl)) (fun _ => rfl)) (fun _ => rfl) (fun _ => rfl)) (xss_one (xs_if (xt_not (xt_val (xe_call (fun _ => k_is_from) (fun _ => hr.mono (by decide)) (fun _ => rfl) (fun _ => Ev.m_is_from) (fun _ => Ev.F_is_from.kp) (fun _ => Ev.b_is_from) (fun _ => takes_of rfl rfl rfl rfl) (xbs_cons (xb_var fun _ => pv 2) (xbs_cons (xb_of (xe_un (fun _ => un_neg) prm_neg (xb_of (xe_glob (v := .int 1000000000) (fun _ => rfl) (fun _ => Ev.c_FAR) ⟨_, rfl⟩ (fun _ => .int _) rfl)))) (xbs_cons (xb_of (xe_glob (v := .int 1000000000) (fun _ => rfl) (fun _ => Ev.c_FAR) ⟨_, rfl⟩ (fun _ => .int _) rfl)) xbs_nil (fun _ => rfl)) (fun _ => rfl)) (fun _ => rfl)) (len_cons (len_cons (len_cons (fun _ _ _ _ => len_nil)))) rfl (fun _ => rfl) (fun _ => rfl)) (fun _ _ => rfl))) (xss_one (xs_raiseI (fun _ => rfl) (fun _ => rfl) (fun _ => rfl) (fun _ => takes_of rfl rfl rfl rfl) (fun _ => Ev.i_BadPoly) (fun _ => hr.mono (by decide)) Ev.m_BadPoly (fun _ => rfl) rfl (xbs_cons (xb_var fun _ => pv 1) xbs_nil (fun _ => rfl)) (fun _ => rfl) (fun _ => rfl))) xss_nil)) (fun _ _ => rfl)) (xss_one (xs_if (xt_w (xw_and (xt_cmp (fun _ => op_neD hr.units) prm_ne (xb_var fun _ => pv 0) (xb_of (xe_tup xbs_nil)) (nomark _)) (xw_and1 (xt_cmp (fun _ => op_eqD hr.units) prm_eq (xb_of (xe_ix (fun _ => ix_seq) prm_ix (xb_var fun _ => pv 0) (xb_of (xe_un (fun _ => un_neg) prm_neg (xb_of xe_int))) (fun _ _ => rfl))) (xb_of xe_int) (nomark _))))) (xss_one (xs_raiseI (fun _ => rfl) (fun _ => rfl) (fun _ => rfl) (fun _ => takes_of rfl rfl rfl rfl) (fun _ => Ev.i_BadPoly) (fun _ => hr.mono (by decide)) Ev.m_BadPoly (fun _ => rfl) rfl (xbs_cons (xb_of (xe_bin (fun _ => op_sub) prm_sub (xb_of (xe_callB (fun _ => call_lenB) prm_lenA (fun _ => rfl) (fun _ => Ev.z_len) (by decide +kernel) (xbs_cons (xb_var fun _ => pv 0) xbs_nil (fun _ => rfl)) (by decide) rfl (fun _ => rfl) (fun _ => rfl))) (xb_of xe_int))) xbs_nil (fun _ => rfl)) (fun _ => rfl) (fun _ => rfl))) xss_nil))))
theorem o_check_poly (Ev : Evd P w K mg base A0) (k_is_from : FnOk P w K mg base (L2.CX P w) 1 A0.f_is_from A0.d_is_from ["value", "low", "high"] (spM ⟨K, mg⟩ 3 m_is_from)) (h : ∀ cs o, m_check_poly cs = some o → ∃ n out, g_check_poly n (startR 3 cs) = some out ∧ fin [true] out = some o) : FnOk P w K mg base (L2.CX P w) 3 A0.f_check_poly A0.d_check_poly ["value"] (spM ⟨K, mg⟩ 1 m_check_poly) :=
  def_ok (fl := [true]) (Pk := [0]) Ev.F_check_poly sc_check_poly rfl (flB_ok rfl) (by decide) (fun cdv A outer s H E hr => w_check_poly Ev k_is_from cdv A outer s H E hr) h
theorem w_check_zero (Ev : Evd P w K mg base A0) (cdv : Value) (A : Around) (outer : List Env) (s : Shared) (H : Hp) (E : XK) (hr : Room 2 (A.deeper (envOfC "check_zero" (defScope s_check_zero) s.heap.objs.size A0.f_check_zero cdv))) :
    XSs ⟨K, mg⟩ (fun _ : Unit => cxOf (L2.CX P w) P w K mg base ["one"] "check_zero" (defScope s_check_zero) A0.f_check_zero cdv A outer s H E) (fun cls d _ H => E cls d H) [0] (defBody s_check_zero) g_check_zero :=
  (xss_one (xs_if (xt_cmp (fun _ => op_eqD hr.units) prm_eq (xb_var fun _ => pv 0) (xb_of (xe_tup xbs_nil)) (nomark _)) (xss_one (xs_raise0 (fun _ => rfl) (fun _ => rfl) (fun _ => rfl) (fun _ => takes_of rfl rfl rfl rfl) Ev.n_Zero Ev.m_Zero (fun _ => rfl) rfl)) xss_nil))
theorem o_check_zero (Ev : Evd P w K mg base A0) (h : ∀ cs o, m_check_zero cs = some o → ∃ n out, g_check_zero n (startR 1 cs) = some out ∧ fin [true] out = some o) : FnOk P w K mg base (L2.CX P w) 3 A0.f_check_zero A0.d_check_zero ["one"] (spM ⟨K, mg⟩ 1 m_check_zero) :=
  def_ok (fl := [true]) (Pk := [0]) Ev.F_check_zero sc_check_zero rfl (flB_ok rfl) (by decide) (fun cdv A outer s H E hr => w_check_zero Ev cdv A outer s H E hr) h
theorem w_unlike (Ev : Evd P w K mg base A0) (k_check_poly : FnOk P w K mg base (L2.CX P w) 3 A0.f_check_poly A0.d_check_poly ["value"] (spM ⟨K, mg⟩ 1 m_check_poly)) (k_check_zero : FnOk P w K mg base (L2.CX P w) 3 A0.f_check_zero A0.d_check_zero ["one"] (spM ⟨K, mg⟩ 1 m_check_zero)) (k_many_roots : FnOk P w K mg base (L2.CX P w) 2 A0.f_many_roots A0.d_many_roots ["one"] (spM ⟨K, mg⟩ 1 m_many_roots)) (cdv : Value) (A : Around) (outer : List Env) (s : Shared) (H : Hp) (E : XK) (hr : Room 3 (A.deeper (envOfC "unlike" (defScope s_unlike) s.heap.objs.size A0.f_unlike cdv))) :
    XSs ⟨K, mg⟩ (fun _ : Unit => cxOf (L2.CX P w) P w K mg base ["one"] "unlike" (defScope s_unlike) A0.f_unlike cdv A outer s H E) (fun cls d _ H => E cls d H) [0] (defBody s_unlike) g_unlike :=
  (xss_cons (xs_expr (xb_of (xe_call (fun _ => k_check_poly) (fun _ => hr.mono (by decide)) (fun _ => rfl) (fun _ => Ev.m_check_poly) (fun _ => Ev.F_check_poly.kp) (fun _ => Ev.b_check_poly) (fun _ => takes_of rfl rfl rfl rfl) (xbs_cons (xb_var fun _ => pv 0) xbs_nil (fun _ => rfl)) (len_cons (fun _ _ _ _ => len_nil)) rfl (fun _ => rfl) (fun _ => rfl))) (fun _ => rfl)) (xss_cons (xs_expr (xb_of (xe_call (fun _ => k_check_zero) (fun _ => hr.mono (by decide)) (fun _ => rfl) (fun _ => Ev.m_check_zero) (fun _ => Ev.F_check_zero.kp) (fun _ => Ev.b_check_zero) (fun _ => takes_of rfl rfl rfl rfl) (xbs_cons (xb_var fun _ => pv 0) xbs_nil (fun _ => rfl)) (len_cons (fun _ _ _ _ => len_nil)) rfl (fun _ => rfl) (fun _ => rfl))) (fun _ => rfl)) (xss_one (xs_ret (xe_call (fun _ => k_many_roots) (fun _ => hr.mono (by decide)) (fun _ => rfl) (fun _ => Ev.m_many_roots) (fun _ => Ev.F_many_roots.kp) (fun _ => Ev.b_many_roots) (fun _ => takes_of rfl rfl rfl rfl) (xbs_cons (xb_var fun _ => pv 0) xbs_nil (fun _ => rfl)) (len_cons (fun _ _ _ _ => len_nil)) rfl (fun _ => rfl) (fun _ => rfl))))))
theorem o_unlike (Ev : Evd P w K mg base A0) (k_check_poly : FnOk P w K mg base (L2.CX P w) 3 A0.f_check_poly A0.d_check_poly ["value"] (spM ⟨K, mg⟩ 1 m_check_poly)) (k_check_zero : FnOk P w K mg base (L2.CX P w) 3 A0.f_check_zero A0.d_check_zero ["one"] (spM ⟨K, mg⟩ 1 m_check_zero)) (k_many_roots : FnOk P w K mg base (L2.CX P w) 2 A0.f_many_roots A0.d_many_roots ["one"] (spM ⟨K, mg⟩ 1 m_many_roots)) (h : ∀ cs o, m_unlike cs = some o → ∃ n out, g_unlike n (startR 1 cs) = some out ∧ fin [true] out = some o) : FnOk P w K mg base (L2.CX P w) 4 A0.f_unlike A0.d_unlike ["one"] (spM ⟨K, mg⟩ 1 m_unlike) :=
  def_ok (fl := [true]) (Pk := [0]) Ev.F_unlike sc_unlike rfl (flB_ok rfl) (by decide) (fun cdv A outer s H E hr => w_unlike Ev k_check_poly k_check_zero k_many_roots cdv A outer s H E hr) h
theorem w_divisor (Ev : Evd P w K mg base A0) (cdv : Value) (A : Around) (outer : List Env) (s : Shared) (H : Hp) (E : XK) (hr : Room 0 (A.deeper (envOfC "divisor" (defScope s_divisor) s.heap.objs.size A0.f_divisor cdv))) :
    XSs ⟨K, mg⟩ (fun _ : Unit => cxOf (L2.CX P w) P w K mg base ["one", "other"] "divisor" (defScope s_divisor) A0.f_divisor cdv A outer s H E) (fun cls d _ H => E cls d H) [] (defBody s_divisor) g_divisor :=
  (xss_cons (xs_parA (by decide) (by decide) (fun _ => rfl) (by first | exact .inl (fun t u h1 h2 k => ps_par rfl sc_divisor.nd rfl rfl (by decide) rfl rfl (pa_cons (h1 k) (pa_cons (h2 k) pa_nil)) rfl) | exact .inr (fun t u h1 h2 k => ps_asg (pe_tup (pa_cons (h1 k) (pa_cons (h2 k) pa_nil))) (pg_tup rfl (pgs_cons (pg_name sc_divisor.nd rfl (by first | exact .inl rfl | exact .inr rfl) (by first | exact .inl rfl | exact .inr rfl)) (pgs_cons (pg_name sc_divisor.nd rfl (by first | exact .inl rfl | exact .inr rfl) (by first | exact .inl rfl | exact .inr rfl)) pgs_nil))))) (xe_callB (fun _ => call_abs) prm_abs (fun _ => rfl) (fun _ => Ev.z_abs) (by decide +kernel) (xbs_cons (xb_var fun _ => pv 0) xbs_nil (fun _ => rfl)) (by decide) rfl (fun _ => rfl) (fun _ => rfl)) (xe_callB (fun _ => call_abs) prm_abs (fun _ => rfl) (fun _ => Ev.z_abs) (by decide +kernel) (xbs_cons (xb_var fun _ => pv 1) xbs_nil (fun _ => rfl)) (by decide) rfl (fun _ => rfl) (fun _ => rfl))) (xss_cons (xs_wh (fun _ => passes_of (K := fun e s'' => L2.CX P w outer H s E e s'') (E₁ := fun e' s'' => L2.CX P w outer H s E e' s'') rfl) (xt_cmp (fun _ => op_gt) prm_i (xb_var fun _ => pv 1) (xb_of xe_int) (nomark _)) (xss_one (xs_parA (by decide) (by decide) (fun _ => rfl) (by first | exact .inl (fun t u h1 h2 k => ps_par rfl sc_divisor.nd rfl rfl (by decide) rfl rfl (pa_cons (h1 k) (pa_cons (h2 k) pa_nil)) rfl) | exact .inr (fun t u h1 h2 k => ps_asg (pe_tup (pa_cons (h1 k) (pa_cons (h2 k) pa_nil))) (pg_tup rfl (pgs_cons (pg_name sc_divisor.nd rfl (by first | exact .inl rfl | exact .inr rfl) (by first | exact .inl rfl | exact .inr rfl)) (pgs_cons (pg_name sc_divisor.nd rfl (by first | exact .inl rfl | exact .inr rfl) (by first | exact .inl rfl | exact .inr rfl)) pgs_nil))))) (xe_fz (xb_var fun _ => pv 1)) (xe_bin (fun _ => op_modN) prm_mod (xb_var fun _ => pv 0) (xb_var fun _ => pv 1))))) (xss_one (xs_ret (xe_mv fun _ => pv 0)))))
theorem o_divisor (Ev : Evd P w K mg base A0) (h : ∀ cs o, m_divisor cs = some o → ∃ n out, g_divisor n (startR 2 cs) = some out ∧ fin [false, false] out = some o) : FnOk P w K mg base (L2.CX P w) 1 A0.f_divisor A0.d_divisor ["one", "other"] (spM ⟨K, mg⟩ 2 m_divisor) :=
  def_ok (fl := [false, false]) (Pk := []) Ev.F_divisor sc_divisor rfl (flB_ok rfl) (by decide) (fun cdv A outer s H E hr => w_divisor Ev cdv A outer s H E hr) h
theorem w_plain (Ev : Evd P w K mg base A0) (k_divisor : FnOk P w K mg base (L2.CX P w) 1 A0.f_divisor A0.d_divisor ["one", "other"] (spM ⟨K, mg⟩ 2 m_divisor)) (cdv : Value) (A : Around) (outer : List Env) (s : Shared) (H : Hp) (E : XK) (hr : Room 1 (A.deeper (envOfC "plain" (defScope s_plain) s.heap.objs.size A0.f_plain cdv))) :
    XSs ⟨K, mg⟩ (fun _ : Unit => cxOf (L2.CX P w) P w K mg base ["one", "found", "a"] "plain" (defScope s_plain) A0.f_plain cdv A outer s H E) (fun cls d _ H => E cls d H) [0] (defBody s_plain) g_plain :=
  (xss_cons (xs_if (xt_cmp (fun _ => op_eqD hr.units) prm_eq (xb_var fun _ => pv 0) (xb_of (xe_tup xbs_nil)) (nomark _)) (xss_one (xs_ret (xe_tup xbs_nil))) xss_nil) (xss_cons (xs_set (by decide) (fun t h j => ps_set sc_plain.nd rfl (by first | exact .inl rfl | exact .inr rfl) (h j) rfl (by first | exact .inl rfl | exact .inr rfl)) xe_int) (xss_cons (xs_for (fun _ => passes_of (K := fun e s'' => L2.CX P w outer H s E e s'') (E₁ := fun e' s'' => L2.CX P w outer H s E e' s'') rfl) (fun _ => rfl) (xi_seq (fun _ => rfl) (xb_var fun _ => pv 0)) (xg_name (by decide) (fun _ => pg_name sc_plain.nd rfl (by first | exact .inl rfl | exact .inr rfl) (by first | exact .inl rfl | exact .inr rfl))) (xss_one (xs_set (by decide) (fun t h j => ps_set sc_plain.nd rfl (by first | exact .inl rfl | exact .inr rfl) (h j) rfl (by first | exact .inl rfl | exact .inr rfl)) (xe_call (fun _ => k_divisor) (fun _ => hr.mono (by decide)) (fun _ => rfl) (fun _ => Ev.m_divisor) (fun _ => Ev.F_divisor.kp) (fun _ => Ev.b_divisor) (fun _ => takes_of rfl rfl rfl rfl) (xbs_cons (xb_var fun _ => pv 1) (xbs_cons (xb_var fun _ => pv 2) xbs_nil (fun _ => rfl)) (fun _ => rfl)) (len_cons (len_cons (fun _ _ _ _ => len_nil))) rfl (fun _ => rfl) (fun _ => rfl)))) (fun _ _ => rfl)) (xss_cons (xs_set (by decide) (fun t h j => ps_set sc_plain.nd rfl (by first | exact .inl rfl | exact .inr rfl) (h j) rfl (by first | exact .inl rfl | exact .inr rfl)) (xe_if (xt_cmp (fun _ => op_gt) prm_i (xb_of (xe_ix (fun _ => ix_seq) prm_ix (xb_var fun _ => pv 0) (xb_of (xe_un (fun _ => un_neg) prm_neg (xb_of xe_int))) (fun _ _ => rfl))) (xb_of xe_int) (nomark _)) (xe_fz (xb_var fun _ => pv 1)) (xe_un (fun _ => un_neg) prm_neg (xb_var fun _ => pv 1)))) (xss_one (xs_ret (xe_callTy (fun _ => call_tuple_of) prm_tuple (fun _ => rfl) (fun _ => Ev.z_tuple) (by decide +kernel) (xbs_cons (xb_of (xe_rest [2] (xe_lc0 (own := [("a", 2)]) (N := 3) (fun _ => rfl) (fun _ => sc_plain.nd) (xi_seq (fun _ => rfl) (xb_var fun _ => pv 0)) (fun _ => blkB_ok rfl) (xg_name (by decide) (fun _ => pg_name sc_plain.nd rfl (by first | exact .inl rfl | exact .inr rfl) (by first | exact .inl rfl | exact .inr rfl))) (xb_of (xe_bin (fun _ => op_fdivB) prm_fdiv (xb_var fun _ => pv 2) (xb_var fun _ => pv 1))) (fun _ _ => rfl)))) xbs_nil (fun _ => rfl)) (by decide) rfl (fun _ => rfl) (fun _ => rfl))))))))
theorem o_plain (Ev : Evd P w K mg base A0) (k_divisor : FnOk P w K mg base (L2.CX P w) 1 A0.f_divisor A0.d_divisor ["one", "other"] (spM ⟨K, mg⟩ 2 m_divisor)) (h : ∀ cs o, m_plain cs = some o → ∃ n out, g_plain n (startR 3 cs) = some out ∧ fin [true] out = some o) : FnOk P w K mg base (L2.CX P w) 2 A0.f_plain A0.d_plain ["one"] (spM ⟨K, mg⟩ 1 m_plain) :=
  def_ok (fl := [true]) (Pk := [0]) Ev.F_plain sc_plain rfl (flB_ok rfl) (by decide) (fun cdv A outer s H E hr => w_plain Ev k_divisor cdv A outer s H E hr) h
theorem w_less_of (Ev : Evd P w K mg base A0) (k_plus_of : FnOk P w K mg base (L2.CX P w) 2 A0.f_plus_of A0.d_plus_of ["one", "other"] (spM ⟨K, mg⟩ 2 m_plus_of)) (k_scaled : FnOk P w K mg base (L2.CX P w) 2 A0.f_scaled A0.d_scaled ["one", "number"] (spM ⟨K, mg⟩ 2 m_scaled)) (cdv : Value) (A : Around) (outer : List Env) (s : Shared) (H : Hp) (E : XK) (hr : Room 2 (A.deeper (envOfC "less_of" (defScope s_less_of) s.heap.objs.size A0.f_less_of cdv))) :
    XSs ⟨K, mg⟩ (fun _ : Unit => cxOf (L2.CX P w) P w K mg base ["one", "other"] "less_of" (defScope s_less_of) A0.f_less_of cdv A outer s H E) (fun cls d _ H => E cls d H) [0, 1] (defBody s_less_of) g_less_of :=
  (xss_one (xs_ret (xe_call (fun _ => k_plus_of) (fun _ => hr.mono (by decide)) (fun _ => rfl) (fun _ => Ev.m_plus_of) (fun _ => Ev.F_plus_of.kp) (fun _ => Ev.b_plus_of) (fun _ => takes_of rfl rfl rfl rfl) (xbs_cons (xb_var fun _ => pv 0) (xbs_cons (xb_of (xe_call (fun _ => k_scaled) (fun _ => hr.mono (by decide)) (fun _ => rfl) (fun _ => Ev.m_scaled) (fun _ => Ev.F_scaled.kp) (fun _ => Ev.b_scaled) (fun _ => takes_of rfl rfl rfl rfl) (xbs_cons (xb_var fun _ => pv 1) (xbs_cons (xb_of (xe_un (fun _ => un_neg) prm_neg (xb_of xe_int))) xbs_nil (fun _ => rfl)) (fun _ => rfl)) (len_cons (len_cons (fun _ _ _ _ => len_nil))) rfl (fun _ => rfl) (fun _ => rfl))) xbs_nil (fun _ => rfl)) (fun _ => rfl)) (len_cons (len_cons (fun _ _ _ _ => len_nil))) rfl (fun _ => rfl) (fun _ => rfl))))
theorem o_less_of (Ev : Evd P w K mg base A0) (k_plus_of : FnOk P w K mg base (L2.CX P w) 2 A0.f_plus_of A0.d_plus_of ["one", "other"] (spM ⟨K, mg⟩ 2 m_plus_of)) (k_scaled : FnOk P w K mg base (L2.CX P w) 2 A0.f_scaled A0.d_scaled ["one", "number"] (spM ⟨K, mg⟩ 2 m_scaled)) (h : ∀ cs o, m_less_of cs = some o → ∃ n out, g_less_of n (startR 2 cs) = some out ∧ fin [true, true] out = some o) : FnOk P w K mg base (L2.CX P w) 3 A0.f_less_of A0.d_less_of ["one", "other"] (spM ⟨K, mg⟩ 2 m_less_of) :=
  def_ok (fl := [true, true]) (Pk := [0, 1]) Ev.F_less_of sc_less_of rfl (flB_ok rfl) (by decide) (fun cdv A outer s H E hr => w_less_of Ev k_plus_of k_scaled cdv A outer s H E hr) h
theorem w_left_over (Ev : Evd P w K mg base A0) (k_less_of : FnOk P w K mg base (L2.CX P w) 3 A0.f_less_of A0.d_less_of ["one", "other"] (spM ⟨K, mg⟩ 2 m_less_of)) (k_scaled : FnOk P w K mg base (L2.CX P w) 2 A0.f_scaled A0.d_scaled ["one", "number"] (spM ⟨K, mg⟩ 2 m_scaled)) (cdv : Value) (A : Around) (outer : List Env) (s : Shared) (H : Hp) (E : XK) (hr : Room 3 (A.deeper (envOfC "left_over" (defScope s_left_over) s.heap.objs.size A0.f_left_over cdv))) :
    XSs ⟨K, mg⟩ (fun _ : Unit => cxOf (L2.CX P w) P w K mg base ["one", "other", "shift"] "left_over" (defScope s_left_over) A0.f_left_over cdv A outer s H E) (fun cls d _ H => E cls d H) [1] (defBody s_left_over) g_left_over :=
  (xss_cons (xs_wh (fun _ => passes_of (K := fun e s'' => L2.CX P w outer H s E e s'') (E₁ := fun e' s'' => L2.CX P w outer H s E e' s'') rfl) (xt_cmp (fun _ => op_ge) prm_i (xb_of (xe_callB (fun _ => call_lenB) prm_lenA (fun _ => rfl) (fun _ => Ev.z_len) (by decide +kernel) (xbs_cons (xb_var fun _ => pv 0) xbs_nil (fun _ => rfl)) (by decide) rfl (fun _ => rfl) (fun _ => rfl))) (xb_of (xe_callB (fun _ => call_lenB) prm_lenA (fun _ => rfl) (fun _ => Ev.z_len) (by decide +kernel) (xbs_cons (xb_var fun _ => pv 1) xbs_nil (fun _ => rfl)) (by decide) rfl (fun _ => rfl) (fun _ => rfl))) (nomark _)) (xss_cons (xs_set (by decide) (fun t h j => ps_set sc_left_over.nd rfl (by first | exact .inl rfl | exact .inr rfl) (h j) rfl (by first | exact .inl rfl | exact .inr rfl)) (xe_bin (fun _ => op_mulA) prm_mul (xb_of (xe_tup (xbs_cons (xb_of xe_int) xbs_nil (fun _ => rfl)))) (xb_of (xe_bin (fun _ => op_sub) prm_sub (xb_of (xe_callB (fun _ => call_lenB) prm_lenA (fun _ => rfl) (fun _ => Ev.z_len) (by decide +kernel) (xbs_cons (xb_var fun _ => pv 0) xbs_nil (fun _ => rfl)) (by decide) rfl (fun _ => rfl) (fun _ => rfl))) (xb_of (xe_callB (fun _ => call_lenB) prm_lenA (fun _ => rfl) (fun _ => Ev.z_len) (by decide +kernel) (xbs_cons (xb_var fun _ => pv 1) xbs_nil (fun _ => rfl)) (by decide) rfl (fun _ => rfl) (fun _ => rfl))))))) (xss_one (xs_set (by decide) (fun t h j => ps_set sc_left_over.nd rfl (by first | exact .inl rfl | exact .inr rfl) (h j) rfl (by first | exact .inl rfl | exact .inr rfl)) (xe_call (fun _ => k_less_of) (fun _ => hr.mono (by decide)) (fun _ => rfl) (fun _ => Ev.m_less_of) (fun _ => Ev.F_less_of.kp) (fun _ => Ev.b_less_of) (fun _ => takes_of rfl rfl rfl rfl) (xbs_cons (xb_of (xe_call (fun _ => k_scaled) (fun _ => hr.mono (by decide)) (fun _ => rfl) (fun _ => Ev.m_scaled) (fun _ => Ev.F_scaled.kp) (fun _ => Ev.b_scaled) (fun _ => takes_of rfl rfl rfl rfl) (xbs_cons (xb_var fun _ => pv 0) (xbs_cons (xb_of (xe_ix (fun _ => ix_seq) prm_ix (xb_var fun _ => pv 1) (xb_of (xe_un (fun _ => un_neg) prm_neg (xb_of xe_int))) (fun _ _ => rfl))) xbs_nil (fun _ => rfl)) (fun _ => rfl)) (len_cons (len_cons (fun _ _ _ _ => len_nil))) rfl (fun _ => rfl) (fun _ => rfl))) (xbs_cons (xb_of (xe_call (fun _ => k_scaled) (fun _ => hr.mono (by decide)) (fun _ => rfl) (fun _ => Ev.m_scaled) (fun _ => Ev.F_scaled.kp) (fun _ => Ev.b_scaled) (fun _ => takes_of rfl rfl rfl rfl) (xbs_cons (xb_of (xe_tupD (xds_star (fun _ => rfl) (xb_var fun _ => pv 2) (xds_star (fun _ => rfl) (xb_var fun _ => pv 1) xds_nil (fun t u h1 h2 i => StX.pa_star (h1 i) (h2 i) rfl)) (fun t u h1 h2 i => StX.pa_star (h1 i) (h2 i) rfl)))) (xbs_cons (xb_of (xe_ix (fun _ => ix_seq) prm_ix (xb_var fun _ => pv 0) (xb_of (xe_un (fun _ => un_neg) prm_neg (xb_of xe_int))) (fun _ _ => rfl))) xbs_nil (fun _ => rfl)) (fun _ => rfl)) (len_cons (len_cons (fun _ _ _ _ => len_nil))) rfl (fun _ => rfl) (fun _ => rfl))) xbs_nil (fun _ => rfl)) (fun _ => rfl)) (len_cons (len_cons (fun _ _ _ _ => len_nil))) rfl (fun _ => rfl) (fun _ => rfl)))))) (xss_one (xs_ret (xe_mv fun _ => pv 0))))
theorem o_left_over (Ev : Evd P w K mg base A0) (k_less_of : FnOk P w K mg base (L2.CX P w) 3 A0.f_less_of A0.d_less_of ["one", "other"] (spM ⟨K, mg⟩ 2 m_less_of)) (k_scaled : FnOk P w K mg base (L2.CX P w) 2 A0.f_scaled A0.d_scaled ["one", "number"] (spM ⟨K, mg⟩ 2 m_scaled)) (h : ∀ cs o, m_left_over cs = some o → ∃ n out, g_left_over n (startR 3 cs) = some out ∧ fin [false, true] out = some o) : FnOk P w K mg base (L2.CX P w) 4 A0.f_left_over A0.d_left_over ["one", "other"] (spM ⟨K, mg⟩ 2 m_left_over) :=
  def_ok (fl := [false, true]) (Pk := [1]) Ev.F_left_over sc_left_over rfl (flB_ok rfl) (by decide) (fun cdv A outer s H E hr => w_left_over Ev k_less_of k_scaled cdv A outer s H E hr) h
theorem w_common_of (Ev : Evd P w K mg base A0) (k_plain : FnOk P w K mg base (L2.CX P w) 2 A0.f_plain A0.d_plain ["one"] (spM ⟨K, mg⟩ 1 m_plain)) (k_left_over : FnOk P w K mg base (L2.CX P w) 4 A0.f_left_over A0.d_left_over ["one", "other"] (spM ⟨K, mg⟩ 2 m_left_over)) (cdv : Value) (A : Around) (outer : List Env) (s : Shared) (H : Hp) (E : XK) (hr : Room 4 (A.deeper (envOfC "common_of" (defScope s_common_of) s.heap.objs.size A0.f_common_of cdv))) :
    XSs ⟨K, mg⟩ (fun _ : Unit => cxOf (L2.CX P w) P w K mg base ["one", "other"] "common_of" (defScope s_common_of) A0.f_common_of cdv A outer s H E) (fun cls d _ H => E cls d H) [] (defBody s_common_of) g_common_of :=
  (xss_cons (xs_parA (by decide) (by decide) (fun _ => rfl) (by first | exact .inl (fun t u h1 h2 k => ps_par rfl sc_common_of.nd rfl rfl (by decide) rfl rfl (pa_cons (h1 k) (pa_cons (h2 k) pa_nil)) rfl) | exact .inr (fun t u h1 h2 k => ps_asg (pe_tup (pa_cons (h1 k) (pa_cons (h2 k) pa_nil))) (pg_tup rfl (pgs_cons (pg_name sc_common_of.nd rfl (by first | exact .inl rfl | exact .inr rfl) (by first | exact .inl rfl | exact .inr rfl)) (pgs_cons (pg_name sc_common_of.nd rfl (by first | exact .inl rfl | exact .inr rfl) (by first | exact .inl rfl | exact .inr rfl)) pgs_nil))))) (xe_call (fun _ => k_plain) (fun _ => hr.mono (by decide)) (fun _ => rfl) (fun _ => Ev.m_plain) (fun _ => Ev.F_plain.kp) (fun _ => Ev.b_plain) (fun _ => takes_of rfl rfl rfl rfl) (xbs_cons (xb_var fun _ => pv 0) xbs_nil (fun _ => rfl)) (len_cons (fun _ _ _ _ => len_nil)) rfl (fun _ => rfl) (fun _ => rfl)) (xe_call (fun _ => k_plain) (fun _ => hr.mono (by decide)) (fun _ => rfl) (fun _ => Ev.m_plain) (fun _ => Ev.F_plain.kp) (fun _ => Ev.b_plain) (fun _ => takes_of rfl rfl rfl rfl) (xbs_cons (xb_var fun _ => pv 1) xbs_nil (fun _ => rfl)) (len_cons (fun _ _ _ _ => len_nil)) rfl (fun _ => rfl) (fun _ => rfl))) (xss_cons (xs_wh (fun _ => passes_of (K := fun e s'' => L2.CX P w outer H s E e s'') (E₁ := fun e' s'' => L2.CX P w outer H s E e' s'') rfl) (xt_cmp (fun _ => op_neD hr.units) prm_ne (xb_var fun _ => pv 1) (xb_of (xe_tup xbs_nil)) (nomark _)) (xss_one (xs_parA (by decide) (by decide) (fun _ => rfl) (by first | exact .inl (fun t u h1 h2 k => ps_par rfl sc_common_of.nd rfl rfl (by decide) rfl rfl (pa_cons (h1 k) (pa_cons (h2 k) pa_nil)) rfl) | exact .inr (fun t u h1 h2 k => ps_asg (pe_tup (pa_cons (h1 k) (pa_cons (h2 k) pa_nil))) (pg_tup rfl (pgs_cons (pg_name sc_common_of.nd rfl (by first | exact .inl rfl | exact .inr rfl) (by first | exact .inl rfl | exact .inr rfl)) (pgs_cons (pg_name sc_common_of.nd rfl (by first | exact .inl rfl | exact .inr rfl) (by first | exact .inl rfl | exact .inr rfl)) pgs_nil))))) (xe_fz (xb_var fun _ => pv 1)) (xe_call (fun _ => k_plain) (fun _ => hr.mono (by decide)) (fun _ => rfl) (fun _ => Ev.m_plain) (fun _ => Ev.F_plain.kp) (fun _ => Ev.b_plain) (fun _ => takes_of rfl rfl rfl rfl) (xbs_cons (xb_of (xe_call (fun _ => k_left_over) (fun _ => hr.mono (by decide)) (fun _ => rfl) (fun _ => Ev.m_left_over) (fun _ => Ev.F_left_over.kp) (fun _ => Ev.b_left_over) (fun _ => takes_of rfl rfl rfl rfl) (xbs_cons (xb_var fun _ => pv 0) (xbs_cons (xb_var fun _ => pv 1) xbs_nil (fun _ => rfl)) (fun _ => rfl)) (len_cons (len_cons (fun _ _ _ _ => len_nil))) rfl (fun _ => rfl) (fun _ => rfl))) xbs_nil (fun _ => rfl)) (len_cons (fun _ _ _ _ => len_nil)) rfl (fun _ => rfl) (fun _ => rfl))))) (xss_one (xs_ret (xe_mv fun _ => pv 0)))))
theorem o_common_of (Ev : Evd P w K mg base A0) (k_plain : FnOk P w K mg base (L2.CX P w) 2 A0.f_plain A0.d_plain ["one"] (spM ⟨K, mg⟩ 1 m_plain)) (k_left_over : FnOk P w K mg base (L2.CX P w) 4 A0.f_left_over A0.d_left_over ["one", "other"] (spM ⟨K, mg⟩ 2 m_left_over)) (h : ∀ cs o, m_common_of cs = some o → ∃ n out, g_common_of n (startR 2 cs) = some out ∧ fin [false, false] out = some o) : FnOk P w K mg base (L2.CX P w) 5 A0.f_common_of A0.d_common_of ["one", "other"] (spM ⟨K, mg⟩ 2 m_common_of) :=
  def_ok (fl := [false, false]) (Pk := []) Ev.F_common_of sc_common_of rfl (flB_ok rfl) (by decide) (fun cdv A outer s H E hr => w_common_of Ev k_plain k_left_over cdv A outer s H E hr) h
theorem w_check_sum (Ev : Evd P w K mg base A0) (k_check_poly : FnOk P w K mg base (L2.CX P w) 3 A0.f_check_poly A0.d_check_poly ["value"] (spM ⟨K, mg⟩ 1 m_check_poly)) (k_plus_of : FnOk P w K mg base (L2.CX P w) 2 A0.f_plus_of A0.d_plus_of ["one", "other"] (spM ⟨K, mg⟩ 2 m_plus_of)) (k_common_of : FnOk P w K mg base (L2.CX P w) 5 A0.f_common_of A0.d_common_of ["one", "other"] (spM ⟨K, mg⟩ 2 m_common_of)) (cdv : Value) (A : Around) (outer : List Env) (s : Shared) (H : Hp) (E : XK) (hr : Room 5 (A.deeper (envOfC "check_sum" (defScope s_check_sum) s.heap.objs.size A0.f_check_sum cdv))) :
    XSs ⟨K, mg⟩ (fun _ : Unit => cxOf (L2.CX P w) P w K mg base ["one", "other"] "check_sum" (defScope s_check_sum) A0.f_check_sum cdv A outer s H E) (fun cls d _ H => E cls d H) [0, 1] (defBody s_check_sum) g_check_sum :=
  (xss_cons (xs_expr (xb_of (xe_call (fun _ => k_check_poly) (fun _ => hr.mono (by decide)) (fun _ => rfl) (fun _ => Ev.m_check_poly) (fun _ => Ev.F_check_poly.kp) (fun _ => Ev.b_check_poly) (fun _ => takes_of rfl rfl rfl rfl) (xbs_cons (xb_var fun _ => pv 0) xbs_nil (fun _ => rfl)) (len_cons (fun _ _ _ _ => len_nil)) rfl (fun _ => rfl) (fun _ => rfl))) (fun _ => rfl)) (xss_cons (xs_expr (xb_of (xe_call (fun _ => k_check_poly) (fun _ => hr.mono (by decide)) (fun _ => rfl) (fun _ => Ev.m_check_poly) (fun _ => Ev.F_check_poly.kp) (fun _ => Ev.b_check_poly) (fun _ => takes_of rfl rfl rfl rfl) (xbs_cons (xb_var fun _ => pv 1) xbs_nil (fun _ => rfl)) (len_cons (fun _ _ _ _ => len_nil)) rfl (fun _ => rfl) (fun _ => rfl))) (fun _ => rfl)) (xss_cons (xs_if (xt_w (xw_or (xt_cmp (fun _ => op_eqD hr.units) prm_eq (xb_var fun _ => pv 0) (xb_of (xe_tup xbs_nil)) (nomark _)) (xw_or (xt_cmp (fun _ => op_eqD hr.units) prm_eq (xb_var fun _ => pv 1) (xb_of (xe_tup xbs_nil)) (nomark _)) (xw_or1 (xt_cmp (fun _ => op_eqD hr.units) prm_eq (xb_of (xe_call (fun _ => k_plus_of) (fun _ => hr.mono (by decide)) (fun _ => rfl) (fun _ => Ev.m_plus_of) (fun _ => Ev.F_plus_of.kp) (fun _ => Ev.b_plus_of) (fun _ => takes_of rfl rfl rfl rfl) (xbs_cons (xb_var fun _ => pv 0) (xbs_cons (xb_var fun _ => pv 1) xbs_nil (fun _ => rfl)) (fun _ => rfl)) (len_cons (len_cons (fun _ _ _ _ => len_nil))) rfl (fun _ => rfl) (fun _ => rfl))) (xb_of (xe_tup xbs_nil)) (nomark _)))))) (xss_one (xs_raise0 (fun _ => rfl) (fun _ => rfl) (fun _ => rfl) (fun _ => takes_of rfl rfl rfl rfl) Ev.n_Zero Ev.m_Zero (fun _ => rfl) rfl)) xss_nil) (xss_cons (xs_if (xt_w (xw_and (xt_cmp (fun _ => op_eqD hr.units) prm_eq (xb_of (xe_callB (fun _ => call_lenB) prm_lenA (fun _ => rfl) (fun _ => Ev.z_len) (by decide +kernel) (xbs_cons (xb_var fun _ => pv 0) xbs_nil (fun _ => rfl)) (by decide) rfl (fun _ => rfl) (fun _ => rfl))) (xb_of xe_int) (nomark _)) (xw_and1 (xt_cmp (fun _ => op_eqD hr.units) prm_eq (xb_of (xe_callB (fun _ => call_lenB) prm_lenA (fun _ => rfl) (fun _ => Ev.z_len) (by decide +kernel) (xbs_cons (xb_var fun _ => pv 1) xbs_nil (fun _ => rfl)) (by decide) rfl (fun _ => rfl) (fun _ => rfl))) (xb_of xe_int) (nomark _))))) (xss_one (xs_raise0 (fun _ => rfl) (fun _ => rfl) (fun _ => rfl) (fun _ => takes_of rfl rfl rfl rfl) Ev.n_Flat Ev.m_Flat (fun _ => rfl) rfl)) xss_nil) (xss_one (xs_if (xt_cmp (fun _ => op_gt) prm_i (xb_of (xe_callB (fun _ => call_lenB) prm_lenA (fun _ => rfl) (fun _ => Ev.z_len) (by decide +kernel) (xbs_cons (xb_of (xe_call (fun _ => k_common_of) (fun _ => hr.mono (by decide)) (fun _ => rfl) (fun _ => Ev.m_common_of) (fun _ => Ev.F_common_of.kp) (fun _ => Ev.b_common_of) (fun _ => takes_of rfl rfl rfl rfl) (xbs_cons (xb_var fun _ => pv 0) (xbs_cons (xb_var fun _ => pv 1) xbs_nil (fun _ => rfl)) (fun _ => rfl)) (len_cons (len_cons (fun _ _ _ _ => len_nil))) rfl (fun _ => rfl) (fun _ => rfl))) xbs_nil (fun _ => rfl)) (by decide) rfl (fun _ => rfl) (fun _ => rfl))) (xb_of xe_int) (nomark _)) (xss_one (xs_raise0 (fun _ => rfl) (fun _ => rfl) (fun _ => rfl) (fun _ => takes_of rfl rfl rfl rfl) Ev.n_Common Ev.m_Common (fun _ => rfl) rfl)) xss_nil))))))
theorem o_check_sum (Ev : Evd P w K mg base A0) (k_check_poly : FnOk P w K mg base (L2.CX P w) 3 A0.f_check_poly A0.d_check_poly ["value"] (spM ⟨K, mg⟩ 1 m_check_poly)) (k_plus_of : FnOk P w K mg base (L2.CX P w) 2 A0.f_plus_of A0.d_plus_of ["one", "other"] (spM ⟨K, mg⟩ 2 m_plus_of)) (k_common_of : FnOk P w K mg base (L2.CX P w) 5 A0.f_common_of A0.d_common_of ["one", "other"] (spM ⟨K, mg⟩ 2 m_common_of)) (h : ∀ cs o, m_check_sum cs = some o → ∃ n out, g_check_sum n (startR 2 cs) = some out ∧ fin [true, true] out = some o) : FnOk P w K mg base (L2.CX P w) 6 A0.f_check_sum A0.d_check_sum ["one", "other"] (spM ⟨K, mg⟩ 2 m_check_sum) :=
  def_ok (fl := [true, true]) (Pk := [0, 1]) Ev.F_check_sum sc_check_sum rfl (flB_ok rfl) (by decide) (fun cdv A outer s H E hr => w_check_sum Ev k_check_poly k_plus_of k_common_of cdv A outer s H E hr) h
theorem w_measure (Ev : Evd P w K mg base A0) (k_check_sum : FnOk P w K mg base (L2.CX P w) 6 A0.f_check_sum A0.d_check_sum ["one", "other"] (spM ⟨K, mg⟩ 2 m_check_sum)) (k_plus_of : FnOk P w K mg base (L2.CX P w) 2 A0.f_plus_of A0.d_plus_of ["one", "other"] (spM ⟨K, mg⟩ 2 m_plus_of)) (k_many_roots : FnOk P w K mg base (L2.CX P w) 2 A0.f_many_roots A0.d_many_roots ["one"] (spM ⟨K, mg⟩ 1 m_many_roots)) (cdv : Value) (A : Around) (outer : List Env) (s : Shared) (H : Hp) (E : XK) (hr : Room 6 (A.deeper (envOfC "measure" (defScope s_measure) s.heap.objs.size A0.f_measure cdv))) :
    XSs ⟨K, mg⟩ (fun _ : Unit => cxOf (L2.CX P w) P w K mg base ["one", "other", "whole", "degree", "roots", "part"] "measure" (defScope s_measure) A0.f_measure cdv A outer s H E) (fun cls d _ H => E cls d H) [0, 1] (defBody s_measure) g_measure :=
  (xss_cons (xs_expr (xb_of (xe_call (fun _ => k_check_sum) (fun _ => hr.mono (by decide)) (fun _ => rfl) (fun _ => Ev.m_check_sum) (fun _ => Ev.F_check_sum.kp) (fun _ => Ev.b_check_sum) (fun _ => takes_of rfl rfl rfl rfl) (xbs_cons (xb_var fun _ => pv 0) (xbs_cons (xb_var fun _ => pv 1) xbs_nil (fun _ => rfl)) (fun _ => rfl)) (len_cons (len_cons (fun _ _ _ _ => len_nil))) rfl (fun _ => rfl) (fun _ => rfl))) (fun _ => rfl)) (xss_cons (xs_set (by decide) (fun t h j => ps_set sc_measure.nd rfl (by first | exact .inl rfl | exact .inr rfl) (h j) rfl (by first | exact .inl rfl | exact .inr rfl)) (xe_call (fun _ => k_plus_of) (fun _ => hr.mono (by decide)) (fun _ => rfl) (fun _ => Ev.m_plus_of) (fun _ => Ev.F_plus_of.kp) (fun _ => Ev.b_plus_of) (fun _ => takes_of rfl rfl rfl rfl) (xbs_cons (xb_var fun _ => pv 0) (xbs_cons (xb_var fun _ => pv 1) xbs_nil (fun _ => rfl)) (fun _ => rfl)) (len_cons (len_cons (fun _ _ _ _ => len_nil))) rfl (fun _ => rfl) (fun _ => rfl))) (xss_cons (xs_set (by decide) (fun t h j => ps_set sc_measure.nd rfl (by first | exact .inl rfl | exact .inr rfl) (h j) rfl (by first | exact .inl rfl | exact .inr rfl)) (xe_bin (fun _ => op_sub) prm_sub (xb_of (xe_callB (fun _ => call_max3Nu rfl) prm_max3 (fun _ => rfl) (fun _ => Ev.z_max) (by decide +kernel) (xbs_cons (xb_of (xe_callB (fun _ => call_lenB) prm_lenA (fun _ => rfl) (fun _ => Ev.z_len) (by decide +kernel) (xbs_cons (xb_var fun _ => pv 0) xbs_nil (fun _ => rfl)) (by decide) rfl (fun _ => rfl) (fun _ => rfl))) (xbs_cons (xb_of (xe_callB (fun _ => call_lenB) prm_lenA (fun _ => rfl) (fun _ => Ev.z_len) (by decide +kernel) (xbs_cons (xb_var fun _ => pv 1) xbs_nil (fun _ => rfl)) (by decide) rfl (fun _ => rfl) (fun _ => rfl))) (xbs_cons (xb_of (xe_callB (fun _ => call_lenB) prm_lenA (fun _ => rfl) (fun _ => Ev.z_len) (by decide +kernel) (xbs_cons (xb_var fun _ => pv 2) xbs_nil (fun _ => rfl)) (by decide) rfl (fun _ => rfl) (fun _ => rfl))) xbs_nil (fun _ => rfl)) (fun _ => rfl)) (fun _ => rfl)) (by decide) rfl (fun _ => rfl) (fun _ => rfl))) (xb_of xe_int))) (xss_cons (xs_set (by decide) (fun t h j => ps_set sc_measure.nd rfl (by first | exact .inl rfl | exact .inr rfl) (h j) rfl (by first | exact .inl rfl | exact .inr rfl)) (xe_callB (fun _ => cr_sum rfl) prm_sum (fun _ => rfl) (fun _ => Ev.z_sum) (by decide +kernel) (xbs_cons (xb_of (xe_lc0 (own := [("part", 5)]) (N := 6) (fun _ => rfl) (fun _ => sc_measure.nd) (xi_seq (fun _ => rfl) (xb_of (xe_tup (xbs_cons (xb_var fun _ => pv 0) (xbs_cons (xb_var fun _ => pv 1) (xbs_cons (xb_var fun _ => pv 2) xbs_nil (fun _ => rfl)) (fun _ => rfl)) (fun _ => rfl))))) (fun _ => blkB_ok rfl) (xg_name (by decide) (fun _ => pg_name sc_measure.nd rfl (by first | exact .inl rfl | exact .inr rfl) (by first | exact .inl rfl | exact .inr rfl))) (xb_of (xe_call (fun _ => k_many_roots) (fun _ => hr.mono (by decide)) (fun _ => rfl) (fun _ => Ev.m_many_roots) (fun _ => Ev.F_many_roots.kp) (fun _ => Ev.b_many_roots) (fun _ => takes0) (xbs_cons (xb_var fun _ => pv 5) xbs_nil (fun _ => rfl)) (len_cons (fun _ _ _ _ => len_nil)) rfl (fun _ => rfl) (fun _ => rfl))) (fun _ _ => rfl))) xbs_nil (fun _ => rfl)) (by decide) rfl (fun _ => rfl) (fun _ => rfl))) (xss_one (xs_ret (xe_tup (xbs_cons (xb_var fun _ => pv 3) (xbs_cons (xb_var fun _ => pv 4) (xbs_cons (xb_of (xe_bin (fun _ => op_sub) prm_sub (xb_of (xe_bin (fun _ => op_sub) prm_sub (xb_var fun _ => pv 4) (xb_of xe_int))) (xb_var fun _ => pv 3))) xbs_nil (fun _ => rfl)) (fun _ => rfl)) (fun _ => rfl)))))))))
theorem o_measure (Ev : Evd P w K mg base A0) (k_check_sum : FnOk P w K mg base (L2.CX P w) 6 A0.f_check_sum A0.d_check_sum ["one", "other"] (spM ⟨K, mg⟩ 2 m_check_sum)) (k_plus_of : FnOk P w K mg base (L2.CX P w) 2 A0.f_plus_of A0.d_plus_of ["one", "other"] (spM ⟨K, mg⟩ 2 m_plus_of)) (k_many_roots : FnOk P w K mg base (L2.CX P w) 2 A0.f_many_roots A0.d_many_roots ["one"] (spM ⟨K, mg⟩ 1 m_many_roots)) (h : ∀ cs o, m_measure cs = some o → ∃ n out, g_measure n (startR 6 cs) = some out ∧ fin [true, true] out = some o) : FnOk P w K mg base (L2.CX P w) 7 A0.f_measure A0.d_measure ["one", "other"] (spM ⟨K, mg⟩ 2 m_measure) :=
  def_ok (fl := [true, true]) (Pk := [0, 1]) Ev.F_measure sc_measure rfl (flB_ok rfl) (by decide) (fun cdv A outer s H E hr => w_measure Ev k_check_sum k_plus_of k_many_roots cdv A outer s H E hr) h
theorem w_Desk_step (Ev : Evd P w K mg base A0) (cdv : Value) (A : Around) (outer : List Env) (s : Shared) (H : Hp) (E : XK) (hr : Room 2 (A.deeper (envOfC "Desk.step" (defScope s_Desk_step) s.heap.objs.size A0.f_Desk_step cdv))) :
    XSs ⟨K, mg⟩ (fun _ : Unit => cxOf (L2.CX P w) P w K mg base ["self", "one", "other", "a"] "Desk.step" (defScope s_Desk_step) A0.f_Desk_step cdv A outer s H E) (fun cls d _ H => E cls d H) [0, 1, 2] (defBody s_Desk_step) g_Desk_step :=
  (xss_cons (xs_if (xt_val (xe_callB (fun _ => cr_any rfl) prm_any (fun _ => rfl) (fun _ => Ev.z_any) (by decide +kernel) (xbs_cons (xb_of (xe_lc0 (own := [("a", 3)]) (N := 4) (fun _ => rfl) (fun _ => sc_Desk_step.nd) (xi_seq (fun _ => rfl) (xb_of (xe_bin (fun _ => op_addA) prm_add (xb_var fun _ => pv 1) (xb_var fun _ => pv 2)))) (fun _ => blkB_ok rfl) (xg_name (by decide) (fun _ => pg_name sc_Desk_step.nd rfl (by first | exact .inl rfl | exact .inr rfl) (by first | exact .inl rfl | exact .inr rfl))) (xb_of (xe_cmp (fun _ => op_gt) prm_i (xb_of (xe_callB (fun _ => call_abs) prm_abs (fun _ => rfl) (fun _ => Ev.z_abs) (by decide +kernel) (xbs_cons (xb_var fun _ => pv 3) xbs_nil (fun _ => rfl)) (by decide) rfl (fun _ => rfl) (fun _ => rfl))) (xb_of (xe_glob (v := .int 1000000000) (fun _ => rfl) (fun _ => Ev.c_FAR) ⟨_, rfl⟩ (fun _ => .int _) rfl)) (nomark _))) (fun _ _ => rfl))) xbs_nil (fun _ => rfl)) (by decide) rfl (fun _ => rfl) (fun _ => rfl)) (fun _ _ => rfl)) (xss_one (xs_raise0 (fun _ => rfl) (fun _ => rfl) (fun _ => rfl) (fun _ => takes_of rfl rfl rfl rfl) Ev.n_Rising Ev.m_Rising (fun _ => rfl) rfl)) xss_nil) (xss_one (xs_fldSt (fun _ => rfl) (one_c Ev.m_Desk ⟨Ev.cl_Desk, Ev.na_Desk_rows⟩) (fun _ => pv 0) (xb_of (xe_tupD (xds_star (fun _ => rfl) (xb_of (xe_fld (fun _ => rfl) (one_c Ev.m_Desk ⟨Ev.cl_Desk, Ev.na_Desk_rows⟩) (xb_var fun _ => pv 0) (fun _ => rfl))) (xds_cons (xb_of (xe_tup (xbs_cons (xb_var fun _ => pv 1) (xbs_cons (xb_var fun _ => pv 2) xbs_nil (fun _ => rfl)) (fun _ => rfl)))) xds_nil (fun _ => rfl)) (fun t u h1 h2 i => StX.pa_star (h1 i) (h2 i) rfl)))) (fun _ => rfl))))
theorem o_Desk_step (Ev : Evd P w K mg base A0) (h : ∀ cs o, m_Desk_step cs = some o → ∃ n out, g_Desk_step n (startR 4 cs) = some out ∧ fin [true, true, true] out = some o) : FnOk P w K mg base (L2.CX P w) 3 A0.f_Desk_step A0.d_Desk_step ["self", "one", "other"] (spM ⟨K, mg⟩ 3 m_Desk_step) :=
  def_ok (fl := [true, true, true]) (Pk := [0, 1, 2]) Ev.F_Desk_step sc_Desk_step rfl (flB_ok rfl) (by decide) (fun cdv A outer s H E hr => w_Desk_step Ev cdv A outer s H E hr) h
theorem w_Desk_stretch (Ev : Evd P w K mg base A0) (k_is_from : FnOk P w K mg base (L2.CX P w) 1 A0.f_is_from A0.d_is_from ["value", "low", "high"] (spM ⟨K, mg⟩ 3 m_is_from)) (k_Desk_step : FnOk P w K mg base (L2.CX P w) 3 A0.f_Desk_step A0.d_Desk_step ["self", "one", "other"] (spM ⟨K, mg⟩ 3 m_Desk_step)) (k_scaled : FnOk P w K mg base (L2.CX P w) 2 A0.f_scaled A0.d_scaled ["one", "number"] (spM ⟨K, mg⟩ 2 m_scaled)) (cdv : Value) (A : Around) (outer : List Env) (s : Shared) (H : Hp) (E : XK) (hr : Room 3 (A.deeper (envOfC "Desk.stretch" (defScope s_Desk_stretch) s.heap.objs.size A0.f_Desk_stretch cdv))) :
    XSs ⟨K, mg⟩ (fun _ : Unit => cxOf (L2.CX P w) P w K mg base ["self", "by", "one", "other"] "Desk.stretch" (defScope s_Desk_stretch) A0.f_Desk_stretch cdv A outer s H E) (fun cls d _ H => E cls d H) [0, 1] (defBody s_Desk_stretch) g_Desk_stretch :=
  (xss_cons (xs_if (xt_w (xw_or (xt_not (xt_val (xe_call (fun _ => k_is_from) (fun _ => hr.mono (by decide)) (fun _ => rfl) (fun _ => Ev.m_is_from) (fun _ => Ev.F_is_from.kp) (fun _ => Ev.b_is_from) (fun _ => takes_of rfl rfl rfl rfl) (xbs_cons (xb_var fun _ => pv 1) (xbs_cons (xb_of (xe_un (fun _ => un_neg) prm_neg (xb_of (xe_glob (v := .int 5) (fun _ => rfl) (fun _ => Ev.c_MOST_STRETCH) ⟨_, rfl⟩ (fun _ => .int _) rfl)))) (xbs_cons (xb_of (xe_glob (v := .int 5) (fun _ => rfl) (fun _ => Ev.c_MOST_STRETCH) ⟨_, rfl⟩ (fun _ => .int _) rfl)) xbs_nil (fun _ => rfl)) (fun _ => rfl)) (fun _ => rfl)) (len_cons (len_cons (len_cons (fun _ _ _ _ => len_nil)))) rfl (fun _ => rfl) (fun _ => rfl)) (fun _ _ => rfl))) (xw_or1 (xt_cmp (fun _ => op_eqD hr.units) prm_eq (xb_var fun _ => pv 1) (xb_of xe_int) (nomark _))))) (xss_one (xs_raise0 (fun _ => rfl) (fun _ => rfl) (fun _ => rfl) (fun _ => takes_of rfl rfl rfl rfl) Ev.n_BadNumber Ev.m_BadNumber (fun _ => rfl) rfl)) xss_nil) (xss_cons (xs_asg (xb_of (xe_ix (fun _ => ix_seq) prm_ix (xb_of (xe_fld (fun _ => rfl) (one_c Ev.m_Desk ⟨Ev.cl_Desk, Ev.na_Desk_rows⟩) (xb_var fun _ => pv 0) (fun _ => rfl))) (xb_of (xe_un (fun _ => un_neg) prm_neg (xb_of xe_int))) (fun _ _ => rfl))) (xg_tup (fun _ => rfl) (fun _ => rfl) (xgs_cons (xg_name (by decide) (fun _ => pg_name sc_Desk_stretch.nd rfl (by first | exact .inl rfl | exact .inr rfl) (by first | exact .inl rfl | exact .inr rfl))) (xgs_cons (xg_name (by decide) (fun _ => pg_name sc_Desk_stretch.nd rfl (by first | exact .inl rfl | exact .inr rfl) (by first | exact .inl rfl | exact .inr rfl))) xgs_nil (fun _ => rfl)) (fun _ => rfl)) (fun _ => rfl) (fun _ => rfl)) (fun _ => rfl) (fun _ => rfl) (fun _ => rfl)) (xss_one (xs_expr (xb_of (xe_meth (fun _ => k_Desk_step) (fun _ => hr.mono (by decide)) (fun _ => Ev.cl_Desk) (fun _ => Ev.mt_Desk_step) Ev.m_Desk (fun _ => Ev.b_Desk_step) (fun _ => takes_of rfl rfl rfl rfl) (xb_var fun _ => pv 0) (xbs_cons (xb_of (xe_call (fun _ => k_scaled) (fun _ => hr.mono (by decide)) (fun _ => rfl) (fun _ => Ev.m_scaled) (fun _ => Ev.F_scaled.kp) (fun _ => Ev.b_scaled) (fun _ => takes_of rfl rfl rfl rfl) (xbs_cons (xb_var fun _ => pv 2) (xbs_cons (xb_var fun _ => pv 1) xbs_nil (fun _ => rfl)) (fun _ => rfl)) (len_cons (len_cons (fun _ _ _ _ => len_nil))) rfl (fun _ => rfl) (fun _ => rfl))) (xbs_cons (xb_of (xe_call (fun _ => k_scaled) (fun _ => hr.mono (by decide)) (fun _ => rfl) (fun _ => Ev.m_scaled) (fun _ => Ev.F_scaled.kp) (fun _ => Ev.b_scaled) (fun _ => takes_of rfl rfl rfl rfl) (xbs_cons (xb_var fun _ => pv 3) (xbs_cons (xb_var fun _ => pv 1) xbs_nil (fun _ => rfl)) (fun _ => rfl)) (len_cons (len_cons (fun _ _ _ _ => len_nil))) rfl (fun _ => rfl) (fun _ => rfl))) xbs_nil (fun _ => rfl)) (fun _ => rfl)) (len_cons (len_cons (fun _ _ _ _ => len_nil))) (fun _ => rfl) (fun _ => rfl) (fun _ => rfl))) (fun _ => rfl)))))
theorem o_Desk_stretch (Ev : Evd P w K mg base A0) (k_is_from : FnOk P w K mg base (L2.CX P w) 1 A0.f_is_from A0.d_is_from ["value", "low", "high"] (spM ⟨K, mg⟩ 3 m_is_from)) (k_Desk_step : FnOk P w K mg base (L2.CX P w) 3 A0.f_Desk_step A0.d_Desk_step ["self", "one", "other"] (spM ⟨K, mg⟩ 3 m_Desk_step)) (k_scaled : FnOk P w K mg base (L2.CX P w) 2 A0.f_scaled A0.d_scaled ["one", "number"] (spM ⟨K, mg⟩ 2 m_scaled)) (h : ∀ cs o, m_Desk_stretch cs = some o → ∃ n out, g_Desk_stretch n (startR 4 cs) = some out ∧ fin [true, true] out = some o) : FnOk P w K mg base (L2.CX P w) 4 A0.f_Desk_stretch A0.d_Desk_stretch ["self", "by"] (spM ⟨K, mg⟩ 2 m_Desk_stretch) :=
  def_ok (fl := [true, true]) (Pk := [0, 1]) Ev.F_Desk_stretch sc_Desk_stretch rfl (flB_ok rfl) (by decide) (fun cdv A outer s H E hr => w_Desk_stretch Ev k_is_from k_Desk_step k_scaled cdv A outer s H E hr) h
theorem w_plus (Ev : Evd P w K mg base A0) (k_check_poly : FnOk P w K mg base (L2.CX P w) 3 A0.f_check_poly A0.d_check_poly ["value"] (spM ⟨K, mg⟩ 1 m_check_poly)) (k_plus_of : FnOk P w K mg base (L2.CX P w) 2 A0.f_plus_of A0.d_plus_of ["one", "other"] (spM ⟨K, mg⟩ 2 m_plus_of)) (cdv : Value) (A : Around) (outer : List Env) (s : Shared) (H : Hp) (E : XK) (hr : Room 3 (A.deeper (envOfC "plus" (defScope s_plus) s.heap.objs.size A0.f_plus cdv))) :
    XSs ⟨K, mg⟩ (fun _ : Unit => cxOf (L2.CX P w) P w K mg base ["one", "other"] "plus" (defScope s_plus) A0.f_plus cdv A outer s H E) (fun cls d _ H => E cls d H) [0, 1] (defBody s_plus) g_plus :=
  (xss_cons (xs_expr (xb_of (xe_call (fun _ => k_check_poly) (fun _ => hr.mono (by decide)) (fun _ => rfl) (fun _ => Ev.m_check_poly) (fun _ => Ev.F_check_poly.kp) (fun _ => Ev.b_check_poly) (fun _ => takes_of rfl rfl rfl rfl) (xbs_cons (xb_var fun _ => pv 0) xbs_nil (fun _ => rfl)) (len_cons (fun _ _ _ _ => len_nil)) rfl (fun _ => rfl) (fun _ => rfl))) (fun _ => rfl)) (xss_cons (xs_expr (xb_of (xe_call (fun _ => k_check_poly) (fun _ => hr.mono (by decide)) (fun _ => rfl) (fun _ => Ev.m_check_poly) (fun _ => Ev.F_check_poly.kp) (fun _ => Ev.b_check_poly) (fun _ => takes_of rfl rfl rfl rfl) (xbs_cons (xb_var fun _ => pv 1) xbs_nil (fun _ => rfl)) (len_cons (fun _ _ _ _ => len_nil)) rfl (fun _ => rfl) (fun _ => rfl))) (fun _ => rfl)) (xss_one (xs_ret (xe_call (fun _ => k_plus_of) (fun _ => hr.mono (by decide)) (fun _ => rfl) (fun _ => Ev.m_plus_of) (fun _ => Ev.F_plus_of.kp) (fun _ => Ev.b_plus_of) (fun _ => takes_of rfl rfl rfl rfl) (xbs_cons (xb_var fun _ => pv 0) (xbs_cons (xb_var fun _ => pv 1) xbs_nil (fun _ => rfl)) (fun _ => rfl)) (len_cons (len_cons (fun _ _ _ _ => len_nil))) rfl (fun _ => rfl) (fun _ => rfl))))))
theorem o_plus (Ev : Evd P w K mg base A0) (k_check_poly : FnOk P w K mg base (L2.CX P w) 3 A0.f_check_poly A0.d_check_poly ["value"] (spM ⟨K, mg⟩ 1 m_check_poly)) (k_plus_of : FnOk P w K mg base (L2.CX P w) 2 A0.f_plus_of A0.d_plus_of ["one", "other"] (spM ⟨K, mg⟩ 2 m_plus_of)) (h : ∀ cs o, m_plus cs = some o → ∃ n out, g_plus n (startR 2 cs) = some out ∧ fin [true, true] out = some o) : FnOk P w K mg base (L2.CX P w) 4 A0.f_plus A0.d_plus ["one", "other"] (spM ⟨K, mg⟩ 2 m_plus) :=
  def_ok (fl := [true, true]) (Pk := [0, 1]) Ev.F_plus sc_plus rfl (flB_ok rfl) (by decide) (fun cdv A outer s H E hr => w_plus Ev k_check_poly k_plus_of cdv A outer s H E hr) h
theorem w_Desk___init__ (Ev : Evd P w K mg base A0) (k_check_sum : FnOk P w K mg base (L2.CX P w) 6 A0.f_check_sum A0.d_check_sum ["one", "other"] (spM ⟨K, mg⟩ 2 m_check_sum)) (cdv : Value) (A : Around) (outer : List Env) (s : Shared) (H : Hp) (E : XK) (hr : Room 6 (A.deeper (envOfC "Desk.__init__" (defScope s_Desk___init__) s.heap.objs.size A0.f_Desk___init__ cdv))) :
    XSs ⟨K, mg⟩ (fun _ : Unit => cxOf (L2.CX P w) P w K mg base ["self", "one", "other"] "Desk.__init__" (defScope s_Desk___init__) A0.f_Desk___init__ cdv A outer s H E) (fun cls d _ H => E cls d H) [0, 1, 2] (defBody s_Desk___init__) g_Desk___init__ :=
  (xss_cons (xs_expr (xb_of (xe_call (fun _ => k_check_sum) (fun _ => hr.mono (by decide)) (fun _ => rfl) (fun _ => Ev.m_check_sum) (fun _ => Ev.F_check_sum.kp) (fun _ => Ev.b_check_sum) (fun _ => takes_of rfl rfl rfl rfl) (xbs_cons (xb_var fun _ => pv 1) (xbs_cons (xb_var fun _ => pv 2) xbs_nil (fun _ => rfl)) (fun _ => rfl)) (len_cons (len_cons (fun _ _ _ _ => len_nil))) rfl (fun _ => rfl) (fun _ => rfl))) (fun _ => rfl)) (xss_one (xs_fldSt (fun _ => rfl) (one_c Ev.m_Desk ⟨Ev.cl_Desk, Ev.na_Desk_rows⟩) (fun _ => pv 0) (xb_of (xe_tup (xbs_cons (xb_of (xe_tup (xbs_cons (xb_var fun _ => pv 1) (xbs_cons (xb_var fun _ => pv 2) xbs_nil (fun _ => rfl)) (fun _ => rfl)))) xbs_nil (fun _ => rfl)))) (fun _ => rfl))))
theorem o_Desk___init__ (Ev : Evd P w K mg base A0) (k_check_sum : FnOk P w K mg base (L2.CX P w) 6 A0.f_check_sum A0.d_check_sum ["one", "other"] (spM ⟨K, mg⟩ 2 m_check_sum)) (h : ∀ cs o, m_Desk___init__ cs = some o → ∃ n out, g_Desk___init__ n (startR 3 cs) = some out ∧ fin [true, true, true] out = some o) : FnOk P w K mg base (L2.CX P w) 7 A0.f_Desk___init__ A0.d_Desk___init__ ["self", "one", "other"] (spM ⟨K, mg⟩ 3 m_Desk___init__) :=
  def_ok (fl := [true, true, true]) (Pk := [0, 1, 2]) Ev.F_Desk___init__ sc_Desk___init__ rfl (flB_ok rfl) (by decide) (fun cdv A outer s H E hr => w_Desk___init__ Ev k_check_sum cdv A outer s H E hr) h
theorem w_is_list (Ev : Evd P w K mg base A0) (k_is_from : FnOk P w K mg base (L2.CX P w) 1 A0.f_is_from A0.d_is_from ["value", "low", "high"] (spM ⟨K, mg⟩ 3 m_is_from)) (cdv : Value) (A : Around) (outer : List Env) (s : Shared) (H : Hp) (E : XK) (hr : Room 1 (A.deeper (envOfC "is_list" (defScope s_is_list) s.heap.objs.size A0.f_is_list cdv))) :
    XSs ⟨K, mg⟩ (fun _ : Unit => cxOf (L2.CX P w) P w K mg base ["value", "one"] "is_list" (defScope s_is_list) A0.f_is_list cdv A outer s H E) (fun cls d _ H => E cls d H) [0] (defBody s_is_list) g_is_list :=
  (xss_cons (xs_if (xt_w (xw_or (xt_not (xt_val (xe_isi (fun _ => rfl) (fun _ => rfl) (fun _ => Ev.z_isinstance) (fun _ => rfl) (fun _ => Ev.z_tuple) (by decide +kernel) (by decide) rfl (xb_var fun _ => pv 0) (fun _ => rfl) (fun _ => rfl) (fun _ => rfl)) (fun _ _ => rfl))) (xw_or1 (xt_not (xt_ch (fun _ => op_le) (fun _ => op_le) prm_i prm_i (xb_of xe_int) (xb_of (xe_callB (fun _ => call_lenB) prm_lenA (fun _ => rfl) (fun _ => Ev.z_len) (by decide +kernel) (xbs_cons (xb_var fun _ => pv 0) xbs_nil (fun _ => rfl)) (by decide) rfl (fun _ => rfl) (fun _ => rfl))) (xb_of (xe_glob (v := .int 12) (fun _ => rfl) (fun _ => Ev.c_MOST_LIST) ⟨_, rfl⟩ (fun _ => .int _) rfl)) rfl))))) (xss_one (xs_ret xe_bool)) xss_nil) (xss_one (xs_ret (xe_callB (fun _ => cr_all rfl) prm_all (fun _ => rfl) (fun _ => Ev.z_all) (by decide +kernel) (xbs_cons (xb_of (xe_lc0 (own := [("one", 1)]) (N := 2) (fun _ => rfl) (fun _ => sc_is_list.nd) (xi_seq (fun _ => rfl) (xb_var fun _ => pv 0)) (fun _ => blkB_ok rfl) (xg_name (by decide) (fun _ => pg_name sc_is_list.nd rfl (by first | exact .inl rfl | exact .inr rfl) (by first | exact .inl rfl | exact .inr rfl))) (xb_of (xe_call (fun _ => k_is_from) (fun _ => hr.mono (by decide)) (fun _ => rfl) (fun _ => Ev.m_is_from) (fun _ => Ev.F_is_from.kp) (fun _ => Ev.b_is_from) (fun _ => takes0) (xbs_cons (xb_var fun _ => pv 1) (xbs_cons (xb_of xe_int) (xbs_cons (xb_of (xe_glob (v := .int 12) (fun _ => rfl) (fun _ => Ev.c_MOST_LIST) ⟨_, rfl⟩ (fun _ => .int _) rfl)) xbs_nil (fun _ => rfl)) (fun _ => rfl)) (fun _ => rfl)) (len_cons (len_cons (len_cons (fun _ _ _ _ => len_nil)))) rfl (fun _ => rfl) (fun _ => rfl))) (fun _ _ => rfl))) xbs_nil (fun _ => rfl)) (by decide) rfl (fun _ => rfl) (fun _ => rfl)))))
theorem o_is_list (Ev : Evd P w K mg base A0) (k_is_from : FnOk P w K mg base (L2.CX P w) 1 A0.f_is_from A0.d_is_from ["value", "low", "high"] (spM ⟨K, mg⟩ 3 m_is_from)) (h : ∀ cs o, m_is_list cs = some o → ∃ n out, g_is_list n (startR 2 cs) = some out ∧ fin [true] out = some o) : FnOk P w K mg base (L2.CX P w) 2 A0.f_is_list A0.d_is_list ["value"] (spM ⟨K, mg⟩ 1 m_is_list) :=
  def_ok (fl := [true]) (Pk := [0]) Ev.F_is_list sc_is_list rfl (flB_ok rfl) (by decide) (fun cdv A outer s H E hr => w_is_list Ev k_is_from cdv A outer s H E hr) h
theorem w_check_lists (Ev : Evd P w K mg base A0) (k_is_list : FnOk P w K mg base (L2.CX P w) 2 A0.f_is_list A0.d_is_list ["value"] (spM ⟨K, mg⟩ 1 m_is_list)) (cdv : Value) (A : Around) (outer : List Env) (s : Shared) (H : Hp) (E : XK) (hr : Room 2 (A.deeper (envOfC "check_lists" (defScope s_check_lists) s.heap.objs.size A0.f_check_lists cdv))) :
    XSs ⟨K, mg⟩ (fun _ : Unit => cxOf (L2.CX P w) P w K mg base ["one", "other", "index", "told"] "check_lists" (defScope s_check_lists) A0.f_check_lists cdv A outer s H E) (fun cls d _ H => E cls d H) [0, 1] (defBody s_check_lists) g_check_lists :=
  (xss_cons (xs_for (fun _ => passes_of (K := fun e s'' => L2.CX P w outer H s E e s'') (E₁ := fun e' s'' => L2.CX P w outer H s E e' s'') rfl) (fun _ => rfl) (xi_enum (fun _ => rfl) (fun _ => rfl) (fun _ => Ev.z_enumerate) (xb_of (xe_lst (xbs_cons (xb_var fun _ => pv 0) (xbs_cons (xb_var fun _ => pv 1) xbs_nil (fun _ => rfl)) (fun _ => rfl)))) (fun _ => rfl)) (xg_tup (fun _ => rfl) (fun _ => rfl) (xgs_cons (xg_name (by decide) (fun _ => pg_name sc_check_lists.nd rfl (by first | exact .inl rfl | exact .inr rfl) (by first | exact .inl rfl | exact .inr rfl))) (xgs_cons (xg_name (by decide) (fun _ => pg_name sc_check_lists.nd rfl (by first | exact .inl rfl | exact .inr rfl) (by first | exact .inl rfl | exact .inr rfl))) xgs_nil (fun _ => rfl)) (fun _ => rfl)) (fun _ => rfl) (fun _ => rfl)) (xss_one (xs_if (xt_not (xt_val (xe_call (fun _ => k_is_list) (fun _ => hr.mono (by decide)) (fun _ => rfl) (fun _ => Ev.m_is_list) (fun _ => Ev.F_is_list.kp) (fun _ => Ev.b_is_list) (fun _ => takes_of rfl rfl rfl rfl) (xbs_cons (xb_var fun _ => pv 3) xbs_nil (fun _ => rfl)) (len_cons (fun _ _ _ _ => len_nil)) rfl (fun _ => rfl) (fun _ => rfl)) (fun _ _ => rfl))) (xss_one (xs_raiseI (fun _ => rfl) (fun _ => rfl) (fun _ => rfl) (fun _ => takes_of rfl rfl rfl rfl) (fun _ => Ev.i_BadLists) (fun _ => hr.mono (by decide)) Ev.m_BadLists (fun _ => rfl) rfl (xbs_cons (xb_var fun _ => pv 2) xbs_nil (fun _ => rfl)) (fun _ => rfl) (fun _ => rfl))) xss_nil)) (fun _ _ => rfl)) (xss_one (xs_if (xt_w (xw_or (xt_cmp (fun _ => op_neD hr.units) prm_ne (xb_of (xe_callB (fun _ => cr_sumT rfl) prm_sumT (fun _ => rfl) (fun _ => Ev.z_sum) (by decide +kernel) (xbs_cons (xb_var fun _ => pv 0) xbs_nil (fun _ => rfl)) (by decide) rfl (fun _ => rfl) (fun _ => rfl))) (xb_of (xe_callB (fun _ => cr_sumT rfl) prm_sumT (fun _ => rfl) (fun _ => Ev.z_sum) (by decide +kernel) (xbs_cons (xb_var fun _ => pv 1) xbs_nil (fun _ => rfl)) (by decide) rfl (fun _ => rfl) (fun _ => rfl))) (nomark _)) (xw_or1 (xt_cmp (fun _ => op_neD hr.units) prm_ne (xb_of (xe_bin (fun _ => op_addA) prm_add (xb_of (xe_callB (fun _ => call_lenB) prm_lenA (fun _ => rfl) (fun _ => Ev.z_len) (by decide +kernel) (xbs_cons (xb_var fun _ => pv 0) xbs_nil (fun _ => rfl)) (by decide) rfl (fun _ => rfl) (fun _ => rfl))) (xb_of (xe_callB (fun _ => call_lenB) prm_lenA (fun _ => rfl) (fun _ => Ev.z_len) (by decide +kernel) (xbs_cons (xb_var fun _ => pv 1) xbs_nil (fun _ => rfl)) (by decide) rfl (fun _ => rfl) (fun _ => rfl))))) (xb_of (xe_bin (fun _ => op_addA) prm_add (xb_of (xe_callB (fun _ => cr_sumT rfl) prm_sumT (fun _ => rfl) (fun _ => Ev.z_sum) (by decide +kernel) (xbs_cons (xb_var fun _ => pv 0) xbs_nil (fun _ => rfl)) (by decide) rfl (fun _ => rfl) (fun _ => rfl))) (xb_of xe_int))) (nomark _))))) (xss_one (xs_raiseI (fun _ => rfl) (fun _ => rfl) (fun _ => rfl) (fun _ => takes_of rfl rfl rfl rfl) (fun _ => Ev.i_BadLists) (fun _ => hr.mono (by decide)) Ev.m_BadLists (fun _ => rfl) rfl (xbs_cons (xb_of xe_none) xbs_nil (fun _ => rfl)) (fun _ => rfl) (fun _ => rfl))) xss_nil)))
theorem o_check_lists (Ev : Evd P w K mg base A0) (k_is_list : FnOk P w K mg base (L2.CX P w) 2 A0.f_is_list A0.d_is_list ["value"] (spM ⟨K, mg⟩ 1 m_is_list)) (h : ∀ cs o, m_check_lists cs = some o → ∃ n out, g_check_lists n (startR 4 cs) = some out ∧ fin [true, true] out = some o) : FnOk P w K mg base (L2.CX P w) 3 A0.f_check_lists A0.d_check_lists ["one", "other"] (spM ⟨K, mg⟩ 2 m_check_lists) :=
  def_ok (fl := [true, true]) (Pk := [0, 1]) Ev.F_check_lists sc_check_lists rfl (flB_ok rfl) (by decide) (fun cdv A outer s H E hr => w_check_lists Ev k_is_list cdv A outer s H E hr) h
theorem w_tree (Ev : Evd P w K mg base A0) (k_check_lists : FnOk P w K mg base (L2.CX P w) 3 A0.f_check_lists A0.d_check_lists ["one", "other"] (spM ⟨K, mg⟩ 2 m_check_lists)) (k_tree_of : FnOk P w K mg base (L2.CX P w) 2 A0.f_tree_of A0.d_tree_of ["one", "other"] (spM ⟨K, mg⟩ 2 m_tree_of)) (cdv : Value) (A : Around) (outer : List Env) (s : Shared) (H : Hp) (E : XK) (hr : Room 3 (A.deeper (envOfC "tree" (defScope s_tree) s.heap.objs.size A0.f_tree cdv))) :
    XSs ⟨K, mg⟩ (fun _ : Unit => cxOf (L2.CX P w) P w K mg base ["one", "other"] "tree" (defScope s_tree) A0.f_tree cdv A outer s H E) (fun cls d _ H => E cls d H) [0, 1] (defBody s_tree) g_tree :=
  (xss_cons (xs_expr (xb_of (xe_call (fun _ => k_check_lists) (fun _ => hr.mono (by decide)) (fun _ => rfl) (fun _ => Ev.m_check_lists) (fun _ => Ev.F_check_lists.kp) (fun _ => Ev.b_check_lists) (fun _ => takes_of rfl rfl rfl rfl) (xbs_cons (xb_var fun _ => pv 0) (xbs_cons (xb_var fun _ => pv 1) xbs_nil (fun _ => rfl)) (fun _ => rfl)) (len_cons (len_cons (fun _ _ _ _ => len_nil))) rfl (fun _ => rfl) (fun _ => rfl))) (fun _ => rfl)) (xss_one (xs_ret (xe_call (fun _ => k_tree_of) (fun _ => hr.mono (by decide)) (fun _ => rfl) (fun _ => Ev.m_tree_of) (fun _ => Ev.F_tree_of.kp) (fun _ => Ev.b_tree_of) (fun _ => takes_of rfl rfl rfl rfl) (xbs_cons (xb_var fun _ => pv 0) (xbs_cons (xb_var fun _ => pv 1) xbs_nil (fun _ => rfl)) (fun _ => rfl)) (len_cons (len_cons (fun _ _ _ _ => len_nil))) rfl (fun _ => rfl) (fun _ => rfl)))))
theorem o_tree (Ev : Evd P w K mg base A0) (k_check_lists : FnOk P w K mg base (L2.CX P w) 3 A0.f_check_lists A0.d_check_lists ["one", "other"] (spM ⟨K, mg⟩ 2 m_check_lists)) (k_tree_of : FnOk P w K mg base (L2.CX P w) 2 A0.f_tree_of A0.d_tree_of ["one", "other"] (spM ⟨K, mg⟩ 2 m_tree_of)) (h : ∀ cs o, m_tree cs = some o → ∃ n out, g_tree n (startR 2 cs) = some out ∧ fin [true, true] out = some o) : FnOk P w K mg base (L2.CX P w) 4 A0.f_tree A0.d_tree ["one", "other"] (spM ⟨K, mg⟩ 2 m_tree) :=
  def_ok (fl := [true, true]) (Pk := [0, 1]) Ev.F_tree sc_tree rfl (flB_ok rfl) (by decide) (fun cdv A outer s H E hr => w_tree Ev k_check_lists k_tree_of cdv A outer s H E hr) h
theorem w_is_whole (Ev : Evd P w K mg base A0) (cdv : Value) (A : Around) (outer : List Env) (s : Shared) (H : Hp) (E : XK) (hr : Room 0 (A.deeper (envOfC "is_whole" (defScope s_is_whole) s.heap.objs.size A0.f_is_whole cdv))) :
    XSs ⟨K, mg⟩ (fun _ : Unit => cxOf (L2.CX P w) P w K mg base ["word", "figures", "sign"] "is_whole" (defScope s_is_whole) A0.f_is_whole cdv A outer s H E) (fun cls d _ H => E cls d H) [0] (defBody s_is_whole) g_is_whole :=
  (xss_cons (xs_set (by decide) (fun t h j => ps_set sc_is_whole.nd rfl (by first | exact .inl rfl | exact .inr rfl) (h j) rfl (by first | exact .inl rfl | exact .inr rfl)) (xe_if (xt_cmp (fun _ => op_eqD hr.units) prm_eq (xb_of (xe_slU (fun _ => rfl) (xb_var fun _ => pv 0) (xb_of xe_int))) (xb_of xe_str) (nomark _)) (xe_slL (fun _ => rfl) (xb_var fun _ => pv 0) (xb_of xe_int)) (xe_fz (xb_var fun _ => pv 0)))) (xss_cons (xs_if (xt_w (xw_or (xt_not (xt_ch (fun _ => op_le) (fun _ => op_le) prm_i prm_i (xb_of xe_int) (xb_of (xe_callB (fun _ => call_lenB) prm_lenA (fun _ => rfl) (fun _ => Ev.z_len) (by decide +kernel) (xbs_cons (xb_var fun _ => pv 1) xbs_nil (fun _ => rfl)) (by decide) rfl (fun _ => rfl) (fun _ => rfl))) (xb_of (xe_glob (v := .int 10) (fun _ => rfl) (fun _ => Ev.c_MOST_FIGURES) ⟨_, rfl⟩ (fun _ => .int _) rfl)) rfl)) (xw_or1 (xt_not (xt_val (xe_callB (fun _ => cr_all rfl) prm_all (fun _ => rfl) (fun _ => Ev.z_all) (by decide +kernel) (xbs_cons (xb_of (xe_lc0 (own := [("sign", 2)]) (N := 3) (fun _ => rfl) (fun _ => sc_is_whole.nd) (xi_str (xb_var fun _ => pv 1)) (fun _ => blkB_ok rfl) (xg_name (by decide) (fun _ => pg_name sc_is_whole.nd rfl (by first | exact .inl rfl | exact .inr rfl) (by first | exact .inl rfl | exact .inr rfl))) (xb_of (xe_cmp (fun _ => op_inS) prm_inS (xb_var fun _ => pv 2) (xb_of (xe_glob (v := .str "0123456789") (fun _ => rfl) (fun _ => Ev.c_DIGITS) ⟨_, rfl⟩ (fun _ => .str _) rfl)) rfl)) (fun _ _ => rfl))) xbs_nil (fun _ => rfl)) (by decide) rfl (fun _ => rfl) (fun _ => rfl)) (fun _ _ => rfl)))))) (xss_one (xs_ret xe_bool)) xss_nil) (xss_one (xs_ret (xe_or (xe_cmp (fun _ => op_eqD hr.units) prm_eq (xb_var fun _ => pv 0) (xb_of xe_str) (nomark _)) (xe_one (xe_cmp (fun _ => op_neD hr.units) prm_ne (xb_of (xe_ix (fun _ => ix_seq) prm_ix (xb_var fun _ => pv 1) (xb_of xe_int) (fun _ _ => rfl))) (xb_of xe_str) (nomark _))))))))
theorem o_is_whole (Ev : Evd P w K mg base A0) (h : ∀ cs o, m_is_whole cs = some o → ∃ n out, g_is_whole n (startR 3 cs) = some out ∧ fin [true] out = some o) : FnOk P w K mg base (L2.CX P w) 1 A0.f_is_whole A0.d_is_whole ["word"] (spM ⟨K, mg⟩ 1 m_is_whole) :=
  def_ok (fl := [true]) (Pk := [0]) Ev.F_is_whole sc_is_whole rfl (flB_ok rfl) (by decide) (fun cdv A outer s H E hr => w_is_whole Ev cdv A outer s H E hr) h
theorem w_poly_in (Ev : Evd P w K mg base A0) (k_is_whole : FnOk P w K mg base (L2.CX P w) 1 A0.f_is_whole A0.d_is_whole ["word"] (spM ⟨K, mg⟩ 1 m_is_whole)) (cdv : Value) (A : Around) (outer : List Env) (s : Shared) (H : Hp) (E : XK) (hr : Room 2 (A.deeper (envOfC "poly_in" (defScope s_poly_in) s.heap.objs.size A0.f_poly_in cdv))) :
    XSs ⟨K, mg⟩ (fun _ : Unit => cxOf (L2.CX P w) P w K mg base ["words", "line", "found", "at", "word"] "poly_in" (defScope s_poly_in) A0.f_poly_in cdv A outer s H E) (fun cls d _ H => E cls d H) [0, 1] (defBody s_poly_in) g_poly_in :=
  (xss_cons (xs_if (xt_cmp (fun _ => op_neD hr.units) prm_ne (xb_of (xe_slU (fun _ => rfl) (xb_var fun _ => pv 0) (xb_of xe_int))) (xb_of (xe_lst (xbs_cons (xb_of (xe_glob (v := .str "poly") (fun _ => rfl) (fun _ => Ev.c_POLY) ⟨_, rfl⟩ (fun _ => .str _) rfl)) xbs_nil (fun _ => rfl)))) (nomark _)) (xss_one (xs_raiseI (fun _ => rfl) (fun _ => rfl) (fun _ => rfl) (fun _ => takes_of rfl rfl rfl rfl) (fun _ => Ev.i_BadLine) (fun _ => hr.mono (by decide)) Ev.m_BadLine (fun _ => rfl) rfl (xbs_cons (xb_var fun _ => pv 1) (xbs_cons (xb_of xe_int) xbs_nil (fun _ => rfl)) (fun _ => rfl)) (fun _ => rfl) (fun _ => rfl))) xss_nil) (xss_cons (xs_set (by decide) (fun t h j => ps_set sc_poly_in.nd rfl (by first | exact .inl rfl | exact .inr rfl) (h j) rfl (by first | exact .inl rfl | exact .inr rfl)) (xe_lst xbs_nil)) (xss_cons (xs_for (fun _ => passes_of (K := fun e s'' => L2.CX P w outer H s E e s'') (E₁ := fun e' s'' => L2.CX P w outer H s E e' s'') rfl) (fun _ => rfl) (xi_enum (fun _ => rfl) (fun _ => rfl) (fun _ => Ev.z_enumerate) (xb_of (xe_slL (fun _ => rfl) (xb_var fun _ => pv 0) (xb_of xe_int))) (fun _ => rfl)) (xg_tup (fun _ => rfl) (fun _ => rfl) (xgs_cons (xg_name (by decide) (fun _ => pg_name sc_poly_in.nd rfl (by first | exact .inl rfl | exact .inr rfl) (by first | exact .inl rfl | exact .inr rfl))) (xgs_cons (xg_name (by decide) (fun _ => pg_name sc_poly_in.nd rfl (by first | exact .inl rfl | exact .inr rfl) (by first | exact .inl rfl | exact .inr rfl))) xgs_nil (fun _ => rfl)) (fun _ => rfl)) (fun _ => rfl) (fun _ => rfl)) (xss_cons (xs_if (xt_w (xw_or (xt_cmp (fun _ => op_eqD hr.units) prm_eq (xb_var fun _ => pv 3) (xb_of (xe_glob (v := .int 13) (fun _ => rfl) (fun _ => Ev.c_MOST_TERMS) ⟨_, rfl⟩ (fun _ => .int _) rfl)) (nomark _)) (xw_or (xt_not (xt_val (xe_call (fun _ => k_is_whole) (fun _ => hr.mono (by decide)) (fun _ => rfl) (fun _ => Ev.m_is_whole) (fun _ => Ev.F_is_whole.kp) (fun _ => Ev.b_is_whole) (fun _ => takes_of rfl rfl rfl rfl) (xbs_cons (xb_var fun _ => pv 4) xbs_nil (fun _ => rfl)) (len_cons (fun _ _ _ _ => len_nil)) rfl (fun _ => rfl) (fun _ => rfl)) (fun _ _ => rfl))) (xw_or1 (xt_cmp (fun _ => op_gt) prm_i (xb_of (xe_callB (fun _ => call_abs) prm_abs (fun _ => rfl) (fun _ => Ev.z_abs) (by decide +kernel) (xbs_cons (xb_of (xe_callTy (fun _ => call_intA) prm_intA (fun _ => rfl) (fun _ => Ev.z_int) (by decide +kernel) (xbs_cons (xb_var fun _ => pv 4) xbs_nil (fun _ => rfl)) (by decide) rfl (fun _ => rfl) (fun _ => rfl))) xbs_nil (fun _ => rfl)) (by decide) rfl (fun _ => rfl) (fun _ => rfl))) (xb_of (xe_glob (v := .int 1000000000) (fun _ => rfl) (fun _ => Ev.c_FAR) ⟨_, rfl⟩ (fun _ => .int _) rfl)) (nomark _)))))) (xss_one (xs_raiseI (fun _ => rfl) (fun _ => rfl) (fun _ => rfl) (fun _ => takes_of rfl rfl rfl rfl) (fun _ => Ev.i_BadLine) (fun _ => hr.mono (by decide)) Ev.m_BadLine (fun _ => rfl) rfl (xbs_cons (xb_var fun _ => pv 1) (xbs_cons (xb_of (xe_bin (fun _ => op_addA) prm_add (xb_var fun _ => pv 3) (xb_of xe_int))) xbs_nil (fun _ => rfl)) (fun _ => rfl)) (fun _ => rfl) (fun _ => rfl))) xss_nil) (xss_one (xs_expr (xb_of (xe_mth (fun _ => rfl) (fun t h j => pe_bm PySem.F.plainAttrs_list PySem.F.slot_list_append PySem.F.type_list_append mt_append (pv 2) (h j)) sm_app (xbs_cons (xb_of (xe_callTy (fun _ => call_intA) prm_intA (fun _ => rfl) (fun _ => Ev.z_int) (by decide +kernel) (xbs_cons (xb_var fun _ => pv 4) xbs_nil (fun _ => rfl)) (by decide) rfl (fun _ => rfl) (fun _ => rfl))) xbs_nil (fun _ => rfl)))) (fun _ => rfl)))) (fun _ _ => rfl)) (xss_cons (xs_if (xt_w (xw_and (xt_cmp (fun _ => op_neD hr.units) prm_ne (xb_var fun _ => pv 2) (xb_of (xe_lst xbs_nil)) (nomark _)) (xw_and1 (xt_cmp (fun _ => op_eqD hr.units) prm_eq (xb_of (xe_ix (fun _ => ix_seq) prm_ix (xb_var fun _ => pv 2) (xb_of (xe_un (fun _ => un_neg) prm_neg (xb_of xe_int))) (fun _ _ => rfl))) (xb_of xe_int) (nomark _))))) (xss_one (xs_raiseI (fun _ => rfl) (fun _ => rfl) (fun _ => rfl) (fun _ => takes_of rfl rfl rfl rfl) (fun _ => Ev.i_BadLine) (fun _ => hr.mono (by decide)) Ev.m_BadLine (fun _ => rfl) rfl (xbs_cons (xb_var fun _ => pv 1) (xbs_cons (xb_of (xe_callB (fun _ => call_lenB) prm_lenA (fun _ => rfl) (fun _ => Ev.z_len) (by decide +kernel) (xbs_cons (xb_var fun _ => pv 0) xbs_nil (fun _ => rfl)) (by decide) rfl (fun _ => rfl) (fun _ => rfl))) xbs_nil (fun _ => rfl)) (fun _ => rfl)) (fun _ => rfl) (fun _ => rfl))) xss_nil) (xss_one (xs_ret (xe_callTy (fun _ => call_tuple_of) prm_tuple (fun _ => rfl) (fun _ => Ev.z_tuple) (by decide +kernel) (xbs_cons (xb_var fun _ => pv 2) xbs_nil (fun _ => rfl)) (by decide) rfl (fun _ => rfl) (fun _ => rfl))))))))
theorem o_poly_in (Ev : Evd P w K mg base A0) (k_is_whole : FnOk P w K mg base (L2.CX P w) 1 A0.f_is_whole A0.d_is_whole ["word"] (spM ⟨K, mg⟩ 1 m_is_whole)) (h : ∀ cs o, m_poly_in cs = some o → ∃ n out, g_poly_in n (startR 5 cs) = some out ∧ fin [true, true] out = some o) : FnOk P w K mg base (L2.CX P w) 3 A0.f_poly_in A0.d_poly_in ["words", "line"] (spM ⟨K, mg⟩ 2 m_poly_in) :=
  def_ok (fl := [true, true]) (Pk := [0, 1]) Ev.F_poly_in sc_poly_in rfl (flB_ok rfl) (by decide) (fun cdv A outer s H E hr => w_poly_in Ev k_is_whole cdv A outer s H E hr) h
theorem w_read (Ev : Evd P w K mg base A0) (k_poly_in : FnOk P w K mg base (L2.CX P w) 3 A0.f_poly_in A0.d_poly_in ["words", "line"] (spM ⟨K, mg⟩ 2 m_poly_in)) (cdv : Value) (A : Around) (outer : List Env) (s : Shared) (H : Hp) (E : XK) (hr : Room 3 (A.deeper (envOfC "read" (defScope s_read) s.heap.objs.size A0.f_read cdv))) :
    XSs ⟨K, mg⟩ (fun _ : Unit => cxOf (L2.CX P w) P w K mg base ["text", "lines", "line", "word", "one", "other"] "read" (defScope s_read) A0.f_read cdv A outer s H E) (fun cls d _ H => E cls d H) [0] (defBody s_read) g_read :=
  (xss_cons (xs_setLc0 (own := [("line", 2)]) (N := 6) (by decide) (fun _ => rfl) (fun _ => sc_read.nd) (fun _ => rfl) (fun _ => rfl) (fun _ => rfl) (xi_seq (fun _ => rfl) (xb_of (xe_mvS (fun _ => rfl) (fun to t a h j => pe_bm PySem.F.plainAttrs_str PySem.F.slot_str_split PySem.F.type_str_split mt_split (a j) (h j)) smv_split (xb_var fun _ => pv 0) (xbs_cons (xb_of xe_str) xbs_nil (fun _ => rfl))))) (fun _ => blkB_ok rfl) (xg_name (by decide) (fun _ => pg_name sc_read.nd rfl (by first | exact .inl rfl | exact .inr rfl) (by first | exact .inl rfl | exact .inr rfl))) (xb_of (xe_lc1 (own := [("word", 3)]) (N := 6) (fun _ => rfl) (fun _ => sc_read.nd) (xi_seq (fun _ => rfl) (xb_of (xe_mvS (fun _ => rfl) (fun to t a h j => pe_bm PySem.F.plainAttrs_str PySem.F.slot_str_split PySem.F.type_str_split mt_split (a j) (h j)) smv_split (xb_var fun _ => pv 2) (xbs_cons (xb_of xe_str) xbs_nil (fun _ => rfl))))) (fun _ => blkB_ok rfl) (xg_name (by decide) (fun _ => pg_name sc_read.nd rfl (by first | exact .inl rfl | exact .inr rfl) (by first | exact .inl rfl | exact .inr rfl))) (xt_cmp (fun _ => op_neD hr.units) prm_ne (xb_var fun _ => pv 3) (xb_of xe_str) (nomark _)) (xb_var fun _ => pv 3) (fun _ _ => rfl))) (fun _ _ => rfl)) (xss_cons (xs_set (by decide) (fun t h j => ps_set sc_read.nd rfl (by first | exact .inl rfl | exact .inr rfl) (h j) rfl (by first | exact .inl rfl | exact .inr rfl)) (xe_call (fun _ => k_poly_in) (fun _ => hr.mono (by decide)) (fun _ => rfl) (fun _ => Ev.m_poly_in) (fun _ => Ev.F_poly_in.kp) (fun _ => Ev.b_poly_in) (fun _ => takes_of rfl rfl rfl rfl) (xbs_cons (xb_of (xe_ix (fun _ => ix_seq) prm_ix (xb_var fun _ => pv 1) (xb_of xe_int) (fun _ _ => rfl))) (xbs_cons (xb_of xe_int) xbs_nil (fun _ => rfl)) (fun _ => rfl)) (len_cons (len_cons (fun _ _ _ _ => len_nil))) rfl (fun _ => rfl) (fun _ => rfl))) (xss_cons (xs_if (xt_cmp (fun _ => op_lt) prm_i (xb_of (xe_callB (fun _ => call_lenB) prm_lenA (fun _ => rfl) (fun _ => Ev.z_len) (by decide +kernel) (xbs_cons (xb_var fun _ => pv 1) xbs_nil (fun _ => rfl)) (by decide) rfl (fun _ => rfl) (fun _ => rfl))) (xb_of xe_int) (nomark _)) (xss_one (xs_raiseI (fun _ => rfl) (fun _ => rfl) (fun _ => rfl) (fun _ => takes_of rfl rfl rfl rfl) (fun _ => Ev.i_BadLine) (fun _ => hr.mono (by decide)) Ev.m_BadLine (fun _ => rfl) rfl (xbs_cons (xb_of xe_int) (xbs_cons (xb_of xe_int) xbs_nil (fun _ => rfl)) (fun _ => rfl)) (fun _ => rfl) (fun _ => rfl))) xss_nil) (xss_cons (xs_set (by decide) (fun t h j => ps_set sc_read.nd rfl (by first | exact .inl rfl | exact .inr rfl) (h j) rfl (by first | exact .inl rfl | exact .inr rfl)) (xe_call (fun _ => k_poly_in) (fun _ => hr.mono (by decide)) (fun _ => rfl) (fun _ => Ev.m_poly_in) (fun _ => Ev.F_poly_in.kp) (fun _ => Ev.b_poly_in) (fun _ => takes_of rfl rfl rfl rfl) (xbs_cons (xb_of (xe_ix (fun _ => ix_seq) prm_ix (xb_var fun _ => pv 1) (xb_of xe_int) (fun _ _ => rfl))) (xbs_cons (xb_of xe_int) xbs_nil (fun _ => rfl)) (fun _ => rfl)) (len_cons (len_cons (fun _ _ _ _ => len_nil))) rfl (fun _ => rfl) (fun _ => rfl))) (xss_cons (xs_if (xt_cmp (fun _ => op_gt) prm_i (xb_of (xe_callB (fun _ => call_lenB) prm_lenA (fun _ => rfl) (fun _ => Ev.z_len) (by decide +kernel) (xbs_cons (xb_var fun _ => pv 1) xbs_nil (fun _ => rfl)) (by decide) rfl (fun _ => rfl) (fun _ => rfl))) (xb_of xe_int) (nomark _)) (xss_one (xs_raiseI (fun _ => rfl) (fun _ => rfl) (fun _ => rfl) (fun _ => takes_of rfl rfl rfl rfl) (fun _ => Ev.i_BadLine) (fun _ => hr.mono (by decide)) Ev.m_BadLine (fun _ => rfl) rfl (xbs_cons (xb_of xe_int) (xbs_cons (xb_of xe_int) xbs_nil (fun _ => rfl)) (fun _ => rfl)) (fun _ => rfl) (fun _ => rfl))) xss_nil) (xss_one (xs_ret (xe_tup (xbs_cons (xb_var fun _ => pv 4) (xbs_cons (xb_var fun _ => pv 5) xbs_nil (fun _ => rfl)) (fun _ => rfl))))))))))
theorem o_read (Ev : Evd P w K mg base A0) (k_poly_in : FnOk P w K mg base (L2.CX P w) 3 A0.f_poly_in A0.d_poly_in ["words", "line"] (spM ⟨K, mg⟩ 2 m_poly_in)) (h : ∀ cs o, m_read cs = some o → ∃ n out, g_read n (startR 6 cs) = some out ∧ fin [true] out = some o) : FnOk P w K mg base (L2.CX P w) 4 A0.f_read A0.d_read ["text"] (spM ⟨K, mg⟩ 1 m_read) :=
  def_ok (fl := [true]) (Pk := [0]) Ev.F_read sc_read rfl (flB_ok rfl) (by decide) (fun cdv A outer s H E hr => w_read Ev k_poly_in cdv A outer s H E hr) h
theorem w__law_raised (Ev : Evd P w K mg base A0) (k_unlike_by : FnOk P w K mg base (L2.CX P w) 4 A0.f_unlike_by A0.d_unlike_by ["prime", "one"] (spM ⟨K, mg⟩ 2 m_unlike_by)) (k_barred : FnOk P w K mg base (L2.CX P w) 4 A0.f_barred A0.d_barred ["first", "second", "third"] (spM ⟨K, mg⟩ 3 m_barred)) (k_through : FnOk P w K mg base (L2.CX P w) 4 A0.f_through A0.d_through ["points"] (spM ⟨K, mg⟩ 1 m_through)) (k_by_roots : FnOk P w K mg base (L2.CX P w) 3 A0.f_by_roots A0.d_by_roots ["rows"] (spM ⟨K, mg⟩ 1 m_by_roots)) (k_unlike : FnOk P w K mg base (L2.CX P w) 4 A0.f_unlike A0.d_unlike ["one"] (spM ⟨K, mg⟩ 1 m_unlike)) (k_measure : FnOk P w K mg base (L2.CX P w) 7 A0.f_measure A0.d_measure ["one", "other"] (spM ⟨K, mg⟩ 2 m_measure)) (k_Desk_stretch : FnOk P w K mg base (L2.CX P w) 4 A0.f_Desk_stretch A0.d_Desk_stretch ["self", "by"] (spM ⟨K, mg⟩ 2 m_Desk_stretch)) (k_Desk___init__ : FnOk P w K mg base (L2.CX P w) 7 A0.f_Desk___init__ A0.d_Desk___init__ ["self", "one", "other"] (spM ⟨K, mg⟩ 3 m_Desk___init__)) (k_plus : FnOk P w K mg base (L2.CX P w) 4 A0.f_plus A0.d_plus ["one", "other"] (spM ⟨K, mg⟩ 2 m_plus)) (k_tree : FnOk P w K mg base (L2.CX P w) 4 A0.f_tree A0.d_tree ["one", "other"] (spM ⟨K, mg⟩ 2 m_tree)) (k_read : FnOk P w K mg base (L2.CX P w) 4 A0.f_read A0.d_read ["text"] (spM ⟨K, mg⟩ 1 m_read)) (cdv : Value) (A : Around) (outer : List Env) (s : Shared) (H : Hp) (E : XK) (hr : Room 8 (A.deeper (envOfC "_law_raised" (defScope s__law_raised) s.heap.objs.size A0.f__law_raised cdv))) :
    XSs ⟨K, mg⟩ (fun _ : Unit => cxOf (L2.CX P w) P w K mg base ["_law_k", "_law_found", "_law_e"] "_law_raised" (defScope s__law_raised) A0.f__law_raised cdv A outer s H E) (fun cls d _ H => E cls d H) [0] (defBody s__law_raised) g__law_raised :=
  (xss_cons (xs_set (by decide) (fun t h j => ps_set sc__law_raised.nd rfl (by first | exact .inl rfl | exact .inr rfl) (h j) rfl (by first | exact .inl rfl | exact .inr rfl)) xe_none) (xss_cons (xs_tryK (fun _ => rfl) (fun _ => rfl) (fun _ => rfl) (fun _ => sc__law_raised.nd) (fun _ => rfl) (fun _ => rfl) (fun _ => rfl) (by decide) (by decide) (fun _ => takes_of rfl rfl rfl rfl) (fun Wb => (xss_one (xs_if (xt_cmp (fun _ => op_eqD hr.units) prm_eq (xb_var fun _ => pv 0) (xb_of xe_int) (nomark _)) (xss_one (xs_expr (xb_of (xe_call (fun _ => k_unlike_by) (fun _ => hr.mono (by decide)) (fun _ => rfl) (fun _ => Ev.m_unlike_by) (fun _ => Ev.F_unlike_by.kp) (fun _ => Ev.b_unlike_by) (fun p => p.2.1) (xbs_cons (xb_of xe_int) (xbs_cons (xb_of (xe_tup (xbs_cons (xb_of xe_int) xbs_nil (fun _ => rfl)))) xbs_nil (fun _ => rfl)) (fun _ => rfl)) (len_cons (len_cons (fun _ _ _ _ => len_nil))) rfl (fun _ => rfl) (fun _ => rfl))) (fun _ => rfl))) (xss_one (xs_if (xt_cmp (fun _ => op_eqD hr.units) prm_eq (xb_var fun _ => pv 0) (xb_of xe_int) (nomark _)) (xss_one (xs_expr (xb_of (xe_call (fun _ => k_barred) (fun _ => hr.mono (by decide)) (fun _ => rfl) (fun _ => Ev.m_barred) (fun _ => Ev.F_barred.kp) (fun _ => Ev.b_barred) (fun p => p.2.1) (xbs_cons (xb_of xe_int) (xbs_cons (xb_of xe_int) (xbs_cons (xb_of xe_int) xbs_nil (fun _ => rfl)) (fun _ => rfl)) (fun _ => rfl)) (len_cons (len_cons (len_cons (fun _ _ _ _ => len_nil)))) rfl (fun _ => rfl) (fun _ => rfl))) (fun _ => rfl))) (xss_one (xs_if (xt_cmp (fun _ => op_eqD hr.units) prm_eq (xb_var fun _ => pv 0) (xb_of xe_int) (nomark _)) (xss_one (xs_expr (xb_of (xe_call (fun _ => k_through) (fun _ => hr.mono (by decide)) (fun _ => rfl) (fun _ => Ev.m_through) (fun _ => Ev.F_through.kp) (fun _ => Ev.b_through) (fun p => p.2.1) (xbs_cons (xb_of (xe_lst xbs_nil)) xbs_nil (fun _ => rfl)) (len_cons (fun _ _ _ _ => len_nil)) rfl (fun _ => rfl) (fun _ => rfl))) (fun _ => rfl))) (xss_one (xs_if (xt_cmp (fun _ => op_eqD hr.units) prm_eq (xb_var fun _ => pv 0) (xb_of xe_int) (nomark _)) (xss_one (xs_expr (xb_of (xe_call (fun _ => k_by_roots) (fun _ => hr.mono (by decide)) (fun _ => rfl) (fun _ => Ev.m_by_roots) (fun _ => Ev.F_by_roots.kp) (fun _ => Ev.b_by_roots) (fun p => p.2.1) (xbs_cons (xb_of (xe_lst (xbs_cons (xb_of (xe_tup (xbs_cons (xb_of xe_int) (xbs_cons (xb_of xe_int) xbs_nil (fun _ => rfl)) (fun _ => rfl)))) xbs_nil (fun _ => rfl)))) xbs_nil (fun _ => rfl)) (len_cons (fun _ _ _ _ => len_nil)) rfl (fun _ => rfl) (fun _ => rfl))) (fun _ => rfl))) (xss_one (xs_if (xt_cmp (fun _ => op_eqD hr.units) prm_eq (xb_var fun _ => pv 0) (xb_of xe_int) (nomark _)) (xss_one (xs_expr (xb_of (xe_call (fun _ => k_unlike) (fun _ => hr.mono (by decide)) (fun _ => rfl) (fun _ => Ev.m_unlike) (fun _ => Ev.F_unlike.kp) (fun _ => Ev.b_unlike) (fun p => p.2.1) (xbs_cons (xb_of (xe_tup xbs_nil)) xbs_nil (fun _ => rfl)) (len_cons (fun _ _ _ _ => len_nil)) rfl (fun _ => rfl) (fun _ => rfl))) (fun _ => rfl))) (xss_one (xs_if (xt_cmp (fun _ => op_eqD hr.units) prm_eq (xb_var fun _ => pv 0) (xb_of xe_int) (nomark _)) (xss_one (xs_expr (xb_of (xe_call (fun _ => k_measure) (fun _ => hr.mono (by decide)) (fun _ => rfl) (fun _ => Ev.m_measure) (fun _ => Ev.F_measure.kp) (fun _ => Ev.b_measure) (fun p => p.2.1) (xbs_cons (xb_of (xe_tup (xbs_cons (xb_of xe_int) xbs_nil (fun _ => rfl)))) (xbs_cons (xb_of (xe_tup (xbs_cons (xb_of xe_int) xbs_nil (fun _ => rfl)))) xbs_nil (fun _ => rfl)) (fun _ => rfl)) (len_cons (len_cons (fun _ _ _ _ => len_nil))) rfl (fun _ => rfl) (fun _ => rfl))) (fun _ => rfl))) (xss_one (xs_if (xt_cmp (fun _ => op_eqD hr.units) prm_eq (xb_var fun _ => pv 0) (xb_of xe_int) (nomark _)) (xss_one (xs_expr (xb_of (xe_call (fun _ => k_measure) (fun _ => hr.mono (by decide)) (fun _ => rfl) (fun _ => Ev.m_measure) (fun _ => Ev.F_measure.kp) (fun _ => Ev.b_measure) (fun p => p.2.1) (xbs_cons (xb_of (xe_tup (xbs_cons (xb_of xe_int) (xbs_cons (xb_of xe_int) xbs_nil (fun _ => rfl)) (fun _ => rfl)))) (xbs_cons (xb_of (xe_tup (xbs_cons (xb_of xe_int) (xbs_cons (xb_of xe_int) (xbs_cons (xb_of xe_int) xbs_nil (fun _ => rfl)) (fun _ => rfl)) (fun _ => rfl)))) xbs_nil (fun _ => rfl)) (fun _ => rfl)) (len_cons (len_cons (fun _ _ _ _ => len_nil))) rfl (fun _ => rfl) (fun _ => rfl))) (fun _ => rfl))) (xss_one (xs_if (xt_cmp (fun _ => op_eqD hr.units) prm_eq (xb_var fun _ => pv 0) (xb_of xe_int) (nomark _)) (xss_one (xs_expr (xb_of (xe_meth (fun _ => k_Desk_stretch) (fun _ => hr.mono (by decide)) (fun _ => Ev.cl_Desk) (fun _ => Ev.mt_Desk_stretch) Ev.m_Desk (fun _ => Ev.b_Desk_stretch) (fun p => p.2.1) (xb_of (xe_make (fun _ => k_Desk___init__) (fun _ => hr.mono (by decide)) (fun _ => Ev.mk_Desk) Ev.m_Desk (fun _ => rfl) (fun _ => Ev.m_Desk) (fun _ => Ev.b_Desk___init__) (fun p => p.2.1) (xbs_cons (xb_of (xe_tup (xbs_cons (xb_of xe_int) (xbs_cons (xb_of xe_int) xbs_nil (fun _ => rfl)) (fun _ => rfl)))) (xbs_cons (xb_of (xe_tup (xbs_cons (xb_of xe_int) xbs_nil (fun _ => rfl)))) xbs_nil (fun _ => rfl)) (fun _ => rfl)) (len_cons (len_cons (fun _ _ _ _ => len_nil))) rfl (fun _ => rfl) (fun _ => rfl))) (xbs_cons (xb_of xe_int) xbs_nil (fun _ => rfl)) (len_cons (fun _ _ _ _ => len_nil)) (fun _ => rfl) (fun _ => rfl) (fun _ => rfl))) (fun _ => rfl))) (xss_one (xs_if (xt_cmp (fun _ => op_eqD hr.units) prm_eq (xb_var fun _ => pv 0) (xb_of xe_int) (nomark _)) (xss_one (xs_expr (xb_of (xe_call (fun _ => k_plus) (fun _ => hr.mono (by decide)) (fun _ => rfl) (fun _ => Ev.m_plus) (fun _ => Ev.F_plus.kp) (fun _ => Ev.b_plus) (fun p => p.2.1) (xbs_cons (xb_of (xe_tup (xbs_cons (xb_of xe_int) (xbs_cons (xb_of xe_int) xbs_nil (fun _ => rfl)) (fun _ => rfl)))) (xbs_cons (xb_of (xe_tup (xbs_cons (xb_of xe_int) (xbs_cons (xb_of xe_int) (xbs_cons (xb_of xe_str) xbs_nil (fun _ => rfl)) (fun _ => rfl)) (fun _ => rfl)))) xbs_nil (fun _ => rfl)) (fun _ => rfl)) (len_cons (len_cons (fun _ _ _ _ => len_nil))) rfl (fun _ => rfl) (fun _ => rfl))) (fun _ => rfl))) (xss_one (xs_if (xt_cmp (fun _ => op_eqD hr.units) prm_eq (xb_var fun _ => pv 0) (xb_of xe_int) (nomark _)) (xss_one (xs_expr (xb_of (xe_call (fun _ => k_tree) (fun _ => hr.mono (by decide)) (fun _ => rfl) (fun _ => Ev.m_tree) (fun _ => Ev.F_tree.kp) (fun _ => Ev.b_tree) (fun p => p.2.1) (xbs_cons (xb_of (xe_tup (xbs_cons (xb_of xe_int) (xbs_cons (xb_of xe_int) xbs_nil (fun _ => rfl)) (fun _ => rfl)))) (xbs_cons (xb_of (xe_tup (xbs_cons (xb_of xe_int) (xbs_cons (xb_of xe_int) xbs_nil (fun _ => rfl)) (fun _ => rfl)))) xbs_nil (fun _ => rfl)) (fun _ => rfl)) (len_cons (len_cons (fun _ _ _ _ => len_nil))) rfl (fun _ => rfl) (fun _ => rfl))) (fun _ => rfl))) (xss_one (xs_expr (xb_of (xe_call (fun _ => k_read) (fun _ => hr.mono (by decide)) (fun _ => rfl) (fun _ => Ev.m_read) (fun _ => Ev.F_read.kp) (fun _ => Ev.b_read) (fun p => p.2.1) (xbs_cons (xb_of xe_str) xbs_nil (fun _ => rfl)) (len_cons (fun _ _ _ _ => len_nil)) rfl (fun _ => rfl) (fun _ => rfl))) (fun _ => rfl)))))))))))))))))))))))) (fun _ => ⟨rfl, rfl, .inl Ev.m_RootError⟩) (tbl_ok (tbl_c ⟨_, Ev.m_BadLine, Ev.x_BadLine_RootError⟩ (tbl_c ⟨_, Ev.m_BadLists, Ev.x_BadLists_RootError⟩ (tbl_c ⟨_, Ev.m_BadNumber, Ev.x_BadNumber_RootError⟩ (tbl_c ⟨_, Ev.m_BadPoints, Ev.x_BadPoints_RootError⟩ (tbl_c ⟨_, Ev.m_BadPoly, Ev.x_BadPoly_RootError⟩ (tbl_c ⟨_, Ev.m_BadPrime, Ev.x_BadPrime_RootError⟩ (tbl_c ⟨_, Ev.m_BadRoots, Ev.x_BadRoots_RootError⟩ (tbl_c ⟨_, Ev.m_Common, Ev.x_Common_RootError⟩ (tbl_c ⟨_, Ev.m_Flat, Ev.x_Flat_RootError⟩ (tbl_c ⟨_, Ev.m_Rising, Ev.x_Rising_RootError⟩ (tbl_c ⟨_, Ev.m_Zero, Ev.x_Zero_RootError⟩ (fun _ z => (List.not_mem_nil z).elim))))))))))))) (fun _ _ _ _ => pss_one (ps_set sc__law_raised.nd rfl (by first | exact .inl rfl | exact .inr rfl) (pv 2) rfl (by first | exact .inl rfl | exact .inr rfl)))) (xss_one (xs_ret (xe_mv fun _ => pv 1)))))
theorem o__law_raised (Ev : Evd P w K mg base A0) (k_unlike_by : FnOk P w K mg base (L2.CX P w) 4 A0.f_unlike_by A0.d_unlike_by ["prime", "one"] (spM ⟨K, mg⟩ 2 m_unlike_by)) (k_barred : FnOk P w K mg base (L2.CX P w) 4 A0.f_barred A0.d_barred ["first", "second", "third"] (spM ⟨K, mg⟩ 3 m_barred)) (k_through : FnOk P w K mg base (L2.CX P w) 4 A0.f_through A0.d_through ["points"] (spM ⟨K, mg⟩ 1 m_through)) (k_by_roots : FnOk P w K mg base (L2.CX P w) 3 A0.f_by_roots A0.d_by_roots ["rows"] (spM ⟨K, mg⟩ 1 m_by_roots)) (k_unlike : FnOk P w K mg base (L2.CX P w) 4 A0.f_unlike A0.d_unlike ["one"] (spM ⟨K, mg⟩ 1 m_unlike)) (k_measure : FnOk P w K mg base (L2.CX P w) 7 A0.f_measure A0.d_measure ["one", "other"] (spM ⟨K, mg⟩ 2 m_measure)) (k_Desk_stretch : FnOk P w K mg base (L2.CX P w) 4 A0.f_Desk_stretch A0.d_Desk_stretch ["self", "by"] (spM ⟨K, mg⟩ 2 m_Desk_stretch)) (k_Desk___init__ : FnOk P w K mg base (L2.CX P w) 7 A0.f_Desk___init__ A0.d_Desk___init__ ["self", "one", "other"] (spM ⟨K, mg⟩ 3 m_Desk___init__)) (k_plus : FnOk P w K mg base (L2.CX P w) 4 A0.f_plus A0.d_plus ["one", "other"] (spM ⟨K, mg⟩ 2 m_plus)) (k_tree : FnOk P w K mg base (L2.CX P w) 4 A0.f_tree A0.d_tree ["one", "other"] (spM ⟨K, mg⟩ 2 m_tree)) (k_read : FnOk P w K mg base (L2.CX P w) 4 A0.f_read A0.d_read ["text"] (spM ⟨K, mg⟩ 1 m_read)) (h : ∀ cs o, m__law_raised cs = some o → ∃ n out, g__law_raised n (startR 3 cs) = some out ∧ fin [true] out = some o) : FnOk P w K mg base (L2.CX P w) 9 A0.f__law_raised A0.d__law_raised ["_law_k"] (spM ⟨K, mg⟩ 1 m__law_raised) :=
  def_ok (fl := [true]) (Pk := [0]) Ev.F__law_raised sc__law_raised rfl (flB_ok rfl) (by decide) (fun cdv A outer s H E hr => w__law_raised Ev k_unlike_by k_barred k_through k_by_roots k_unlike k_measure k_Desk_stretch k_Desk___init__ k_plus k_tree k_read cdv A outer s H E hr) h
theorem w__law_kinds (Ev : Evd P w K mg base A0) (cdv : Value) (A : Around) (outer : List Env) (s : Shared) (H : Hp) (E : XK) (hr : Room 0 (A.deeper (envOfC "_law_kinds" (defScope s__law_kinds) s.heap.objs.size A0.f__law_kinds cdv))) :
    XSs ⟨K, mg⟩ (fun _ : Unit => cxOf (L2.CX P w) P w K mg base ["_law_e", "_law_found"] "_law_kinds" (defScope s__law_kinds) A0.f__law_kinds cdv A outer s H E) (fun cls d _ H => E cls d H) [0] (defBody s__law_kinds) g__law_kinds :=
  (xss_cons (xs_set (by decide) (fun t h j => ps_set sc__law_kinds.nd rfl (by first | exact .inl rfl | exact .inr rfl) (h j) rfl (by first | exact .inl rfl | exact .inr rfl)) (xe_lst (xbs_cons (xb_of (xe_isX (x := "BadPrime") (fun _ => rfl) (fun _ => rfl) (fun _ => Ev.z_isinstance) (fun _ => rfl) (fun _ => Ev.m_BadPrime) rfl (xb_var fun _ => pv 0) (kb_sub (l := [("BadLine", A0.C_BadLine), ("BadLists", A0.C_BadLists), ("BadNumber", A0.C_BadNumber), ("BadPoints", A0.C_BadPoints), ("BadPoly", A0.C_BadPoly), ("BadPrime", A0.C_BadPrime), ("BadRoots", A0.C_BadRoots), ("Common", A0.C_Common), ("Flat", A0.C_Flat), ("Rising", A0.C_Rising), ("Zero", A0.C_Zero)]) (bs := [false, false, false, false, false, true, false, false, false, false, false]) Ev.ecs Ev.kb_BadPrime rfl) (fun _ => rfl) (fun _ => rfl) (fun _ => rfl))) (xbs_cons (xb_of (xe_isX (x := "BadNumber") (fun _ => rfl) (fun _ => rfl) (fun _ => Ev.z_isinstance) (fun _ => rfl) (fun _ => Ev.m_BadNumber) rfl (xb_var fun _ => pv 0) (kb_sub (l := [("BadLine", A0.C_BadLine), ("BadLists", A0.C_BadLists), ("BadNumber", A0.C_BadNumber), ("BadPoints", A0.C_BadPoints), ("BadPoly", A0.C_BadPoly), ("BadPrime", A0.C_BadPrime), ("BadRoots", A0.C_BadRoots), ("Common", A0.C_Common), ("Flat", A0.C_Flat), ("Rising", A0.C_Rising), ("Zero", A0.C_Zero)]) (bs := [false, false, true, false, false, false, false, false, false, false, false]) Ev.ecs Ev.kb_BadNumber rfl) (fun _ => rfl) (fun _ => rfl) (fun _ => rfl))) (xbs_cons (xb_of (xe_isX (x := "BadPoints") (fun _ => rfl) (fun _ => rfl) (fun _ => Ev.z_isinstance) (fun _ => rfl) (fun _ => Ev.m_BadPoints) rfl (xb_var fun _ => pv 0) (kb_sub (l := [("BadLine", A0.C_BadLine), ("BadLists", A0.C_BadLists), ("BadNumber", A0.C_BadNumber), ("BadPoints", A0.C_BadPoints), ("BadPoly", A0.C_BadPoly), ("BadPrime", A0.C_BadPrime), ("BadRoots", A0.C_BadRoots), ("Common", A0.C_Common), ("Flat", A0.C_Flat), ("Rising", A0.C_Rising), ("Zero", A0.C_Zero)]) (bs := [false, false, false, true, false, false, false, false, false, false, false]) Ev.ecs Ev.kb_BadPoints rfl) (fun _ => rfl) (fun _ => rfl) (fun _ => rfl))) (xbs_cons (xb_of (xe_isX (x := "BadRoots") (fun _ => rfl) (fun _ => rfl) (fun _ => Ev.z_isinstance) (fun _ => rfl) (fun _ => Ev.m_BadRoots) rfl (xb_var fun _ => pv 0) (kb_sub (l := [("BadLine", A0.C_BadLine), ("BadLists", A0.C_BadLists), ("BadNumber", A0.C_BadNumber), ("BadPoints", A0.C_BadPoints), ("BadPoly", A0.C_BadPoly), ("BadPrime", A0.C_BadPrime), ("BadRoots", A0.C_BadRoots), ("Common", A0.C_Common), ("Flat", A0.C_Flat), ("Rising", A0.C_Rising), ("Zero", A0.C_Zero)]) (bs := [false, false, false, false, false, false, true, false, false, false, false]) Ev.ecs Ev.kb_BadRoots rfl) (fun _ => rfl) (fun _ => rfl) (fun _ => rfl))) xbs_nil (fun _ => rfl)) (fun _ => rfl)) (fun _ => rfl)) (fun _ => rfl)))) (xss_cons (xs_set (by decide) (fun t h j => ps_set sc__law_kinds.nd rfl (by first | exact .inl rfl | exact .inr rfl) (h j) rfl (by first | exact .inl rfl | exact .inr rfl)) (xe_bin (fun _ => op_addA) prm_add (xb_var fun _ => pv 1) (xb_of (xe_lst (xbs_cons (xb_of (xe_isX (x := "Zero") (fun _ => rfl) (fun _ => rfl) (fun _ => Ev.z_isinstance) (fun _ => rfl) (fun _ => Ev.m_Zero) rfl (xb_var fun _ => pv 0) (kb_sub (l := [("BadLine", A0.C_BadLine), ("BadLists", A0.C_BadLists), ("BadNumber", A0.C_BadNumber), ("BadPoints", A0.C_BadPoints), ("BadPoly", A0.C_BadPoly), ("BadPrime", A0.C_BadPrime), ("BadRoots", A0.C_BadRoots), ("Common", A0.C_Common), ("Flat", A0.C_Flat), ("Rising", A0.C_Rising), ("Zero", A0.C_Zero)]) (bs := [false, false, false, false, false, false, false, false, false, false, true]) Ev.ecs Ev.kb_Zero rfl) (fun _ => rfl) (fun _ => rfl) (fun _ => rfl))) (xbs_cons (xb_of (xe_isX (x := "Flat") (fun _ => rfl) (fun _ => rfl) (fun _ => Ev.z_isinstance) (fun _ => rfl) (fun _ => Ev.m_Flat) rfl (xb_var fun _ => pv 0) (kb_sub (l := [("BadLine", A0.C_BadLine), ("BadLists", A0.C_BadLists), ("BadNumber", A0.C_BadNumber), ("BadPoints", A0.C_BadPoints), ("BadPoly", A0.C_BadPoly), ("BadPrime", A0.C_BadPrime), ("BadRoots", A0.C_BadRoots), ("Common", A0.C_Common), ("Flat", A0.C_Flat), ("Rising", A0.C_Rising), ("Zero", A0.C_Zero)]) (bs := [false, false, false, false, false, false, false, false, true, false, false]) Ev.ecs Ev.kb_Flat rfl) (fun _ => rfl) (fun _ => rfl) (fun _ => rfl))) (xbs_cons (xb_of (xe_isX (x := "Common") (fun _ => rfl) (fun _ => rfl) (fun _ => Ev.z_isinstance) (fun _ => rfl) (fun _ => Ev.m_Common) rfl (xb_var fun _ => pv 0) (kb_sub (l := [("BadLine", A0.C_BadLine), ("BadLists", A0.C_BadLists), ("BadNumber", A0.C_BadNumber), ("BadPoints", A0.C_BadPoints), ("BadPoly", A0.C_BadPoly), ("BadPrime", A0.C_BadPrime), ("BadRoots", A0.C_BadRoots), ("Common", A0.C_Common), ("Flat", A0.C_Flat), ("Rising", A0.C_Rising), ("Zero", A0.C_Zero)]) (bs := [false, false, false, false, false, false, false, true, false, false, false]) Ev.ecs Ev.kb_Common rfl) (fun _ => rfl) (fun _ => rfl) (fun _ => rfl))) (xbs_cons (xb_of (xe_isX (x := "Rising") (fun _ => rfl) (fun _ => rfl) (fun _ => Ev.z_isinstance) (fun _ => rfl) (fun _ => Ev.m_Rising) rfl (xb_var fun _ => pv 0) (kb_sub (l := [("BadLine", A0.C_BadLine), ("BadLists", A0.C_BadLists), ("BadNumber", A0.C_BadNumber), ("BadPoints", A0.C_BadPoints), ("BadPoly", A0.C_BadPoly), ("BadPrime", A0.C_BadPrime), ("BadRoots", A0.C_BadRoots), ("Common", A0.C_Common), ("Flat", A0.C_Flat), ("Rising", A0.C_Rising), ("Zero", A0.C_Zero)]) (bs := [false, false, false, false, false, false, false, false, false, true, false]) Ev.ecs Ev.kb_Rising rfl) (fun _ => rfl) (fun _ => rfl) (fun _ => rfl))) xbs_nil (fun _ => rfl)) (fun _ => rfl)) (fun _ => rfl)) (fun _ => rfl)))))) (xss_one (xs_ret (xe_bin (fun _ => op_addA) prm_add (xb_var fun _ => pv 1) (xb_of (xe_lst (xbs_cons (xb_of (xe_isX (x := "BadPoly") (fun _ => rfl) (fun _ => rfl) (fun _ => Ev.z_isinstance) (fun _ => rfl) (fun _ => Ev.m_BadPoly) rfl (xb_var fun _ => pv 0) (kb_sub (l := [("BadLine", A0.C_BadLine), ("BadLists", A0.C_BadLists), ("BadNumber", A0.C_BadNumber), ("BadPoints", A0.C_BadPoints), ("BadPoly", A0.C_BadPoly), ("BadPrime", A0.C_BadPrime), ("BadRoots", A0.C_BadRoots), ("Common", A0.C_Common), ("Flat", A0.C_Flat), ("Rising", A0.C_Rising), ("Zero", A0.C_Zero)]) (bs := [false, false, false, false, true, false, false, false, false, false, false]) Ev.ecs Ev.kb_BadPoly rfl) (fun _ => rfl) (fun _ => rfl) (fun _ => rfl))) (xbs_cons (xb_of (xe_isX (x := "BadLists") (fun _ => rfl) (fun _ => rfl) (fun _ => Ev.z_isinstance) (fun _ => rfl) (fun _ => Ev.m_BadLists) rfl (xb_var fun _ => pv 0) (kb_sub (l := [("BadLine", A0.C_BadLine), ("BadLists", A0.C_BadLists), ("BadNumber", A0.C_BadNumber), ("BadPoints", A0.C_BadPoints), ("BadPoly", A0.C_BadPoly), ("BadPrime", A0.C_BadPrime), ("BadRoots", A0.C_BadRoots), ("Common", A0.C_Common), ("Flat", A0.C_Flat), ("Rising", A0.C_Rising), ("Zero", A0.C_Zero)]) (bs := [false, true, false, false, false, false, false, false, false, false, false]) Ev.ecs Ev.kb_BadLists rfl) (fun _ => rfl) (fun _ => rfl) (fun _ => rfl))) (xbs_cons (xb_of (xe_isX (x := "BadLine") (fun _ => rfl) (fun _ => rfl) (fun _ => Ev.z_isinstance) (fun _ => rfl) (fun _ => Ev.m_BadLine) rfl (xb_var fun _ => pv 0) (kb_sub (l := [("BadLine", A0.C_BadLine), ("BadLists", A0.C_BadLists), ("BadNumber", A0.C_BadNumber), ("BadPoints", A0.C_BadPoints), ("BadPoly", A0.C_BadPoly), ("BadPrime", A0.C_BadPrime), ("BadRoots", A0.C_BadRoots), ("Common", A0.C_Common), ("Flat", A0.C_Flat), ("Rising", A0.C_Rising), ("Zero", A0.C_Zero)]) (bs := [true, false, false, false, false, false, false, false, false, false, false]) Ev.ecs Ev.kb_BadLine rfl) (fun _ => rfl) (fun _ => rfl) (fun _ => rfl))) xbs_nil (fun _ => rfl)) (fun _ => rfl)) (fun _ => rfl)))))))))
theorem o__law_kinds (Ev : Evd P w K mg base A0) (h : ∀ cs o, m__law_kinds cs = some o → ∃ n out, g__law_kinds n (startR 2 cs) = some out ∧ fin [true] out = some o) : FnOk P w K mg base (L2.CX P w) 1 A0.f__law_kinds A0.d__law_kinds ["_law_e"] (spM ⟨K, mg⟩ 1 m__law_kinds) :=
  def_ok (fl := [true]) (Pk := [0]) Ev.F__law_kinds sc__law_kinds rfl (flB_ok rfl) (by decide) (fun cdv A outer s H E hr => w__law_kinds Ev cdv A outer s H E hr) h
theorem w_law (Ev : Evd P w K mg base A0) (k__law_draws : FnOk P w K mg base (L2.CX P w) 1 A0.f__law_draws A0.d__law_draws ["_law_script"] (spM ⟨K, mg⟩ 1 m__law_draws)) (k__law_pick : FnOk P w K mg base (L2.CX P w) 1 A0.f__law_pick A0.d__law_pick ["_law_row", "_law_many"] (spM ⟨K, mg⟩ 2 m__law_pick)) (k__law_raised : FnOk P w K mg base (L2.CX P w) 9 A0.f__law_raised A0.d__law_raised ["_law_k"] (spM ⟨K, mg⟩ 1 m__law_raised)) (k__law_kinds : FnOk P w K mg base (L2.CX P w) 1 A0.f__law_kinds A0.d__law_kinds ["_law_e"] (spM ⟨K, mg⟩ 1 m__law_kinds)) (cdv : Value) (A : Around) (outer : List Env) (s : Shared) (H : Hp) (E : XK) (hr : Room 9 (A.deeper (envOfC "law" (defScope s_law) s.heap.objs.size A0.f_law cdv))) :
    XSs ⟨K, mg⟩ (fun _ : Unit => cxOf (L2.CX P w) P w K mg base ["_law_script", "_law_row", "_law_k", "_law_found", "_law_j"] "law" (defScope s_law) A0.f_law cdv A outer s H E) (fun cls d _ H => E cls d H) [0] (defBody s_law) g_law :=
  (xss_cons (xs_set (by decide) (fun t h j => ps_set sc_law.nd rfl (by first | exact .inl rfl | exact .inr rfl) (h j) rfl (by first | exact .inl rfl | exact .inr rfl)) (xe_call (fun _ => k__law_draws) (fun _ => hr.mono (by decide)) (fun _ => rfl) (fun _ => Ev.m__law_draws) (fun _ => Ev.F__law_draws.kp) (fun _ => Ev.b__law_draws) (fun _ => takes_of rfl rfl rfl rfl) (xbs_cons (xb_var fun _ => pv 0) xbs_nil (fun _ => rfl)) (len_cons (fun _ _ _ _ => len_nil)) rfl (fun _ => rfl) (fun _ => rfl))) (xss_cons (xs_set (by decide) (fun t h j => ps_set sc_law.nd rfl (by first | exact .inl rfl | exact .inr rfl) (h j) rfl (by first | exact .inl rfl | exact .inr rfl)) (xe_call (fun _ => k__law_pick) (fun _ => hr.mono (by decide)) (fun _ => rfl) (fun _ => Ev.m__law_pick) (fun _ => Ev.F__law_pick.kp) (fun _ => Ev.b__law_pick) (fun _ => takes_of rfl rfl rfl rfl) (xbs_cons (xb_var fun _ => pv 1) (xbs_cons (xb_of xe_int) xbs_nil (fun _ => rfl)) (fun _ => rfl)) (len_cons (len_cons (fun _ _ _ _ => len_nil))) rfl (fun _ => rfl) (fun _ => rfl))) (xss_cons (xs_set (by decide) (fun t h j => ps_set sc_law.nd rfl (by first | exact .inl rfl | exact .inr rfl) (h j) rfl (by first | exact .inl rfl | exact .inr rfl)) (xe_call (fun _ => k__law_raised) (fun _ => hr.mono (by decide)) (fun _ => rfl) (fun _ => Ev.m__law_raised) (fun _ => Ev.F__law_raised.kp) (fun _ => Ev.b__law_raised) (fun _ => takes_of rfl rfl rfl rfl) (xbs_cons (xb_var fun _ => pv 2) xbs_nil (fun _ => rfl)) (len_cons (fun _ _ _ _ => len_nil)) rfl (fun _ => rfl) (fun _ => rfl))) (xss_cons (xs_if (xt_w (xw_or (xt_not (xt_val (xe_isXT (x := "ValueError") (T := "ValueError") (fun _ => rfl) (fun _ => rfl) (fun _ => Ev.z_isinstance) (fun _ => rfl) (fun _ => Ev.z_ValueError) (by decide +kernel) (by decide) rfl (xb_var fun _ => pv 3) (kb_sub (l := [("BadLine", A0.C_BadLine), ("BadLists", A0.C_BadLists), ("BadNumber", A0.C_BadNumber), ("BadPoints", A0.C_BadPoints), ("BadPoly", A0.C_BadPoly), ("BadPrime", A0.C_BadPrime), ("BadRoots", A0.C_BadRoots), ("Common", A0.C_Common), ("Flat", A0.C_Flat), ("Rising", A0.C_Rising), ("Zero", A0.C_Zero)]) (bs := [true, true, true, true, true, true, true, true, true, true, true]) Ev.ecs Ev.kb_ValueError rfl) (fun _ => rfl) (fun _ => rfl) (fun _ => rfl)) (fun _ _ => rfl))) (xw_or1 (xt_cmp (fun _ => op_neD hr.units) prm_ne (xb_of (xe_call (fun _ => k__law_kinds) (fun _ => hr.mono (by decide)) (fun _ => rfl) (fun _ => Ev.m__law_kinds) (fun _ => Ev.F__law_kinds.kp) (fun _ => Ev.b__law_kinds) (fun _ => takes_of rfl rfl rfl rfl) (xbs_cons (xb_var fun _ => pv 3) xbs_nil (fun _ => rfl)) (len_cons (fun _ _ _ _ => len_nil)) rfl (fun _ => rfl) (fun _ => rfl))) (xb_of (xe_lc0 (own := [("_law_j", 4)]) (N := 5) (fun _ => rfl) (fun _ => sc_law.nd) (xi_rng1 (fun _ => rfl) (fun _ => Ev.z_range) (xb_of xe_int) (fun _ => rfl)) (fun _ => blkB_ok rfl) (xg_name (by decide) (fun _ => pg_name sc_law.nd rfl (by first | exact .inl rfl | exact .inr rfl) (by first | exact .inl rfl | exact .inr rfl))) (xb_of (xe_cmp (fun _ => op_eqD hr.units) prm_eq (xb_var fun _ => pv 2) (xb_var fun _ => pv 4) (nomark _))) (fun _ _ => rfl))) (nomark _))))) (xss_one (xs_ret xe_bool)) xss_nil) (xss_cons (xs_if (xt_w (xw_and (xt_cmp (fun _ => op_inA (u65 hr)) prm_in (xb_var fun _ => pv 2) (xb_of (xe_lst (xbs_cons (xb_of xe_int) (xbs_cons (xb_of xe_int) xbs_nil (fun _ => rfl)) (fun _ => rfl)))) rfl) (xw_and1 (xt_cmp (fun _ => op_neD hr.units) prm_ne (xb_of (xe_xfld (fun _ => rfl) (tbf_ok (tbf_c ⟨_, Ev.m_BadLists, Ev.xf_BadLists, Ev.nf_BadLists_index⟩ (tbf_c ⟨_, Ev.m_BadPoly, Ev.xf_BadPoly, Ev.nf_BadPoly_index⟩ (fun _ z => (List.not_mem_nil z).elim)))) (xb_var fun _ => pv 3) (fun _ => rfl))) (xb_of (xe_ixD (fun _ => u1 hr) (xb_of (xe_dct2c (by decide) (fun _ => pe_int) (fun _ => pe_int) (fun _ => pe_int) (fun _ => pe_non) (fun _ => .int _) (fun _ => .non))) (xb_var fun _ => pv 2) (fun _ _ => rfl))) (nomark _))))) (xss_one (xs_ret xe_bool)) xss_nil) (xss_one (xs_ret (xe_or (xe_cmp (fun _ => op_neD hr.units) prm_ne (xb_var fun _ => pv 2) (xb_of xe_int) (nomark _)) (xe_one (xe_cmp (fun _ => op_eqD hr.units) prm_eq (xb_of (xe_tup (xbs_cons (xb_of (xe_xfld (fun _ => rfl) (tbf_ok (tbf_c ⟨_, Ev.m_BadLine, Ev.xf_BadLine, Ev.nf_BadLine_line⟩ (fun _ z => (List.not_mem_nil z).elim))) (xb_var fun _ => pv 3) (fun _ => rfl))) (xbs_cons (xb_of (xe_xfld (fun _ => rfl) (tbf_ok (tbf_c ⟨_, Ev.m_BadLine, Ev.xf_BadLine, Ev.nf_BadLine_word⟩ (fun _ z => (List.not_mem_nil z).elim))) (xb_var fun _ => pv 3) (fun _ => rfl))) xbs_nil (fun _ => rfl)) (fun _ => rfl)))) (xb_of (xe_tup (xbs_cons (xb_of xe_int) (xbs_cons (xb_of xe_int) xbs_nil (fun _ => rfl)) (fun _ => rfl)))) (nomark _)))))))))))
theorem o_law (Ev : Evd P w K mg base A0) (k__law_draws : FnOk P w K mg base (L2.CX P w) 1 A0.f__law_draws A0.d__law_draws ["_law_script"] (spM ⟨K, mg⟩ 1 m__law_draws)) (k__law_pick : FnOk P w K mg base (L2.CX P w) 1 A0.f__law_pick A0.d__law_pick ["_law_row", "_law_many"] (spM ⟨K, mg⟩ 2 m__law_pick)) (k__law_raised : FnOk P w K mg base (L2.CX P w) 9 A0.f__law_raised A0.d__law_raised ["_law_k"] (spM ⟨K, mg⟩ 1 m__law_raised)) (k__law_kinds : FnOk P w K mg base (L2.CX P w) 1 A0.f__law_kinds A0.d__law_kinds ["_law_e"] (spM ⟨K, mg⟩ 1 m__law_kinds)) (h : ∀ cs o, m_law cs = some o → ∃ n out, g_law n (startR 5 cs) = some out ∧ fin [true] out = some o) : FnOk P w K mg base (L2.CX P w) 10 A0.f_law A0.d_law ["_law_script"] (spM ⟨K, mg⟩ 1 m_law) :=
  def_ok (fl := [true]) (Pk := [0]) Ev.F_law sc_law rfl (flB_ok rfl) (by decide) (fun cdv A outer s H E hr => w_law Ev k__law_draws k__law_pick k__law_raised k__law_kinds cdv A outer s H E hr) h
end
end L3

namespace L3
open PySem PySem.Spec L2 PyProof.Rows
def clsInit (s : Stmt) : Stmt := match s with
  | .ClassDef (body := b :: _) .. => b
  | _ => s
theorem mem_c {α : Type} {p : α → Prop} {x : α} {l : List α} (h : p x) (r : ∀ y ∈ l, p y) : ∀ y ∈ x :: l, p y := fun y hy => by
  rcases List.mem_cons.mp hy with e | hy
  · rw [e]; exact h
  · exact r y hy
/-- the law's promise: true for every script -/
def spLaw (K : PySem.W.Frag) : Sp := fun vs H Q _ => ∃ (a : Addr) (ns : List Int), vs = [.ref a] ∧ SqL K H a (ns.map V.int) ∧ ∀ H', Q (.bl true) H'
theorem sp_law {G : Gd} {m : Mr} {vs : List V} {H : Hp} {Q : VK} {E : XK} (h : spLaw G.K vs H Q E) (hm : ∀ ns : List Int, ∃ outs, m [.fz (.list (zs ns))] = some (.ok (.b true) outs)) : spM G 1 m vs H Q E := by
  obtain ⟨a, ns, rfl, hS, q⟩ := h
  obtain ⟨outs, e⟩ := hm ns
  refine ⟨rfl, [.fz (.list (zs ns))], H, [], _, rfl, ⟨Same.refl _, [], .nil, ?_⟩, e, fun F' H' v s hr => ?_⟩
  · exact .cons (A := []) (.fz (.lst hS (RpA.of_ints ns))) .nil
  · have r := hr.rp
    cases r
    exact q H'
theorem cx_no {P : Program} {w : World} {outer : List Env} {H : Hp} {s s' : Shared} {u : Value} (h : L2.CX P w outer H s (fun _ _ _ => False) u s') : False := by
  obtain ⟨_, _, _, _, _, _, _, _, _, _, _, _, z⟩ := h
  exact z
end L3

namespace L3
open PySem PySem.Spec L2 PyProof.Rows
section
variable {P : Program} {w : World} {K : PySem.W.Frag} {mg : Str → Option Value} {base : Heap} {A0 : Ad}
theorem ok_all (Ev : Evd P w K mg base A0) : FnOk P w K mg base (L2.CX P w) 10 A0.f_law A0.d_law ["_law_script"] (spM ⟨K, mg⟩ 1 m_law) := by
  have k_check_rests := ok_none (P := P) (w := w) (base := base) (CX := L2.CX P w) (mg := mg) (k := 2) Ev.F_check_rests (ps := ["prime", "value"]) (np := 2) (G := ⟨K, mg⟩) rfl
  have k_roots_by := ok_none (P := P) (w := w) (base := base) (CX := L2.CX P w) (mg := mg) (k := 2) Ev.F_roots_by (ps := ["prime", "one"]) (np := 2) (G := ⟨K, mg⟩) rfl
  have k_reduced := ok_none (P := P) (w := w) (base := base) (CX := L2.CX P w) (mg := mg) (k := 2) Ev.F_reduced (ps := ["one", "number"]) (np := 2) (G := ⟨K, mg⟩) rfl
  have k_power_of := ok_none (P := P) (w := w) (base := base) (CX := L2.CX P w) (mg := mg) (k := 2) Ev.F_power_of (ps := ["one", "many"]) (np := 2) (G := ⟨K, mg⟩) rfl
  have k_many_roots := ok_none (P := P) (w := w) (base := base) (CX := L2.CX P w) (mg := mg) (k := 2) Ev.F_many_roots (ps := ["one"]) (np := 1) (G := ⟨K, mg⟩) rfl
  have k_tree_of := ok_none (P := P) (w := w) (base := base) (CX := L2.CX P w) (mg := mg) (k := 2) Ev.F_tree_of (ps := ["one", "other"]) (np := 2) (G := ⟨K, mg⟩) rfl
  have k__law_draws := o__law_draws Ev h__law_draws
  have k__law_pick := o__law_pick Ev h__law_pick
  have k_is_from := o_is_from Ev h_is_from
  have k_check_prime := o_check_prime Ev k_is_from h_check_prime
  have k_unlike_by := o_unlike_by Ev k_check_prime k_check_rests k_roots_by h_unlike_by
  have k_check_power := o_check_power Ev k_is_from h_check_power
  have k_barred := o_barred Ev k_check_power h_barred
  have k_is_point := o_is_point Ev k_is_from h_is_point
  have k_check_points := o_check_points Ev k_is_point h_check_points
  have k_trimmed := o_trimmed Ev h_trimmed
  have k_plus_of := o_plus_of Ev k_trimmed h_plus_of
  have k_scaled := o_scaled Ev k_trimmed h_scaled
  have k_times_of := o_times_of Ev k_trimmed h_times_of
  have k_through := o_through Ev k_check_points k_times_of k_plus_of k_scaled k_reduced h_through
  have k_is_root := o_is_root Ev k_is_from h_is_root
  have k_by_roots := o_by_roots Ev k_is_root k_times_of k_power_of h_by_roots
  have k_check_poly := o_check_poly Ev k_is_from h_check_poly
  have k_check_zero := o_check_zero Ev h_check_zero
  have k_unlike := o_unlike Ev k_check_poly k_check_zero k_many_roots h_unlike
  have k_divisor := o_divisor Ev h_divisor
  have k_plain := o_plain Ev k_divisor h_plain
  have k_less_of := o_less_of Ev k_plus_of k_scaled h_less_of
  have k_left_over := o_left_over Ev k_less_of k_scaled h_left_over
  have k_common_of := o_common_of Ev k_plain k_left_over h_common_of
  have k_check_sum := o_check_sum Ev k_check_poly k_plus_of k_common_of h_check_sum
  have k_measure := o_measure Ev k_check_sum k_plus_of k_many_roots h_measure
  have k_Desk_step := o_Desk_step Ev h_Desk_step
  have k_Desk_stretch := o_Desk_stretch Ev k_is_from k_Desk_step k_scaled h_Desk_stretch
  have k_plus := o_plus Ev k_check_poly k_plus_of h_plus
  have k_Desk___init__ := o_Desk___init__ Ev k_check_sum h_Desk___init__
  have k_is_list := o_is_list Ev k_is_from h_is_list
  have k_check_lists := o_check_lists Ev k_is_list h_check_lists
  have k_tree := o_tree Ev k_check_lists k_tree_of h_tree
  have k_is_whole := o_is_whole Ev h_is_whole
  have k_poly_in := o_poly_in Ev k_is_whole h_poly_in
  have k_read := o_read Ev k_poly_in h_read
  have k__law_raised := o__law_raised Ev k_unlike_by k_barred k_through k_by_roots k_unlike k_measure k_Desk_stretch k_Desk___init__ k_plus k_tree k_read h__law_raised
  have k__law_kinds := o__law_kinds Ev h__law_kinds
  have k_law := o_law Ev k__law_draws k__law_pick k__law_raised k__law_kinds h_law
  exact k_law
abbrev si_BadLine : Stmt := clsInit (topS 13)
theorem sci_BadLine : FnScope ["self", "line", "word"] ["self", "line", "word"] (defScope si_BadLine) := ⟨rfl, rfl, rfl, by decide +kernel, rfl, by decide +kernel, by decide +kernel⟩
abbrev si_BadLists : Stmt := clsInit (topS 12)
theorem sci_BadLists : FnScope ["self", "index"] ["self", "index"] (defScope si_BadLists) := ⟨rfl, rfl, rfl, by decide +kernel, rfl, by decide +kernel, by decide +kernel⟩
abbrev si_BadPoly : Stmt := clsInit (topS 11)
theorem sci_BadPoly : FnScope ["self", "index"] ["self", "index"] (defScope si_BadPoly) := ⟨rfl, rfl, rfl, by decide +kernel, rfl, by decide +kernel, by decide +kernel⟩
end
set_option maxHeartbeats 0 in
theorem all_mk {P : Program} {w : World} {K : PySem.W.Frag} {h : Heap} {mg : Str → Option Value} {fa : Addr} (X : K.In h) (G : h.Ns mainGlobals mg) (hfa : mg "law" = some (.ref fa))
    {C_Desk : Addr}
    {f_check_rests : Addr} {od_check_rests an_check_rests : Option Addr} {sl_check_rests : Array (Option Value)} {oc_check_rests kV_check_rests dc_check_rests pm_check_rests cd_check_rests ct_check_rests : Value}
    {f_roots_by : Addr} {od_roots_by an_roots_by : Option Addr} {sl_roots_by : Array (Option Value)} {oc_roots_by kV_roots_by dc_roots_by pm_roots_by cd_roots_by ct_roots_by : Value}
    {f_reduced : Addr} {od_reduced an_reduced : Option Addr} {sl_reduced : Array (Option Value)} {oc_reduced kV_reduced dc_reduced pm_reduced cd_reduced ct_reduced : Value}
    {f_power_of : Addr} {od_power_of an_power_of : Option Addr} {sl_power_of : Array (Option Value)} {oc_power_of kV_power_of dc_power_of pm_power_of cd_power_of ct_power_of : Value}
    {f_many_roots : Addr} {od_many_roots an_many_roots : Option Addr} {sl_many_roots : Array (Option Value)} {oc_many_roots kV_many_roots dc_many_roots pm_many_roots cd_many_roots ct_many_roots : Value}
    {f_tree_of : Addr} {od_tree_of an_tree_of : Option Addr} {sl_tree_of : Array (Option Value)} {oc_tree_of kV_tree_of dc_tree_of pm_tree_of cd_tree_of ct_tree_of : Value}
    {f__law_draws : Addr} {od__law_draws an__law_draws : Option Addr} {sl__law_draws : Array (Option Value)} {oc__law_draws kV__law_draws dc__law_draws pm__law_draws cd__law_draws ct__law_draws : Value}
    {f__law_pick : Addr} {od__law_pick an__law_pick : Option Addr} {sl__law_pick : Array (Option Value)} {oc__law_pick kV__law_pick dc__law_pick pm__law_pick cd__law_pick ct__law_pick : Value}
    {f_is_from : Addr} {od_is_from an_is_from : Option Addr} {sl_is_from : Array (Option Value)} {oc_is_from kV_is_from dc_is_from pm_is_from cd_is_from ct_is_from : Value}
    {f_check_prime : Addr} {od_check_prime an_check_prime : Option Addr} {sl_check_prime : Array (Option Value)} {oc_check_prime kV_check_prime dc_check_prime pm_check_prime cd_check_prime ct_check_prime : Value}
    {f_unlike_by : Addr} {od_unlike_by an_unlike_by : Option Addr} {sl_unlike_by : Array (Option Value)} {oc_unlike_by kV_unlike_by dc_unlike_by pm_unlike_by cd_unlike_by ct_unlike_by : Value}
    {f_check_power : Addr} {od_check_power an_check_power : Option Addr} {sl_check_power : Array (Option Value)} {oc_check_power kV_check_power dc_check_power pm_check_power cd_check_power ct_check_power : Value}
    {f_barred : Addr} {od_barred an_barred : Option Addr} {sl_barred : Array (Option Value)} {oc_barred kV_barred dc_barred pm_barred cd_barred ct_barred : Value}
    {f_is_point : Addr} {od_is_point an_is_point : Option Addr} {sl_is_point : Array (Option Value)} {oc_is_point kV_is_point dc_is_point pm_is_point cd_is_point ct_is_point : Value}
    {f_check_points : Addr} {od_check_points an_check_points : Option Addr} {sl_check_points : Array (Option Value)} {oc_check_points kV_check_points dc_check_points pm_check_points cd_check_points ct_check_points : Value}
    {f_trimmed : Addr} {od_trimmed an_trimmed : Option Addr} {sl_trimmed : Array (Option Value)} {oc_trimmed kV_trimmed dc_trimmed pm_trimmed cd_trimmed ct_trimmed : Value}
    {f_plus_of : Addr} {od_plus_of an_plus_of : Option Addr} {sl_plus_of : Array (Option Value)} {oc_plus_of kV_plus_of dc_plus_of pm_plus_of cd_plus_of ct_plus_of : Value}
    {f_scaled : Addr} {od_scaled an_scaled : Option Addr} {sl_scaled : Array (Option Value)} {oc_scaled kV_scaled dc_scaled pm_scaled cd_scaled ct_scaled : Value}
    {f_times_of : Addr} {od_times_of an_times_of : Option Addr} {sl_times_of : Array (Option Value)} {oc_times_of kV_times_of dc_times_of pm_times_of cd_times_of ct_times_of : Value}
    {f_through : Addr} {od_through an_through : Option Addr} {sl_through : Array (Option Value)} {oc_through kV_through dc_through pm_through cd_through ct_through : Value}
    {f_is_root : Addr} {od_is_root an_is_root : Option Addr} {sl_is_root : Array (Option Value)} {oc_is_root kV_is_root dc_is_root pm_is_root cd_is_root ct_is_root : Value}
    {f_by_roots : Addr} {od_by_roots an_by_roots : Option Addr} {sl_by_roots : Array (Option Value)} {oc_by_roots kV_by_roots dc_by_roots pm_by_roots cd_by_roots ct_by_roots : Value}
    {f_check_poly : Addr} {od_check_poly an_check_poly : Option Addr} {sl_check_poly : Array (Option Value)} {oc_check_poly kV_check_poly dc_check_poly pm_check_poly cd_check_poly ct_check_poly : Value}
    {f_check_zero : Addr} {od_check_zero an_check_zero : Option Addr} {sl_check_zero : Array (Option Value)} {oc_check_zero kV_check_zero dc_check_zero pm_check_zero cd_check_zero ct_check_zero : Value}
    {f_unlike : Addr} {od_unlike an_unlike : Option Addr} {sl_unlike : Array (Option Value)} {oc_unlike kV_unlike dc_unlike pm_unlike cd_unlike ct_unlike : Value}
    {f_divisor : Addr} {od_divisor an_divisor : Option Addr} {sl_divisor : Array (Option Value)} {oc_divisor kV_divisor dc_divisor pm_divisor cd_divisor ct_divisor : Value}
    {f_plain : Addr} {od_plain an_plain : Option Addr} {sl_plain : Array (Option Value)} {oc_plain kV_plain dc_plain pm_plain cd_plain ct_plain : Value}
    {f_less_of : Addr} {od_less_of an_less_of : Option Addr} {sl_less_of : Array (Option Value)} {oc_less_of kV_less_of dc_less_of pm_less_of cd_less_of ct_less_of : Value}
    {f_left_over : Addr} {od_left_over an_left_over : Option Addr} {sl_left_over : Array (Option Value)} {oc_left_over kV_left_over dc_left_over pm_left_over cd_left_over ct_left_over : Value}
    {f_common_of : Addr} {od_common_of an_common_of : Option Addr} {sl_common_of : Array (Option Value)} {oc_common_of kV_common_of dc_common_of pm_common_of cd_common_of ct_common_of : Value}
    {f_check_sum : Addr} {od_check_sum an_check_sum : Option Addr} {sl_check_sum : Array (Option Value)} {oc_check_sum kV_check_sum dc_check_sum pm_check_sum cd_check_sum ct_check_sum : Value}
    {f_measure : Addr} {od_measure an_measure : Option Addr} {sl_measure : Array (Option Value)} {oc_measure kV_measure dc_measure pm_measure cd_measure ct_measure : Value}
    {f_Desk_step : Addr} {od_Desk_step an_Desk_step : Option Addr} {sl_Desk_step : Array (Option Value)} {oc_Desk_step kV_Desk_step dc_Desk_step pm_Desk_step cd_Desk_step ct_Desk_step : Value}
    {f_Desk_stretch : Addr} {od_Desk_stretch an_Desk_stretch : Option Addr} {sl_Desk_stretch : Array (Option Value)} {oc_Desk_stretch kV_Desk_stretch dc_Desk_stretch pm_Desk_stretch cd_Desk_stretch ct_Desk_stretch : Value}
    {f_plus : Addr} {od_plus an_plus : Option Addr} {sl_plus : Array (Option Value)} {oc_plus kV_plus dc_plus pm_plus cd_plus ct_plus : Value}
    {f_Desk___init__ : Addr} {od_Desk___init__ an_Desk___init__ : Option Addr} {sl_Desk___init__ : Array (Option Value)} {oc_Desk___init__ kV_Desk___init__ dc_Desk___init__ pm_Desk___init__ cd_Desk___init__ ct_Desk___init__ : Value}
    {f_is_list : Addr} {od_is_list an_is_list : Option Addr} {sl_is_list : Array (Option Value)} {oc_is_list kV_is_list dc_is_list pm_is_list cd_is_list ct_is_list : Value}
    {f_check_lists : Addr} {od_check_lists an_check_lists : Option Addr} {sl_check_lists : Array (Option Value)} {oc_check_lists kV_check_lists dc_check_lists pm_check_lists cd_check_lists ct_check_lists : Value}
    {f_tree : Addr} {od_tree an_tree : Option Addr} {sl_tree : Array (Option Value)} {oc_tree kV_tree dc_tree pm_tree cd_tree ct_tree : Value}
    {f_is_whole : Addr} {od_is_whole an_is_whole : Option Addr} {sl_is_whole : Array (Option Value)} {oc_is_whole kV_is_whole dc_is_whole pm_is_whole cd_is_whole ct_is_whole : Value}
    {f_poly_in : Addr} {od_poly_in an_poly_in : Option Addr} {sl_poly_in : Array (Option Value)} {oc_poly_in kV_poly_in dc_poly_in pm_poly_in cd_poly_in ct_poly_in : Value}
    {f_read : Addr} {od_read an_read : Option Addr} {sl_read : Array (Option Value)} {oc_read kV_read dc_read pm_read cd_read ct_read : Value}
    {f__law_raised : Addr} {od__law_raised an__law_raised : Option Addr} {sl__law_raised : Array (Option Value)} {oc__law_raised kV__law_raised dc__law_raised pm__law_raised cd__law_raised ct__law_raised : Value}
    {f__law_kinds : Addr} {od__law_kinds an__law_kinds : Option Addr} {sl__law_kinds : Array (Option Value)} {oc__law_kinds kV__law_kinds dc__law_kinds pm__law_kinds cd__law_kinds ct__law_kinds : Value}
    {f_law : Addr} {od_law an_law : Option Addr} {sl_law : Array (Option Value)} {oc_law kV_law dc_law pm_law cd_law ct_law : Value}
    {t_DIGITS : Tok}
    {t_FAR : Tok}
    {t_MOST_FIGURES : Tok}
    {t_MOST_HEIGHT : Tok}
    {t_MOST_LIST : Tok}
    {t_MOST_PLACE : Tok}
    {t_MOST_POINTS : Tok}
    {t_MOST_POWER : Tok}
    {t_MOST_ROOT : Tok}
    {t_MOST_STRETCH : Tok}
    {t_MOST_TERMS : Tok}
    {t_MOST_TIMES : Tok}
    {t_POLY : Tok}
    {t_PRIMES : Addr} {od_PRIMES : Option Addr} {sl_PRIMES : Array (Option Value)} {n_PRIMES : Nat} {k0_PRIMES k1_PRIMES k2_PRIMES k3_PRIMES k4_PRIMES k5_PRIMES k6_PRIMES k7_PRIMES k8_PRIMES k9_PRIMES k10_PRIMES : Tok}
    {C_BadLine : Addr}
    {fi_BadLine : Addr} {odi_BadLine ani_BadLine : Option Addr} {sli_BadLine : Array (Option Value)} {oci_BadLine kVi_BadLine dci_BadLine pmi_BadLine cdi_BadLine cti_BadLine : Value} {nm_BadLine q_BadLine : Str} {N_BadLine : Addr} {bs_BadLine bm_BadLine : List Value} {sn_BadLine : List Str} {sub_BadLine : List Value} {ab_BadLine : Bool} {col_BadLine : Option Bool} {dd_BadLine : Option Addr} {m0_BadLine m1_BadLine m2_BadLine m3_BadLine m5_BadLine : Option Value}
    {C_BadLists : Addr}
    {fi_BadLists : Addr} {odi_BadLists ani_BadLists : Option Addr} {sli_BadLists : Array (Option Value)} {oci_BadLists kVi_BadLists dci_BadLists pmi_BadLists cdi_BadLists cti_BadLists : Value} {nm_BadLists q_BadLists : Str} {N_BadLists : Addr} {bs_BadLists bm_BadLists : List Value} {sn_BadLists : List Str} {sub_BadLists : List Value} {ab_BadLists : Bool} {col_BadLists : Option Bool} {dd_BadLists : Option Addr} {m0_BadLists m1_BadLists m2_BadLists m3_BadLists m5_BadLists : Option Value}
    {C_BadNumber : Addr}
    {C_BadPoints : Addr}
    {C_BadPoly : Addr}
    {fi_BadPoly : Addr} {odi_BadPoly ani_BadPoly : Option Addr} {sli_BadPoly : Array (Option Value)} {oci_BadPoly kVi_BadPoly dci_BadPoly pmi_BadPoly cdi_BadPoly cti_BadPoly : Value} {nm_BadPoly q_BadPoly : Str} {N_BadPoly : Addr} {bs_BadPoly bm_BadPoly : List Value} {sn_BadPoly : List Str} {sub_BadPoly : List Value} {ab_BadPoly : Bool} {col_BadPoly : Option Bool} {dd_BadPoly : Option Addr} {m0_BadPoly m1_BadPoly m2_BadPoly m3_BadPoly m5_BadPoly : Option Value}
    {C_BadPrime : Addr}
    {C_BadRoots : Addr}
    {C_Common : Addr}
    {C_Flat : Addr}
    {C_Rising : Addr}
    {C_RootError : Addr}
    {C_Zero : Addr}
    (aC_Desk : PySem.W.nsIn K mainGlobals "Desk" = some (some (.ref C_Desk)))
    (pg_Desk : PySem.W.plainGet K C_Desk Str.empty = true)
    (hd_Desk : PySem.W.hasDictIn K C_Desk = true)
    (po_Desk : PySem.W.plainOver K C_Desk = true)
    (sa_Desk : PySem.W.findIn K (.ref C_Desk) "__setattr__" = some (some (.builtin "object.__setattr__")))
    (mx_Desk : PySem.W.makesIn K C_Desk = true)
    (kpc_Desk : PySem.W.keepIn K (.ref C_Desk) = true)
    (na_Desk_rows : PySem.W.findIn K (.ref C_Desk) "rows" = some none)
    (a_check_rests : PySem.W.nsIn K mainGlobals "check_rests" = some (some (.ref f_check_rests)))
    (l_check_rests : K.lookup f_check_rests = some ⟨oc_check_rests, od_check_rests, .func (PySem.W.fnOf "check_rests" "check_rests" (defArgs s_check_rests) (defBody s_check_rests) (defScope s_check_rests) .none kV_check_rests dc_check_rests pm_check_rests an_check_rests cd_check_rests ct_check_rests), sl_check_rests⟩)
    (c_check_rests : PySem.W.codeIn K cd_check_rests "check_rests" = true)
    (k_check_rests : PySem.W.keepIn K (.ref f_check_rests) = true)
    (a_roots_by : PySem.W.nsIn K mainGlobals "roots_by" = some (some (.ref f_roots_by)))
    (l_roots_by : K.lookup f_roots_by = some ⟨oc_roots_by, od_roots_by, .func (PySem.W.fnOf "roots_by" "roots_by" (defArgs s_roots_by) (defBody s_roots_by) (defScope s_roots_by) .none kV_roots_by dc_roots_by pm_roots_by an_roots_by cd_roots_by ct_roots_by), sl_roots_by⟩)
    (c_roots_by : PySem.W.codeIn K cd_roots_by "roots_by" = true)
    (k_roots_by : PySem.W.keepIn K (.ref f_roots_by) = true)
    (a_reduced : PySem.W.nsIn K mainGlobals "reduced" = some (some (.ref f_reduced)))
    (l_reduced : K.lookup f_reduced = some ⟨oc_reduced, od_reduced, .func (PySem.W.fnOf "reduced" "reduced" (defArgs s_reduced) (defBody s_reduced) (defScope s_reduced) .none kV_reduced dc_reduced pm_reduced an_reduced cd_reduced ct_reduced), sl_reduced⟩)
    (c_reduced : PySem.W.codeIn K cd_reduced "reduced" = true)
    (k_reduced : PySem.W.keepIn K (.ref f_reduced) = true)
    (a_power_of : PySem.W.nsIn K mainGlobals "power_of" = some (some (.ref f_power_of)))
    (l_power_of : K.lookup f_power_of = some ⟨oc_power_of, od_power_of, .func (PySem.W.fnOf "power_of" "power_of" (defArgs s_power_of) (defBody s_power_of) (defScope s_power_of) .none kV_power_of dc_power_of pm_power_of an_power_of cd_power_of ct_power_of), sl_power_of⟩)
    (c_power_of : PySem.W.codeIn K cd_power_of "power_of" = true)
    (k_power_of : PySem.W.keepIn K (.ref f_power_of) = true)
    (a_many_roots : PySem.W.nsIn K mainGlobals "many_roots" = some (some (.ref f_many_roots)))
    (l_many_roots : K.lookup f_many_roots = some ⟨oc_many_roots, od_many_roots, .func (PySem.W.fnOf "many_roots" "many_roots" (defArgs s_many_roots) (defBody s_many_roots) (defScope s_many_roots) .none kV_many_roots dc_many_roots pm_many_roots an_many_roots cd_many_roots ct_many_roots), sl_many_roots⟩)
    (c_many_roots : PySem.W.codeIn K cd_many_roots "many_roots" = true)
    (k_many_roots : PySem.W.keepIn K (.ref f_many_roots) = true)
    (a_tree_of : PySem.W.nsIn K mainGlobals "tree_of" = some (some (.ref f_tree_of)))
    (l_tree_of : K.lookup f_tree_of = some ⟨oc_tree_of, od_tree_of, .func (PySem.W.fnOf "tree_of" "tree_of" (defArgs s_tree_of) (defBody s_tree_of) (defScope s_tree_of) .none kV_tree_of dc_tree_of pm_tree_of an_tree_of cd_tree_of ct_tree_of), sl_tree_of⟩)
    (c_tree_of : PySem.W.codeIn K cd_tree_of "tree_of" = true)
    (k_tree_of : PySem.W.keepIn K (.ref f_tree_of) = true)
    (a__law_draws : PySem.W.nsIn K mainGlobals "_law_draws" = some (some (.ref f__law_draws)))
    (l__law_draws : K.lookup f__law_draws = some ⟨oc__law_draws, od__law_draws, .func (PySem.W.fnOf "_law_draws" "_law_draws" (defArgs s__law_draws) (defBody s__law_draws) (defScope s__law_draws) .none kV__law_draws dc__law_draws pm__law_draws an__law_draws cd__law_draws ct__law_draws), sl__law_draws⟩)
    (c__law_draws : PySem.W.codeIn K cd__law_draws "_law_draws" = true)
    (k__law_draws : PySem.W.keepIn K (.ref f__law_draws) = true)
    (a__law_pick : PySem.W.nsIn K mainGlobals "_law_pick" = some (some (.ref f__law_pick)))
    (l__law_pick : K.lookup f__law_pick = some ⟨oc__law_pick, od__law_pick, .func (PySem.W.fnOf "_law_pick" "_law_pick" (defArgs s__law_pick) (defBody s__law_pick) (defScope s__law_pick) .none kV__law_pick dc__law_pick pm__law_pick an__law_pick cd__law_pick ct__law_pick), sl__law_pick⟩)
    (c__law_pick : PySem.W.codeIn K cd__law_pick "_law_pick" = true)
    (k__law_pick : PySem.W.keepIn K (.ref f__law_pick) = true)
    (a_is_from : PySem.W.nsIn K mainGlobals "is_from" = some (some (.ref f_is_from)))
    (l_is_from : K.lookup f_is_from = some ⟨oc_is_from, od_is_from, .func (PySem.W.fnOf "is_from" "is_from" (defArgs s_is_from) (defBody s_is_from) (defScope s_is_from) .none kV_is_from dc_is_from pm_is_from an_is_from cd_is_from ct_is_from), sl_is_from⟩)
    (c_is_from : PySem.W.codeIn K cd_is_from "is_from" = true)
    (k_is_from : PySem.W.keepIn K (.ref f_is_from) = true)
    (a_check_prime : PySem.W.nsIn K mainGlobals "check_prime" = some (some (.ref f_check_prime)))
    (l_check_prime : K.lookup f_check_prime = some ⟨oc_check_prime, od_check_prime, .func (PySem.W.fnOf "check_prime" "check_prime" (defArgs s_check_prime) (defBody s_check_prime) (defScope s_check_prime) .none kV_check_prime dc_check_prime pm_check_prime an_check_prime cd_check_prime ct_check_prime), sl_check_prime⟩)
    (c_check_prime : PySem.W.codeIn K cd_check_prime "check_prime" = true)
    (k_check_prime : PySem.W.keepIn K (.ref f_check_prime) = true)
    (a_unlike_by : PySem.W.nsIn K mainGlobals "unlike_by" = some (some (.ref f_unlike_by)))
    (l_unlike_by : K.lookup f_unlike_by = some ⟨oc_unlike_by, od_unlike_by, .func (PySem.W.fnOf "unlike_by" "unlike_by" (defArgs s_unlike_by) (defBody s_unlike_by) (defScope s_unlike_by) .none kV_unlike_by dc_unlike_by pm_unlike_by an_unlike_by cd_unlike_by ct_unlike_by), sl_unlike_by⟩)
    (c_unlike_by : PySem.W.codeIn K cd_unlike_by "unlike_by" = true)
    (k_unlike_by : PySem.W.keepIn K (.ref f_unlike_by) = true)
    (a_check_power : PySem.W.nsIn K mainGlobals "check_power" = some (some (.ref f_check_power)))
    (l_check_power : K.lookup f_check_power = some ⟨oc_check_power, od_check_power, .func (PySem.W.fnOf "check_power" "check_power" (defArgs s_check_power) (defBody s_check_power) (defScope s_check_power) .none kV_check_power dc_check_power pm_check_power an_check_power cd_check_power ct_check_power), sl_check_power⟩)
    (c_check_power : PySem.W.codeIn K cd_check_power "check_power" = true)
    (k_check_power : PySem.W.keepIn K (.ref f_check_power) = true)
    (a_barred : PySem.W.nsIn K mainGlobals "barred" = some (some (.ref f_barred)))
    (l_barred : K.lookup f_barred = some ⟨oc_barred, od_barred, .func (PySem.W.fnOf "barred" "barred" (defArgs s_barred) (defBody s_barred) (defScope s_barred) .none kV_barred dc_barred pm_barred an_barred cd_barred ct_barred), sl_barred⟩)
    (c_barred : PySem.W.codeIn K cd_barred "barred" = true)
    (k_barred : PySem.W.keepIn K (.ref f_barred) = true)
    (a_is_point : PySem.W.nsIn K mainGlobals "is_point" = some (some (.ref f_is_point)))
    (l_is_point : K.lookup f_is_point = some ⟨oc_is_point, od_is_point, .func (PySem.W.fnOf "is_point" "is_point" (defArgs s_is_point) (defBody s_is_point) (defScope s_is_point) .none kV_is_point dc_is_point pm_is_point an_is_point cd_is_point ct_is_point), sl_is_point⟩)
    (c_is_point : PySem.W.codeIn K cd_is_point "is_point" = true)
    (k_is_point : PySem.W.keepIn K (.ref f_is_point) = true)
    (a_check_points : PySem.W.nsIn K mainGlobals "check_points" = some (some (.ref f_check_points)))
    (l_check_points : K.lookup f_check_points = some ⟨oc_check_points, od_check_points, .func (PySem.W.fnOf "check_points" "check_points" (defArgs s_check_points) (defBody s_check_points) (defScope s_check_points) .none kV_check_points dc_check_points pm_check_points an_check_points cd_check_points ct_check_points), sl_check_points⟩)
    (c_check_points : PySem.W.codeIn K cd_check_points "check_points" = true)
    (k_check_points : PySem.W.keepIn K (.ref f_check_points) = true)
    (a_trimmed : PySem.W.nsIn K mainGlobals "trimmed" = some (some (.ref f_trimmed)))
    (l_trimmed : K.lookup f_trimmed = some ⟨oc_trimmed, od_trimmed, .func (PySem.W.fnOf "trimmed" "trimmed" (defArgs s_trimmed) (defBody s_trimmed) (defScope s_trimmed) .none kV_trimmed dc_trimmed pm_trimmed an_trimmed cd_trimmed ct_trimmed), sl_trimmed⟩)
    (c_trimmed : PySem.W.codeIn K cd_trimmed "trimmed" = true)
    (k_trimmed : PySem.W.keepIn K (.ref f_trimmed) = true)
    (a_plus_of : PySem.W.nsIn K mainGlobals "plus_of" = some (some (.ref f_plus_of)))
    (l_plus_of : K.lookup f_plus_of = some ⟨oc_plus_of, od_plus_of, .func (PySem.W.fnOf "plus_of" "plus_of" (defArgs s_plus_of) (defBody s_plus_of) (defScope s_plus_of) .none kV_plus_of dc_plus_of pm_plus_of an_plus_of cd_plus_of ct_plus_of), sl_plus_of⟩)
    (c_plus_of : PySem.W.codeIn K cd_plus_of "plus_of" = true)
    (k_plus_of : PySem.W.keepIn K (.ref f_plus_of) = true)
    (a_scaled : PySem.W.nsIn K mainGlobals "scaled" = some (some (.ref f_scaled)))
    (l_scaled : K.lookup f_scaled = some ⟨oc_scaled, od_scaled, .func (PySem.W.fnOf "scaled" "scaled" (defArgs s_scaled) (defBody s_scaled) (defScope s_scaled) .none kV_scaled dc_scaled pm_scaled an_scaled cd_scaled ct_scaled), sl_scaled⟩)
    (c_scaled : PySem.W.codeIn K cd_scaled "scaled" = true)
    (k_scaled : PySem.W.keepIn K (.ref f_scaled) = true)
    (a_times_of : PySem.W.nsIn K mainGlobals "times_of" = some (some (.ref f_times_of)))
    (l_times_of : K.lookup f_times_of = some ⟨oc_times_of, od_times_of, .func (PySem.W.fnOf "times_of" "times_of" (defArgs s_times_of) (defBody s_times_of) (defScope s_times_of) .none kV_times_of dc_times_of pm_times_of an_times_of cd_times_of ct_times_of), sl_times_of⟩)
    (c_times_of : PySem.W.codeIn K cd_times_of "times_of" = true)
    (k_times_of : PySem.W.keepIn K (.ref f_times_of) = true)
    (a_through : PySem.W.nsIn K mainGlobals "through" = some (some (.ref f_through)))
    (l_through : K.lookup f_through = some ⟨oc_through, od_through, .func (PySem.W.fnOf "through" "through" (defArgs s_through) (defBody s_through) (defScope s_through) .none kV_through dc_through pm_through an_through cd_through ct_through), sl_through⟩)
    (c_through : PySem.W.codeIn K cd_through "through" = true)
    (k_through : PySem.W.keepIn K (.ref f_through) = true)
    (a_is_root : PySem.W.nsIn K mainGlobals "is_root" = some (some (.ref f_is_root)))
    (l_is_root : K.lookup f_is_root = some ⟨oc_is_root, od_is_root, .func (PySem.W.fnOf "is_root" "is_root" (defArgs s_is_root) (defBody s_is_root) (defScope s_is_root) .none kV_is_root dc_is_root pm_is_root an_is_root cd_is_root ct_is_root), sl_is_root⟩)
    (c_is_root : PySem.W.codeIn K cd_is_root "is_root" = true)
    (k_is_root : PySem.W.keepIn K (.ref f_is_root) = true)
    (a_by_roots : PySem.W.nsIn K mainGlobals "by_roots" = some (some (.ref f_by_roots)))
    (l_by_roots : K.lookup f_by_roots = some ⟨oc_by_roots, od_by_roots, .func (PySem.W.fnOf "by_roots" "by_roots" (defArgs s_by_roots) (defBody s_by_roots) (defScope s_by_roots) .none kV_by_roots dc_by_roots pm_by_roots an_by_roots cd_by_roots ct_by_roots), sl_by_roots⟩)
    (c_by_roots : PySem.W.codeIn K cd_by_roots "by_roots" = true)
    (k_by_roots : PySem.W.keepIn K (.ref f_by_roots) = true)
    (a_check_poly : PySem.W.nsIn K mainGlobals "check_poly" = some (some (.ref f_check_poly)))
    (l_check_poly : K.lookup f_check_poly = some ⟨oc_check_poly, od_check_poly, .func (PySem.W.fnOf "check_poly" "check_poly" (defArgs s_check_poly) (defBody s_check_poly) (defScope s_check_poly) .none kV_check_poly dc_check_poly pm_check_poly an_check_poly cd_check_poly ct_check_poly), sl_check_poly⟩)
    (c_check_poly : PySem.W.codeIn K cd_check_poly "check_poly" = true)
    (k_check_poly : PySem.W.keepIn K (.ref f_check_poly) = true)
    (a_check_zero : PySem.W.nsIn K mainGlobals "check_zero" = some (some (.ref f_check_zero)))
    (l_check_zero : K.lookup f_check_zero = some ⟨oc_check_zero, od_check_zero, .func (PySem.W.fnOf "check_zero" "check_zero" (defArgs s_check_zero) (defBody s_check_zero) (defScope s_check_zero) .none kV_check_zero dc_check_zero pm_check_zero an_check_zero cd_check_zero ct_check_zero), sl_check_zero⟩)
    (c_check_zero : PySem.W.codeIn K cd_check_zero "check_zero" = true)
    (k_check_zero : PySem.W.keepIn K (.ref f_check_zero) = true)
    (a_unlike : PySem.W.nsIn K mainGlobals "unlike" = some (some (.ref f_unlike)))
    (l_unlike : K.lookup f_unlike = some ⟨oc_unlike, od_unlike, .func (PySem.W.fnOf "unlike" "unlike" (defArgs s_unlike) (defBody s_unlike) (defScope s_unlike) .none kV_unlike dc_unlike pm_unlike an_unlike cd_unlike ct_unlike), sl_unlike⟩)
    (c_unlike : PySem.W.codeIn K cd_unlike "unlike" = true)
    (k_unlike : PySem.W.keepIn K (.ref f_unlike) = true)
    (a_divisor : PySem.W.nsIn K mainGlobals "divisor" = some (some (.ref f_divisor)))
    (l_divisor : K.lookup f_divisor = some ⟨oc_divisor, od_divisor, .func (PySem.W.fnOf "divisor" "divisor" (defArgs s_divisor) (defBody s_divisor) (defScope s_divisor) .none kV_divisor dc_divisor pm_divisor an_divisor cd_divisor ct_divisor), sl_divisor⟩)
    (c_divisor : PySem.W.codeIn K cd_divisor "divisor" = true)
    (k_divisor : PySem.W.keepIn K (.ref f_divisor) = true)
    (a_plain : PySem.W.nsIn K mainGlobals "plain" = some (some (.ref f_plain)))
    (l_plain : K.lookup f_plain = some ⟨oc_plain, od_plain, .func (PySem.W.fnOf "plain" "plain" (defArgs s_plain) (defBody s_plain) (defScope s_plain) .none kV_plain dc_plain pm_plain an_plain cd_plain ct_plain), sl_plain⟩)
    (c_plain : PySem.W.codeIn K cd_plain "plain" = true)
    (k_plain : PySem.W.keepIn K (.ref f_plain) = true)
    (a_less_of : PySem.W.nsIn K mainGlobals "less_of" = some (some (.ref f_less_of)))
    (l_less_of : K.lookup f_less_of = some ⟨oc_less_of, od_less_of, .func (PySem.W.fnOf "less_of" "less_of" (defArgs s_less_of) (defBody s_less_of) (defScope s_less_of) .none kV_less_of dc_less_of pm_less_of an_less_of cd_less_of ct_less_of), sl_less_of⟩)
    (c_less_of : PySem.W.codeIn K cd_less_of "less_of" = true)
    (k_less_of : PySem.W.keepIn K (.ref f_less_of) = true)
    (a_left_over : PySem.W.nsIn K mainGlobals "left_over" = some (some (.ref f_left_over)))
    (l_left_over : K.lookup f_left_over = some ⟨oc_left_over, od_left_over, .func (PySem.W.fnOf "left_over" "left_over" (defArgs s_left_over) (defBody s_left_over) (defScope s_left_over) .none kV_left_over dc_left_over pm_left_over an_left_over cd_left_over ct_left_over), sl_left_over⟩)
    (c_left_over : PySem.W.codeIn K cd_left_over "left_over" = true)
    (k_left_over : PySem.W.keepIn K (.ref f_left_over) = true)
    (a_common_of : PySem.W.nsIn K mainGlobals "common_of" = some (some (.ref f_common_of)))
    (l_common_of : K.lookup f_common_of = some ⟨oc_common_of, od_common_of, .func (PySem.W.fnOf "common_of" "common_of" (defArgs s_common_of) (defBody s_common_of) (defScope s_common_of) .none kV_common_of dc_common_of pm_common_of an_common_of cd_common_of ct_common_of), sl_common_of⟩)
    (c_common_of : PySem.W.codeIn K cd_common_of "common_of" = true)
    (k_common_of : PySem.W.keepIn K (.ref f_common_of) = true)
    (a_check_sum : PySem.W.nsIn K mainGlobals "check_sum" = some (some (.ref f_check_sum)))
    (l_check_sum : K.lookup f_check_sum = some ⟨oc_check_sum, od_check_sum, .func (PySem.W.fnOf "check_sum" "check_sum" (defArgs s_check_sum) (defBody s_check_sum) (defScope s_check_sum) .none kV_check_sum dc_check_sum pm_check_sum an_check_sum cd_check_sum ct_check_sum), sl_check_sum⟩)
    (c_check_sum : PySem.W.codeIn K cd_check_sum "check_sum" = true)
    (k_check_sum : PySem.W.keepIn K (.ref f_check_sum) = true)
    (a_measure : PySem.W.nsIn K mainGlobals "measure" = some (some (.ref f_measure)))
    (l_measure : K.lookup f_measure = some ⟨oc_measure, od_measure, .func (PySem.W.fnOf "measure" "measure" (defArgs s_measure) (defBody s_measure) (defScope s_measure) .none kV_measure dc_measure pm_measure an_measure cd_measure ct_measure), sl_measure⟩)
    (c_measure : PySem.W.codeIn K cd_measure "measure" = true)
    (k_measure : PySem.W.keepIn K (.ref f_measure) = true)
    (a_Desk_step : PySem.W.findIn K (.ref C_Desk) "step" = some (some (.ref f_Desk_step)))
    (fn_Desk_step : PySem.W.isFn K (.ref f_Desk_step) = true)
    (l_Desk_step : K.lookup f_Desk_step = some ⟨oc_Desk_step, od_Desk_step, .func (PySem.W.fnOf "step" "Desk.step" (defArgs s_Desk_step) (defBody s_Desk_step) (defScope s_Desk_step) .none kV_Desk_step dc_Desk_step pm_Desk_step an_Desk_step cd_Desk_step ct_Desk_step), sl_Desk_step⟩)
    (c_Desk_step : PySem.W.codeIn K cd_Desk_step "Desk.step" = true)
    (k_Desk_step : PySem.W.keepIn K (.ref f_Desk_step) = true)
    (a_Desk_stretch : PySem.W.findIn K (.ref C_Desk) "stretch" = some (some (.ref f_Desk_stretch)))
    (fn_Desk_stretch : PySem.W.isFn K (.ref f_Desk_stretch) = true)
    (l_Desk_stretch : K.lookup f_Desk_stretch = some ⟨oc_Desk_stretch, od_Desk_stretch, .func (PySem.W.fnOf "stretch" "Desk.stretch" (defArgs s_Desk_stretch) (defBody s_Desk_stretch) (defScope s_Desk_stretch) .none kV_Desk_stretch dc_Desk_stretch pm_Desk_stretch an_Desk_stretch cd_Desk_stretch ct_Desk_stretch), sl_Desk_stretch⟩)
    (c_Desk_stretch : PySem.W.codeIn K cd_Desk_stretch "Desk.stretch" = true)
    (k_Desk_stretch : PySem.W.keepIn K (.ref f_Desk_stretch) = true)
    (a_plus : PySem.W.nsIn K mainGlobals "plus" = some (some (.ref f_plus)))
    (l_plus : K.lookup f_plus = some ⟨oc_plus, od_plus, .func (PySem.W.fnOf "plus" "plus" (defArgs s_plus) (defBody s_plus) (defScope s_plus) .none kV_plus dc_plus pm_plus an_plus cd_plus ct_plus), sl_plus⟩)
    (c_plus : PySem.W.codeIn K cd_plus "plus" = true)
    (k_plus : PySem.W.keepIn K (.ref f_plus) = true)
    (a_Desk___init__ : PySem.W.findIn K (.ref C_Desk) "__init__" = some (some (.ref f_Desk___init__)))
    (fn_Desk___init__ : PySem.W.isFn K (.ref f_Desk___init__) = true)
    (l_Desk___init__ : K.lookup f_Desk___init__ = some ⟨oc_Desk___init__, od_Desk___init__, .func (PySem.W.fnOf "__init__" "Desk.__init__" (defArgs s_Desk___init__) (defBody s_Desk___init__) (defScope s_Desk___init__) .none kV_Desk___init__ dc_Desk___init__ pm_Desk___init__ an_Desk___init__ cd_Desk___init__ ct_Desk___init__), sl_Desk___init__⟩)
    (c_Desk___init__ : PySem.W.codeIn K cd_Desk___init__ "Desk.__init__" = true)
    (k_Desk___init__ : PySem.W.keepIn K (.ref f_Desk___init__) = true)
    (a_is_list : PySem.W.nsIn K mainGlobals "is_list" = some (some (.ref f_is_list)))
    (l_is_list : K.lookup f_is_list = some ⟨oc_is_list, od_is_list, .func (PySem.W.fnOf "is_list" "is_list" (defArgs s_is_list) (defBody s_is_list) (defScope s_is_list) .none kV_is_list dc_is_list pm_is_list an_is_list cd_is_list ct_is_list), sl_is_list⟩)
    (c_is_list : PySem.W.codeIn K cd_is_list "is_list" = true)
    (k_is_list : PySem.W.keepIn K (.ref f_is_list) = true)
    (a_check_lists : PySem.W.nsIn K mainGlobals "check_lists" = some (some (.ref f_check_lists)))
    (l_check_lists : K.lookup f_check_lists = some ⟨oc_check_lists, od_check_lists, .func (PySem.W.fnOf "check_lists" "check_lists" (defArgs s_check_lists) (defBody s_check_lists) (defScope s_check_lists) .none kV_check_lists dc_check_lists pm_check_lists an_check_lists cd_check_lists ct_check_lists), sl_check_lists⟩)
    (c_check_lists : PySem.W.codeIn K cd_check_lists "check_lists" = true)
    (k_check_lists : PySem.W.keepIn K (.ref f_check_lists) = true)
    (a_tree : PySem.W.nsIn K mainGlobals "tree" = some (some (.ref f_tree)))
    (l_tree : K.lookup f_tree = some ⟨oc_tree, od_tree, .func (PySem.W.fnOf "tree" "tree" (defArgs s_tree) (defBody s_tree) (defScope s_tree) .none kV_tree dc_tree pm_tree an_tree cd_tree ct_tree), sl_tree⟩)
    (c_tree : PySem.W.codeIn K cd_tree "tree" = true)
    (k_tree : PySem.W.keepIn K (.ref f_tree) = true)
    (a_is_whole : PySem.W.nsIn K mainGlobals "is_whole" = some (some (.ref f_is_whole)))
    (l_is_whole : K.lookup f_is_whole = some ⟨oc_is_whole, od_is_whole, .func (PySem.W.fnOf "is_whole" "is_whole" (defArgs s_is_whole) (defBody s_is_whole) (defScope s_is_whole) .none kV_is_whole dc_is_whole pm_is_whole an_is_whole cd_is_whole ct_is_whole), sl_is_whole⟩)
    (c_is_whole : PySem.W.codeIn K cd_is_whole "is_whole" = true)
    (k_is_whole : PySem.W.keepIn K (.ref f_is_whole) = true)
    (a_poly_in : PySem.W.nsIn K mainGlobals "poly_in" = some (some (.ref f_poly_in)))
    (l_poly_in : K.lookup f_poly_in = some ⟨oc_poly_in, od_poly_in, .func (PySem.W.fnOf "poly_in" "poly_in" (defArgs s_poly_in) (defBody s_poly_in) (defScope s_poly_in) .none kV_poly_in dc_poly_in pm_poly_in an_poly_in cd_poly_in ct_poly_in), sl_poly_in⟩)
    (c_poly_in : PySem.W.codeIn K cd_poly_in "poly_in" = true)
    (k_poly_in : PySem.W.keepIn K (.ref f_poly_in) = true)
    (a_read : PySem.W.nsIn K mainGlobals "read" = some (some (.ref f_read)))
    (l_read : K.lookup f_read = some ⟨oc_read, od_read, .func (PySem.W.fnOf "read" "read" (defArgs s_read) (defBody s_read) (defScope s_read) .none kV_read dc_read pm_read an_read cd_read ct_read), sl_read⟩)
    (c_read : PySem.W.codeIn K cd_read "read" = true)
    (k_read : PySem.W.keepIn K (.ref f_read) = true)
    (a__law_raised : PySem.W.nsIn K mainGlobals "_law_raised" = some (some (.ref f__law_raised)))
    (l__law_raised : K.lookup f__law_raised = some ⟨oc__law_raised, od__law_raised, .func (PySem.W.fnOf "_law_raised" "_law_raised" (defArgs s__law_raised) (defBody s__law_raised) (defScope s__law_raised) .none kV__law_raised dc__law_raised pm__law_raised an__law_raised cd__law_raised ct__law_raised), sl__law_raised⟩)
    (c__law_raised : PySem.W.codeIn K cd__law_raised "_law_raised" = true)
    (k__law_raised : PySem.W.keepIn K (.ref f__law_raised) = true)
    (a__law_kinds : PySem.W.nsIn K mainGlobals "_law_kinds" = some (some (.ref f__law_kinds)))
    (l__law_kinds : K.lookup f__law_kinds = some ⟨oc__law_kinds, od__law_kinds, .func (PySem.W.fnOf "_law_kinds" "_law_kinds" (defArgs s__law_kinds) (defBody s__law_kinds) (defScope s__law_kinds) .none kV__law_kinds dc__law_kinds pm__law_kinds an__law_kinds cd__law_kinds ct__law_kinds), sl__law_kinds⟩)
    (c__law_kinds : PySem.W.codeIn K cd__law_kinds "_law_kinds" = true)
    (k__law_kinds : PySem.W.keepIn K (.ref f__law_kinds) = true)
    (a_law : PySem.W.nsIn K mainGlobals "law" = some (some (.ref f_law)))
    (l_law : K.lookup f_law = some ⟨oc_law, od_law, .func (PySem.W.fnOf "law" "law" (defArgs s_law) (defBody s_law) (defScope s_law) .none kV_law dc_law pm_law an_law cd_law ct_law), sl_law⟩)
    (c_law : PySem.W.codeIn K cd_law "law" = true)
    (k_law : PySem.W.keepIn K (.ref f_law) = true)
    (v_DIGITS : PySem.W.nsIn K mainGlobals "DIGITS" = some (some (.str "0123456789" t_DIGITS)))
    (v_FAR : PySem.W.nsIn K mainGlobals "FAR" = some (some (.int 1000000000 t_FAR)))
    (v_MOST_FIGURES : PySem.W.nsIn K mainGlobals "MOST_FIGURES" = some (some (.int 10 t_MOST_FIGURES)))
    (v_MOST_HEIGHT : PySem.W.nsIn K mainGlobals "MOST_HEIGHT" = some (some (.int 1000 t_MOST_HEIGHT)))
    (v_MOST_LIST : PySem.W.nsIn K mainGlobals "MOST_LIST" = some (some (.int 12 t_MOST_LIST)))
    (v_MOST_PLACE : PySem.W.nsIn K mainGlobals "MOST_PLACE" = some (some (.int 50 t_MOST_PLACE)))
    (v_MOST_POINTS : PySem.W.nsIn K mainGlobals "MOST_POINTS" = some (some (.int 7 t_MOST_POINTS)))
    (v_MOST_POWER : PySem.W.nsIn K mainGlobals "MOST_POWER" = some (some (.int 12 t_MOST_POWER)))
    (v_MOST_ROOT : PySem.W.nsIn K mainGlobals "MOST_ROOT" = some (some (.int 20 t_MOST_ROOT)))
    (v_MOST_STRETCH : PySem.W.nsIn K mainGlobals "MOST_STRETCH" = some (some (.int 5 t_MOST_STRETCH)))
    (v_MOST_TERMS : PySem.W.nsIn K mainGlobals "MOST_TERMS" = some (some (.int 13 t_MOST_TERMS)))
    (v_MOST_TIMES : PySem.W.nsIn K mainGlobals "MOST_TIMES" = some (some (.int 12 t_MOST_TIMES)))
    (v_POLY : PySem.W.nsIn K mainGlobals "POLY" = some (some (.str "poly" t_POLY)))
    (v_PRIMES : PySem.W.nsIn K mainGlobals "PRIMES" = some (some (.ref t_PRIMES)))
    (l_PRIMES : K.lookup t_PRIMES = some ⟨.type "tuple", od_PRIMES, .seq #[.int 2 k0_PRIMES, .int 3 k1_PRIMES, .int 5 k2_PRIMES, .int 7 k3_PRIMES, .int 11 k4_PRIMES, .int 13 k5_PRIMES, .int 17 k6_PRIMES, .int 19 k7_PRIMES, .int 23 k8_PRIMES, .int 29 k9_PRIMES, .int 31 k10_PRIMES] n_PRIMES, sl_PRIMES⟩)
    (z_ValueError : PySem.W.nsIn K mainGlobals "ValueError" = some none)
    (z_abs : PySem.W.nsIn K mainGlobals "abs" = some none)
    (z_all : PySem.W.nsIn K mainGlobals "all" = some none)
    (z_any : PySem.W.nsIn K mainGlobals "any" = some none)
    (z_bool : PySem.W.nsIn K mainGlobals "bool" = some none)
    (z_enumerate : PySem.W.nsIn K mainGlobals "enumerate" = some none)
    (z_int : PySem.W.nsIn K mainGlobals "int" = some none)
    (z_isinstance : PySem.W.nsIn K mainGlobals "isinstance" = some none)
    (z_len : PySem.W.nsIn K mainGlobals "len" = some none)
    (z_list : PySem.W.nsIn K mainGlobals "list" = some none)
    (z_max : PySem.W.nsIn K mainGlobals "max" = some none)
    (z_range : PySem.W.nsIn K mainGlobals "range" = some none)
    (z_sum : PySem.W.nsIn K mainGlobals "sum" = some none)
    (z_tuple : PySem.W.nsIn K mainGlobals "tuple" = some none)
    (z_zip : PySem.W.nsIn K mainGlobals "zip" = some none)
    (gsp : PySem.W.specialIn K (.builtin "object.__class__") "__get__" = some (some (.builtin "getset_descriptor.__get__")))
    (gtk : PySem.W.takesIn K (.builtin "object.__class__") = some true)
    (aC_BadLine : PySem.W.nsIn K mainGlobals "BadLine" = some (some (.ref C_BadLine)))
    (su_BadLine : PySem.W.subIn K (.ref C_BadLine) (.type "BaseException") = some true)
    (ty_BadLine : PySem.W.typeIn K (.ref C_BadLine) = some (.type "type"))
    (hd_BadLine : PySem.W.hasDictIn K C_BadLine = true)
    (kp_BadLine : PySem.W.keepIn K (.ref C_BadLine) = true)
    (cl_BadLine : (PySem.W.clsIn K C_BadLine).isSome = true)
    (ga_BadLine : PySem.W.findIn K (.ref C_BadLine) "__getattribute__" = some (some (.builtin "BaseException.__getattribute__")))
    (gg_BadLine : PySem.W.findIn K (.ref C_BadLine) "__getattr__" = some none)
    (ac_BadLine : PySem.W.findIn K (.ref C_BadLine) "__class__" = some (some (.builtin "object.__class__")))
    (mr_BadLine : PySem.W.mroIn K C_BadLine (.type "object") = some true)
    (xL_BadLine : K.lookup C_BadLine = some (excClassObj nm_BadLine q_BadLine C_BadLine N_BadLine bs_BadLine bm_BadLine true sn_BadLine sub_BadLine ab_BadLine col_BadLine dd_BadLine m0_BadLine m1_BadLine m2_BadLine m3_BadLine m5_BadLine "ValueError.__new__"))
    (rf_BadLine : PySem.HandSPX.refsVE bm_BadLine = true)
    (sa_BadLine : PySem.W.findIn K (.ref C_BadLine) "__setattr__" = some (some (.builtin "object.__setattr__")))
    (nf_BadLine_line : PySem.W.findIn K (.ref C_BadLine) "line" = some none)
    (nf_BadLine_word : PySem.W.findIn K (.ref C_BadLine) "word" = some none)
    (iC_BadLine : PySem.W.findIn K (.ref C_BadLine) "__init__" = some (some (.ref fi_BadLine)))
    (tI_BadLine : PySem.W.typeIn K (.ref fi_BadLine) = some (.type "function"))
    (li_BadLine : K.lookup fi_BadLine = some ⟨oci_BadLine, odi_BadLine, .func (PySem.W.fnOf "__init__" "BadLine.__init__" (defArgs si_BadLine) (defBody si_BadLine) (defScope si_BadLine) .none kVi_BadLine dci_BadLine pmi_BadLine ani_BadLine cdi_BadLine cti_BadLine), sli_BadLine⟩)
    (ci_BadLine : PySem.W.codeIn K cdi_BadLine "BadLine.__init__" = true)
    (ki_BadLine : PySem.W.keepIn K (.ref fi_BadLine) = true)
    (aC_BadLists : PySem.W.nsIn K mainGlobals "BadLists" = some (some (.ref C_BadLists)))
    (su_BadLists : PySem.W.subIn K (.ref C_BadLists) (.type "BaseException") = some true)
    (ty_BadLists : PySem.W.typeIn K (.ref C_BadLists) = some (.type "type"))
    (hd_BadLists : PySem.W.hasDictIn K C_BadLists = true)
    (kp_BadLists : PySem.W.keepIn K (.ref C_BadLists) = true)
    (cl_BadLists : (PySem.W.clsIn K C_BadLists).isSome = true)
    (ga_BadLists : PySem.W.findIn K (.ref C_BadLists) "__getattribute__" = some (some (.builtin "BaseException.__getattribute__")))
    (gg_BadLists : PySem.W.findIn K (.ref C_BadLists) "__getattr__" = some none)
    (ac_BadLists : PySem.W.findIn K (.ref C_BadLists) "__class__" = some (some (.builtin "object.__class__")))
    (mr_BadLists : PySem.W.mroIn K C_BadLists (.type "object") = some true)
    (xL_BadLists : K.lookup C_BadLists = some (excClassObj nm_BadLists q_BadLists C_BadLists N_BadLists bs_BadLists bm_BadLists true sn_BadLists sub_BadLists ab_BadLists col_BadLists dd_BadLists m0_BadLists m1_BadLists m2_BadLists m3_BadLists m5_BadLists "ValueError.__new__"))
    (rf_BadLists : PySem.HandSPX.refsVE bm_BadLists = true)
    (sa_BadLists : PySem.W.findIn K (.ref C_BadLists) "__setattr__" = some (some (.builtin "object.__setattr__")))
    (nf_BadLists_index : PySem.W.findIn K (.ref C_BadLists) "index" = some none)
    (iC_BadLists : PySem.W.findIn K (.ref C_BadLists) "__init__" = some (some (.ref fi_BadLists)))
    (tI_BadLists : PySem.W.typeIn K (.ref fi_BadLists) = some (.type "function"))
    (li_BadLists : K.lookup fi_BadLists = some ⟨oci_BadLists, odi_BadLists, .func (PySem.W.fnOf "__init__" "BadLists.__init__" (defArgs si_BadLists) (defBody si_BadLists) (defScope si_BadLists) .none kVi_BadLists dci_BadLists pmi_BadLists ani_BadLists cdi_BadLists cti_BadLists), sli_BadLists⟩)
    (ci_BadLists : PySem.W.codeIn K cdi_BadLists "BadLists.__init__" = true)
    (ki_BadLists : PySem.W.keepIn K (.ref fi_BadLists) = true)
    (aC_BadNumber : PySem.W.nsIn K mainGlobals "BadNumber" = some (some (.ref C_BadNumber)))
    (su_BadNumber : PySem.W.subIn K (.ref C_BadNumber) (.type "BaseException") = some true)
    (ty_BadNumber : PySem.W.typeIn K (.ref C_BadNumber) = some (.type "type"))
    (hd_BadNumber : PySem.W.hasDictIn K C_BadNumber = true)
    (kp_BadNumber : PySem.W.keepIn K (.ref C_BadNumber) = true)
    (cl_BadNumber : (PySem.W.clsIn K C_BadNumber).isSome = true)
    (ga_BadNumber : PySem.W.findIn K (.ref C_BadNumber) "__getattribute__" = some (some (.builtin "BaseException.__getattribute__")))
    (gg_BadNumber : PySem.W.findIn K (.ref C_BadNumber) "__getattr__" = some none)
    (ac_BadNumber : PySem.W.findIn K (.ref C_BadNumber) "__class__" = some (some (.builtin "object.__class__")))
    (mr_BadNumber : PySem.W.mroIn K C_BadNumber (.type "object") = some true)
    (ex_BadNumber : PySem.W.excIn K C_BadNumber [.type "ValueError", .type "Exception", .type "BaseException", .type "object"] "ValueError.__new__" = true)
    (aC_BadPoints : PySem.W.nsIn K mainGlobals "BadPoints" = some (some (.ref C_BadPoints)))
    (su_BadPoints : PySem.W.subIn K (.ref C_BadPoints) (.type "BaseException") = some true)
    (ty_BadPoints : PySem.W.typeIn K (.ref C_BadPoints) = some (.type "type"))
    (hd_BadPoints : PySem.W.hasDictIn K C_BadPoints = true)
    (kp_BadPoints : PySem.W.keepIn K (.ref C_BadPoints) = true)
    (cl_BadPoints : (PySem.W.clsIn K C_BadPoints).isSome = true)
    (ga_BadPoints : PySem.W.findIn K (.ref C_BadPoints) "__getattribute__" = some (some (.builtin "BaseException.__getattribute__")))
    (gg_BadPoints : PySem.W.findIn K (.ref C_BadPoints) "__getattr__" = some none)
    (ac_BadPoints : PySem.W.findIn K (.ref C_BadPoints) "__class__" = some (some (.builtin "object.__class__")))
    (mr_BadPoints : PySem.W.mroIn K C_BadPoints (.type "object") = some true)
    (ex_BadPoints : PySem.W.excIn K C_BadPoints [.type "ValueError", .type "Exception", .type "BaseException", .type "object"] "ValueError.__new__" = true)
    (aC_BadPoly : PySem.W.nsIn K mainGlobals "BadPoly" = some (some (.ref C_BadPoly)))
    (su_BadPoly : PySem.W.subIn K (.ref C_BadPoly) (.type "BaseException") = some true)
    (ty_BadPoly : PySem.W.typeIn K (.ref C_BadPoly) = some (.type "type"))
    (hd_BadPoly : PySem.W.hasDictIn K C_BadPoly = true)
    (kp_BadPoly : PySem.W.keepIn K (.ref C_BadPoly) = true)
    (cl_BadPoly : (PySem.W.clsIn K C_BadPoly).isSome = true)
    (ga_BadPoly : PySem.W.findIn K (.ref C_BadPoly) "__getattribute__" = some (some (.builtin "BaseException.__getattribute__")))
    (gg_BadPoly : PySem.W.findIn K (.ref C_BadPoly) "__getattr__" = some none)
    (ac_BadPoly : PySem.W.findIn K (.ref C_BadPoly) "__class__" = some (some (.builtin "object.__class__")))
    (mr_BadPoly : PySem.W.mroIn K C_BadPoly (.type "object") = some true)
    (xL_BadPoly : K.lookup C_BadPoly = some (excClassObj nm_BadPoly q_BadPoly C_BadPoly N_BadPoly bs_BadPoly bm_BadPoly true sn_BadPoly sub_BadPoly ab_BadPoly col_BadPoly dd_BadPoly m0_BadPoly m1_BadPoly m2_BadPoly m3_BadPoly m5_BadPoly "ValueError.__new__"))
    (rf_BadPoly : PySem.HandSPX.refsVE bm_BadPoly = true)
    (sa_BadPoly : PySem.W.findIn K (.ref C_BadPoly) "__setattr__" = some (some (.builtin "object.__setattr__")))
    (nf_BadPoly_index : PySem.W.findIn K (.ref C_BadPoly) "index" = some none)
    (iC_BadPoly : PySem.W.findIn K (.ref C_BadPoly) "__init__" = some (some (.ref fi_BadPoly)))
    (tI_BadPoly : PySem.W.typeIn K (.ref fi_BadPoly) = some (.type "function"))
    (li_BadPoly : K.lookup fi_BadPoly = some ⟨oci_BadPoly, odi_BadPoly, .func (PySem.W.fnOf "__init__" "BadPoly.__init__" (defArgs si_BadPoly) (defBody si_BadPoly) (defScope si_BadPoly) .none kVi_BadPoly dci_BadPoly pmi_BadPoly ani_BadPoly cdi_BadPoly cti_BadPoly), sli_BadPoly⟩)
    (ci_BadPoly : PySem.W.codeIn K cdi_BadPoly "BadPoly.__init__" = true)
    (ki_BadPoly : PySem.W.keepIn K (.ref fi_BadPoly) = true)
    (aC_BadPrime : PySem.W.nsIn K mainGlobals "BadPrime" = some (some (.ref C_BadPrime)))
    (su_BadPrime : PySem.W.subIn K (.ref C_BadPrime) (.type "BaseException") = some true)
    (ty_BadPrime : PySem.W.typeIn K (.ref C_BadPrime) = some (.type "type"))
    (hd_BadPrime : PySem.W.hasDictIn K C_BadPrime = true)
    (kp_BadPrime : PySem.W.keepIn K (.ref C_BadPrime) = true)
    (cl_BadPrime : (PySem.W.clsIn K C_BadPrime).isSome = true)
    (ga_BadPrime : PySem.W.findIn K (.ref C_BadPrime) "__getattribute__" = some (some (.builtin "BaseException.__getattribute__")))
    (gg_BadPrime : PySem.W.findIn K (.ref C_BadPrime) "__getattr__" = some none)
    (ac_BadPrime : PySem.W.findIn K (.ref C_BadPrime) "__class__" = some (some (.builtin "object.__class__")))
    (mr_BadPrime : PySem.W.mroIn K C_BadPrime (.type "object") = some true)
    (ex_BadPrime : PySem.W.excIn K C_BadPrime [.type "ValueError", .type "Exception", .type "BaseException", .type "object"] "ValueError.__new__" = true)
    (aC_BadRoots : PySem.W.nsIn K mainGlobals "BadRoots" = some (some (.ref C_BadRoots)))
    (su_BadRoots : PySem.W.subIn K (.ref C_BadRoots) (.type "BaseException") = some true)
    (ty_BadRoots : PySem.W.typeIn K (.ref C_BadRoots) = some (.type "type"))
    (hd_BadRoots : PySem.W.hasDictIn K C_BadRoots = true)
    (kp_BadRoots : PySem.W.keepIn K (.ref C_BadRoots) = true)
    (cl_BadRoots : (PySem.W.clsIn K C_BadRoots).isSome = true)
    (ga_BadRoots : PySem.W.findIn K (.ref C_BadRoots) "__getattribute__" = some (some (.builtin "BaseException.__getattribute__")))
    (gg_BadRoots : PySem.W.findIn K (.ref C_BadRoots) "__getattr__" = some none)
    (ac_BadRoots : PySem.W.findIn K (.ref C_BadRoots) "__class__" = some (some (.builtin "object.__class__")))
    (mr_BadRoots : PySem.W.mroIn K C_BadRoots (.type "object") = some true)
    (ex_BadRoots : PySem.W.excIn K C_BadRoots [.type "ValueError", .type "Exception", .type "BaseException", .type "object"] "ValueError.__new__" = true)
    (aC_Common : PySem.W.nsIn K mainGlobals "Common" = some (some (.ref C_Common)))
    (su_Common : PySem.W.subIn K (.ref C_Common) (.type "BaseException") = some true)
    (ty_Common : PySem.W.typeIn K (.ref C_Common) = some (.type "type"))
    (hd_Common : PySem.W.hasDictIn K C_Common = true)
    (kp_Common : PySem.W.keepIn K (.ref C_Common) = true)
    (cl_Common : (PySem.W.clsIn K C_Common).isSome = true)
    (ga_Common : PySem.W.findIn K (.ref C_Common) "__getattribute__" = some (some (.builtin "BaseException.__getattribute__")))
    (gg_Common : PySem.W.findIn K (.ref C_Common) "__getattr__" = some none)
    (ac_Common : PySem.W.findIn K (.ref C_Common) "__class__" = some (some (.builtin "object.__class__")))
    (mr_Common : PySem.W.mroIn K C_Common (.type "object") = some true)
    (ex_Common : PySem.W.excIn K C_Common [.type "ValueError", .type "Exception", .type "BaseException", .type "object"] "ValueError.__new__" = true)
    (aC_Flat : PySem.W.nsIn K mainGlobals "Flat" = some (some (.ref C_Flat)))
    (su_Flat : PySem.W.subIn K (.ref C_Flat) (.type "BaseException") = some true)
    (ty_Flat : PySem.W.typeIn K (.ref C_Flat) = some (.type "type"))
    (hd_Flat : PySem.W.hasDictIn K C_Flat = true)
    (kp_Flat : PySem.W.keepIn K (.ref C_Flat) = true)
    (cl_Flat : (PySem.W.clsIn K C_Flat).isSome = true)
    (ga_Flat : PySem.W.findIn K (.ref C_Flat) "__getattribute__" = some (some (.builtin "BaseException.__getattribute__")))
    (gg_Flat : PySem.W.findIn K (.ref C_Flat) "__getattr__" = some none)
    (ac_Flat : PySem.W.findIn K (.ref C_Flat) "__class__" = some (some (.builtin "object.__class__")))
    (mr_Flat : PySem.W.mroIn K C_Flat (.type "object") = some true)
    (ex_Flat : PySem.W.excIn K C_Flat [.type "ValueError", .type "Exception", .type "BaseException", .type "object"] "ValueError.__new__" = true)
    (aC_Rising : PySem.W.nsIn K mainGlobals "Rising" = some (some (.ref C_Rising)))
    (su_Rising : PySem.W.subIn K (.ref C_Rising) (.type "BaseException") = some true)
    (ty_Rising : PySem.W.typeIn K (.ref C_Rising) = some (.type "type"))
    (hd_Rising : PySem.W.hasDictIn K C_Rising = true)
    (kp_Rising : PySem.W.keepIn K (.ref C_Rising) = true)
    (cl_Rising : (PySem.W.clsIn K C_Rising).isSome = true)
    (ga_Rising : PySem.W.findIn K (.ref C_Rising) "__getattribute__" = some (some (.builtin "BaseException.__getattribute__")))
    (gg_Rising : PySem.W.findIn K (.ref C_Rising) "__getattr__" = some none)
    (ac_Rising : PySem.W.findIn K (.ref C_Rising) "__class__" = some (some (.builtin "object.__class__")))
    (mr_Rising : PySem.W.mroIn K C_Rising (.type "object") = some true)
    (ex_Rising : PySem.W.excIn K C_Rising [.type "ValueError", .type "Exception", .type "BaseException", .type "object"] "ValueError.__new__" = true)
    (aC_RootError : PySem.W.nsIn K mainGlobals "RootError" = some (some (.ref C_RootError)))
    (su_RootError : PySem.W.subIn K (.ref C_RootError) (.type "BaseException") = some true)
    (ty_RootError : PySem.W.typeIn K (.ref C_RootError) = some (.type "type"))
    (hd_RootError : PySem.W.hasDictIn K C_RootError = true)
    (aC_Zero : PySem.W.nsIn K mainGlobals "Zero" = some (some (.ref C_Zero)))
    (su_Zero : PySem.W.subIn K (.ref C_Zero) (.type "BaseException") = some true)
    (ty_Zero : PySem.W.typeIn K (.ref C_Zero) = some (.type "type"))
    (hd_Zero : PySem.W.hasDictIn K C_Zero = true)
    (kp_Zero : PySem.W.keepIn K (.ref C_Zero) = true)
    (cl_Zero : (PySem.W.clsIn K C_Zero).isSome = true)
    (ga_Zero : PySem.W.findIn K (.ref C_Zero) "__getattribute__" = some (some (.builtin "BaseException.__getattribute__")))
    (gg_Zero : PySem.W.findIn K (.ref C_Zero) "__getattr__" = some none)
    (ac_Zero : PySem.W.findIn K (.ref C_Zero) "__class__" = some (some (.builtin "object.__class__")))
    (mr_Zero : PySem.W.mroIn K C_Zero (.type "object") = some true)
    (ex_Zero : PySem.W.excIn K C_Zero [.type "ValueError", .type "Exception", .type "BaseException", .type "object"] "ValueError.__new__" = true)
    (x_BadLine_RootError : PySem.W.subIn K (.ref C_BadLine) (.ref C_RootError) = some true)
    (x_BadLists_RootError : PySem.W.subIn K (.ref C_BadLists) (.ref C_RootError) = some true)
    (x_BadNumber_RootError : PySem.W.subIn K (.ref C_BadNumber) (.ref C_RootError) = some true)
    (x_BadPoints_RootError : PySem.W.subIn K (.ref C_BadPoints) (.ref C_RootError) = some true)
    (x_BadPoly_RootError : PySem.W.subIn K (.ref C_BadPoly) (.ref C_RootError) = some true)
    (x_BadPrime_RootError : PySem.W.subIn K (.ref C_BadPrime) (.ref C_RootError) = some true)
    (x_BadRoots_RootError : PySem.W.subIn K (.ref C_BadRoots) (.ref C_RootError) = some true)
    (x_Common_RootError : PySem.W.subIn K (.ref C_Common) (.ref C_RootError) = some true)
    (x_Flat_RootError : PySem.W.subIn K (.ref C_Flat) (.ref C_RootError) = some true)
    (x_Rising_RootError : PySem.W.subIn K (.ref C_Rising) (.ref C_RootError) = some true)
    (x_Zero_RootError : PySem.W.subIn K (.ref C_Zero) (.ref C_RootError) = some true)
    (kb_BadLine : kbRow K (.ref C_BadLine) [(C_BadLine, true), (C_BadLists, false), (C_BadNumber, false), (C_BadPoints, false), (C_BadPoly, false), (C_BadPrime, false), (C_BadRoots, false), (C_Common, false), (C_Flat, false), (C_Rising, false), (C_Zero, false)] = true)
    (kb_BadLists : kbRow K (.ref C_BadLists) [(C_BadLine, false), (C_BadLists, true), (C_BadNumber, false), (C_BadPoints, false), (C_BadPoly, false), (C_BadPrime, false), (C_BadRoots, false), (C_Common, false), (C_Flat, false), (C_Rising, false), (C_Zero, false)] = true)
    (kb_BadNumber : kbRow K (.ref C_BadNumber) [(C_BadLine, false), (C_BadLists, false), (C_BadNumber, true), (C_BadPoints, false), (C_BadPoly, false), (C_BadPrime, false), (C_BadRoots, false), (C_Common, false), (C_Flat, false), (C_Rising, false), (C_Zero, false)] = true)
    (kb_BadPoints : kbRow K (.ref C_BadPoints) [(C_BadLine, false), (C_BadLists, false), (C_BadNumber, false), (C_BadPoints, true), (C_BadPoly, false), (C_BadPrime, false), (C_BadRoots, false), (C_Common, false), (C_Flat, false), (C_Rising, false), (C_Zero, false)] = true)
    (kb_BadPoly : kbRow K (.ref C_BadPoly) [(C_BadLine, false), (C_BadLists, false), (C_BadNumber, false), (C_BadPoints, false), (C_BadPoly, true), (C_BadPrime, false), (C_BadRoots, false), (C_Common, false), (C_Flat, false), (C_Rising, false), (C_Zero, false)] = true)
    (kb_BadPrime : kbRow K (.ref C_BadPrime) [(C_BadLine, false), (C_BadLists, false), (C_BadNumber, false), (C_BadPoints, false), (C_BadPoly, false), (C_BadPrime, true), (C_BadRoots, false), (C_Common, false), (C_Flat, false), (C_Rising, false), (C_Zero, false)] = true)
    (kb_BadRoots : kbRow K (.ref C_BadRoots) [(C_BadLine, false), (C_BadLists, false), (C_BadNumber, false), (C_BadPoints, false), (C_BadPoly, false), (C_BadPrime, false), (C_BadRoots, true), (C_Common, false), (C_Flat, false), (C_Rising, false), (C_Zero, false)] = true)
    (kb_Common : kbRow K (.ref C_Common) [(C_BadLine, false), (C_BadLists, false), (C_BadNumber, false), (C_BadPoints, false), (C_BadPoly, false), (C_BadPrime, false), (C_BadRoots, false), (C_Common, true), (C_Flat, false), (C_Rising, false), (C_Zero, false)] = true)
    (kb_Flat : kbRow K (.ref C_Flat) [(C_BadLine, false), (C_BadLists, false), (C_BadNumber, false), (C_BadPoints, false), (C_BadPoly, false), (C_BadPrime, false), (C_BadRoots, false), (C_Common, false), (C_Flat, true), (C_Rising, false), (C_Zero, false)] = true)
    (kb_Rising : kbRow K (.ref C_Rising) [(C_BadLine, false), (C_BadLists, false), (C_BadNumber, false), (C_BadPoints, false), (C_BadPoly, false), (C_BadPrime, false), (C_BadRoots, false), (C_Common, false), (C_Flat, false), (C_Rising, true), (C_Zero, false)] = true)
    (kb_ValueError : kbRow K (.type "ValueError") [(C_BadLine, true), (C_BadLists, true), (C_BadNumber, true), (C_BadPoints, true), (C_BadPoly, true), (C_BadPrime, true), (C_BadRoots, true), (C_Common, true), (C_Flat, true), (C_Rising, true), (C_Zero, true)] = true)
    (kb_Zero : kbRow K (.ref C_Zero) [(C_BadLine, false), (C_BadLists, false), (C_BadNumber, false), (C_BadPoints, false), (C_BadPoly, false), (C_BadPrime, false), (C_BadRoots, false), (C_Common, false), (C_Flat, false), (C_Rising, false), (C_Zero, true)] = true) :
    ∃ fd : FuncData, (∀ (s : Shared) (v : Value), BindsTo s fd ⟨[v], []⟩ [("_law_script", v)]) ∧ ∀ base : Heap, K.In base → base.Ns mainGlobals mg → FnOk P w K mg base (L2.CX P w) 10 fa fd ["_law_script"] (spLaw K) := by
  have e := hfa.symm.trans (PySem.W.mg_of X G a_law)
  cases e
  have F_check_rests := fun_mk (st := s_check_rests) l_check_rests c_check_rests k_check_rests
  have b_check_rests := F_check_rests.binds (ps := ["prime", "value"]) fun _ _ _ _ _ _ us hl => match us, hl with | [_, _], _ => rfl
  have F_roots_by := fun_mk (st := s_roots_by) l_roots_by c_roots_by k_roots_by
  have b_roots_by := F_roots_by.binds (ps := ["prime", "one"]) fun _ _ _ _ _ _ us hl => match us, hl with | [_, _], _ => rfl
  have F_reduced := fun_mk (st := s_reduced) l_reduced c_reduced k_reduced
  have b_reduced := F_reduced.binds (ps := ["one", "number"]) fun _ _ _ _ _ _ us hl => match us, hl with | [_, _], _ => rfl
  have F_power_of := fun_mk (st := s_power_of) l_power_of c_power_of k_power_of
  have b_power_of := F_power_of.binds (ps := ["one", "many"]) fun _ _ _ _ _ _ us hl => match us, hl with | [_, _], _ => rfl
  have F_many_roots := fun_mk (st := s_many_roots) l_many_roots c_many_roots k_many_roots
  have b_many_roots := F_many_roots.binds (ps := ["one"]) fun _ _ _ _ _ _ us hl => match us, hl with | [_], _ => rfl
  have F_tree_of := fun_mk (st := s_tree_of) l_tree_of c_tree_of k_tree_of
  have b_tree_of := F_tree_of.binds (ps := ["one", "other"]) fun _ _ _ _ _ _ us hl => match us, hl with | [_, _], _ => rfl
  have F__law_draws := fun_mk (st := s__law_draws) l__law_draws c__law_draws k__law_draws
  have b__law_draws := F__law_draws.binds (ps := ["_law_script"]) fun _ _ _ _ _ _ us hl => match us, hl with | [_], _ => rfl
  have F__law_pick := fun_mk (st := s__law_pick) l__law_pick c__law_pick k__law_pick
  have b__law_pick := F__law_pick.binds (ps := ["_law_row", "_law_many"]) fun _ _ _ _ _ _ us hl => match us, hl with | [_, _], _ => rfl
  have F_is_from := fun_mk (st := s_is_from) l_is_from c_is_from k_is_from
  have b_is_from := F_is_from.binds (ps := ["value", "low", "high"]) fun _ _ _ _ _ _ us hl => match us, hl with | [_, _, _], _ => rfl
  have F_check_prime := fun_mk (st := s_check_prime) l_check_prime c_check_prime k_check_prime
  have b_check_prime := F_check_prime.binds (ps := ["value"]) fun _ _ _ _ _ _ us hl => match us, hl with | [_], _ => rfl
  have F_unlike_by := fun_mk (st := s_unlike_by) l_unlike_by c_unlike_by k_unlike_by
  have b_unlike_by := F_unlike_by.binds (ps := ["prime", "one"]) fun _ _ _ _ _ _ us hl => match us, hl with | [_, _], _ => rfl
  have F_check_power := fun_mk (st := s_check_power) l_check_power c_check_power k_check_power
  have b_check_power := F_check_power.binds (ps := ["value"]) fun _ _ _ _ _ _ us hl => match us, hl with | [_], _ => rfl
  have F_barred := fun_mk (st := s_barred) l_barred c_barred k_barred
  have b_barred := F_barred.binds (ps := ["first", "second", "third"]) fun _ _ _ _ _ _ us hl => match us, hl with | [_, _, _], _ => rfl
  have F_is_point := fun_mk (st := s_is_point) l_is_point c_is_point k_is_point
  have b_is_point := F_is_point.binds (ps := ["value"]) fun _ _ _ _ _ _ us hl => match us, hl with | [_], _ => rfl
  have F_check_points := fun_mk (st := s_check_points) l_check_points c_check_points k_check_points
  have b_check_points := F_check_points.binds (ps := ["value"]) fun _ _ _ _ _ _ us hl => match us, hl with | [_], _ => rfl
  have F_trimmed := fun_mk (st := s_trimmed) l_trimmed c_trimmed k_trimmed
  have b_trimmed := F_trimmed.binds (ps := ["row"]) fun _ _ _ _ _ _ us hl => match us, hl with | [_], _ => rfl
  have F_plus_of := fun_mk (st := s_plus_of) l_plus_of c_plus_of k_plus_of
  have b_plus_of := F_plus_of.binds (ps := ["one", "other"]) fun _ _ _ _ _ _ us hl => match us, hl with | [_, _], _ => rfl
  have F_scaled := fun_mk (st := s_scaled) l_scaled c_scaled k_scaled
  have b_scaled := F_scaled.binds (ps := ["one", "number"]) fun _ _ _ _ _ _ us hl => match us, hl with | [_, _], _ => rfl
  have F_times_of := fun_mk (st := s_times_of) l_times_of c_times_of k_times_of
  have b_times_of := F_times_of.binds (ps := ["one", "other"]) fun _ _ _ _ _ _ us hl => match us, hl with | [_, _], _ => rfl
  have F_through := fun_mk (st := s_through) l_through c_through k_through
  have b_through := F_through.binds (ps := ["points"]) fun _ _ _ _ _ _ us hl => match us, hl with | [_], _ => rfl
  have F_is_root := fun_mk (st := s_is_root) l_is_root c_is_root k_is_root
  have b_is_root := F_is_root.binds (ps := ["value"]) fun _ _ _ _ _ _ us hl => match us, hl with | [_], _ => rfl
  have F_by_roots := fun_mk (st := s_by_roots) l_by_roots c_by_roots k_by_roots
  have b_by_roots := F_by_roots.binds (ps := ["rows"]) fun _ _ _ _ _ _ us hl => match us, hl with | [_], _ => rfl
  have F_check_poly := fun_mk (st := s_check_poly) l_check_poly c_check_poly k_check_poly
  have b_check_poly := F_check_poly.binds (ps := ["value"]) fun _ _ _ _ _ _ us hl => match us, hl with | [_], _ => rfl
  have F_check_zero := fun_mk (st := s_check_zero) l_check_zero c_check_zero k_check_zero
  have b_check_zero := F_check_zero.binds (ps := ["one"]) fun _ _ _ _ _ _ us hl => match us, hl with | [_], _ => rfl
  have F_unlike := fun_mk (st := s_unlike) l_unlike c_unlike k_unlike
  have b_unlike := F_unlike.binds (ps := ["one"]) fun _ _ _ _ _ _ us hl => match us, hl with | [_], _ => rfl
  have F_divisor := fun_mk (st := s_divisor) l_divisor c_divisor k_divisor
  have b_divisor := F_divisor.binds (ps := ["one", "other"]) fun _ _ _ _ _ _ us hl => match us, hl with | [_, _], _ => rfl
  have F_plain := fun_mk (st := s_plain) l_plain c_plain k_plain
  have b_plain := F_plain.binds (ps := ["one"]) fun _ _ _ _ _ _ us hl => match us, hl with | [_], _ => rfl
  have F_less_of := fun_mk (st := s_less_of) l_less_of c_less_of k_less_of
  have b_less_of := F_less_of.binds (ps := ["one", "other"]) fun _ _ _ _ _ _ us hl => match us, hl with | [_, _], _ => rfl
  have F_left_over := fun_mk (st := s_left_over) l_left_over c_left_over k_left_over
  have b_left_over := F_left_over.binds (ps := ["one", "other"]) fun _ _ _ _ _ _ us hl => match us, hl with | [_, _], _ => rfl
  have F_common_of := fun_mk (st := s_common_of) l_common_of c_common_of k_common_of
  have b_common_of := F_common_of.binds (ps := ["one", "other"]) fun _ _ _ _ _ _ us hl => match us, hl with | [_, _], _ => rfl
  have F_check_sum := fun_mk (st := s_check_sum) l_check_sum c_check_sum k_check_sum
  have b_check_sum := F_check_sum.binds (ps := ["one", "other"]) fun _ _ _ _ _ _ us hl => match us, hl with | [_, _], _ => rfl
  have F_measure := fun_mk (st := s_measure) l_measure c_measure k_measure
  have b_measure := F_measure.binds (ps := ["one", "other"]) fun _ _ _ _ _ _ us hl => match us, hl with | [_, _], _ => rfl
  have F_Desk_step := fun_mk (st := s_Desk_step) l_Desk_step c_Desk_step k_Desk_step
  have b_Desk_step := F_Desk_step.binds (ps := ["self", "one", "other"]) fun _ _ _ _ _ _ us hl => match us, hl with | [_, _, _], _ => rfl
  have F_Desk_stretch := fun_mk (st := s_Desk_stretch) l_Desk_stretch c_Desk_stretch k_Desk_stretch
  have b_Desk_stretch := F_Desk_stretch.binds (ps := ["self", "by"]) fun _ _ _ _ _ _ us hl => match us, hl with | [_, _], _ => rfl
  have F_plus := fun_mk (st := s_plus) l_plus c_plus k_plus
  have b_plus := F_plus.binds (ps := ["one", "other"]) fun _ _ _ _ _ _ us hl => match us, hl with | [_, _], _ => rfl
  have F_Desk___init__ := fun_mk (st := s_Desk___init__) l_Desk___init__ c_Desk___init__ k_Desk___init__
  have b_Desk___init__ := F_Desk___init__.binds (ps := ["self", "one", "other"]) fun _ _ _ _ _ _ us hl => match us, hl with | [_, _, _], _ => rfl
  have F_is_list := fun_mk (st := s_is_list) l_is_list c_is_list k_is_list
  have b_is_list := F_is_list.binds (ps := ["value"]) fun _ _ _ _ _ _ us hl => match us, hl with | [_], _ => rfl
  have F_check_lists := fun_mk (st := s_check_lists) l_check_lists c_check_lists k_check_lists
  have b_check_lists := F_check_lists.binds (ps := ["one", "other"]) fun _ _ _ _ _ _ us hl => match us, hl with | [_, _], _ => rfl
  have F_tree := fun_mk (st := s_tree) l_tree c_tree k_tree
  have b_tree := F_tree.binds (ps := ["one", "other"]) fun _ _ _ _ _ _ us hl => match us, hl with | [_, _], _ => rfl
  have F_is_whole := fun_mk (st := s_is_whole) l_is_whole c_is_whole k_is_whole
  have b_is_whole := F_is_whole.binds (ps := ["word"]) fun _ _ _ _ _ _ us hl => match us, hl with | [_], _ => rfl
  have F_poly_in := fun_mk (st := s_poly_in) l_poly_in c_poly_in k_poly_in
  have b_poly_in := F_poly_in.binds (ps := ["words", "line"]) fun _ _ _ _ _ _ us hl => match us, hl with | [_, _], _ => rfl
  have F_read := fun_mk (st := s_read) l_read c_read k_read
  have b_read := F_read.binds (ps := ["text"]) fun _ _ _ _ _ _ us hl => match us, hl with | [_], _ => rfl
  have F__law_raised := fun_mk (st := s__law_raised) l__law_raised c__law_raised k__law_raised
  have b__law_raised := F__law_raised.binds (ps := ["_law_k"]) fun _ _ _ _ _ _ us hl => match us, hl with | [_], _ => rfl
  have F__law_kinds := fun_mk (st := s__law_kinds) l__law_kinds c__law_kinds k__law_kinds
  have b__law_kinds := F__law_kinds.binds (ps := ["_law_e"]) fun _ _ _ _ _ _ us hl => match us, hl with | [_], _ => rfl
  have F_law := fun_mk (st := s_law) l_law c_law k_law
  have b_law := F_law.binds (ps := ["_law_script"]) fun _ _ _ _ _ _ us hl => match us, hl with | [_], _ => rfl
  have e_BadLine : EcK K C_BadLine := ⟨kp_BadLine, su_BadLine, ty_BadLine, cl_BadLine, hd_BadLine, ga_BadLine, gg_BadLine, ac_BadLine, gsp, gtk, mr_BadLine⟩
  have Fi_BadLine := fun_mk (st := si_BadLine) li_BadLine ci_BadLine ki_BadLine
  have bi_BadLine := Fi_BadLine.binds (ps := ["self", "line", "word"]) fun _ _ _ _ _ _ us hl => match us, hl with | [_, _, _], _ => rfl
  have ox_BadLine : OexC K C_BadLine := ⟨⟨_, _, _, _, _, _, _, _, _, _, _, _, _, _, _, xL_BadLine, rf_BadLine⟩, sa_BadLine, su_BadLine, ty_BadLine, kp_BadLine⟩
  have e_BadLists : EcK K C_BadLists := ⟨kp_BadLists, su_BadLists, ty_BadLists, cl_BadLists, hd_BadLists, ga_BadLists, gg_BadLists, ac_BadLists, gsp, gtk, mr_BadLists⟩
  have Fi_BadLists := fun_mk (st := si_BadLists) li_BadLists ci_BadLists ki_BadLists
  have bi_BadLists := Fi_BadLists.binds (ps := ["self", "index"]) fun _ _ _ _ _ _ us hl => match us, hl with | [_, _], _ => rfl
  have ox_BadLists : OexC K C_BadLists := ⟨⟨_, _, _, _, _, _, _, _, _, _, _, _, _, _, _, xL_BadLists, rf_BadLists⟩, sa_BadLists, su_BadLists, ty_BadLists, kp_BadLists⟩
  have e_BadNumber : EcK K C_BadNumber := ⟨kp_BadNumber, su_BadNumber, ty_BadNumber, cl_BadNumber, hd_BadNumber, ga_BadNumber, gg_BadNumber, ac_BadNumber, gsp, gtk, mr_BadNumber⟩
  have e_BadPoints : EcK K C_BadPoints := ⟨kp_BadPoints, su_BadPoints, ty_BadPoints, cl_BadPoints, hd_BadPoints, ga_BadPoints, gg_BadPoints, ac_BadPoints, gsp, gtk, mr_BadPoints⟩
  have e_BadPoly : EcK K C_BadPoly := ⟨kp_BadPoly, su_BadPoly, ty_BadPoly, cl_BadPoly, hd_BadPoly, ga_BadPoly, gg_BadPoly, ac_BadPoly, gsp, gtk, mr_BadPoly⟩
  have Fi_BadPoly := fun_mk (st := si_BadPoly) li_BadPoly ci_BadPoly ki_BadPoly
  have bi_BadPoly := Fi_BadPoly.binds (ps := ["self", "index"]) fun _ _ _ _ _ _ us hl => match us, hl with | [_, _], _ => rfl
  have ox_BadPoly : OexC K C_BadPoly := ⟨⟨_, _, _, _, _, _, _, _, _, _, _, _, _, _, _, xL_BadPoly, rf_BadPoly⟩, sa_BadPoly, su_BadPoly, ty_BadPoly, kp_BadPoly⟩
  have e_BadPrime : EcK K C_BadPrime := ⟨kp_BadPrime, su_BadPrime, ty_BadPrime, cl_BadPrime, hd_BadPrime, ga_BadPrime, gg_BadPrime, ac_BadPrime, gsp, gtk, mr_BadPrime⟩
  have e_BadRoots : EcK K C_BadRoots := ⟨kp_BadRoots, su_BadRoots, ty_BadRoots, cl_BadRoots, hd_BadRoots, ga_BadRoots, gg_BadRoots, ac_BadRoots, gsp, gtk, mr_BadRoots⟩
  have e_Common : EcK K C_Common := ⟨kp_Common, su_Common, ty_Common, cl_Common, hd_Common, ga_Common, gg_Common, ac_Common, gsp, gtk, mr_Common⟩
  have e_Flat : EcK K C_Flat := ⟨kp_Flat, su_Flat, ty_Flat, cl_Flat, hd_Flat, ga_Flat, gg_Flat, ac_Flat, gsp, gtk, mr_Flat⟩
  have e_Rising : EcK K C_Rising := ⟨kp_Rising, su_Rising, ty_Rising, cl_Rising, hd_Rising, ga_Rising, gg_Rising, ac_Rising, gsp, gtk, mr_Rising⟩
  have e_Zero : EcK K C_Zero := ⟨kp_Zero, su_Zero, ty_Zero, cl_Zero, hd_Zero, ga_Zero, gg_Zero, ac_Zero, gsp, gtk, mr_Zero⟩
  exact ⟨_, fun s v => .of_eq rfl, fun base _ _ => (ok_all (A0 := ⟨f_check_rests, _, f_roots_by, _, f_reduced, _, f_power_of, _, f_many_roots, _, f_tree_of, _, f__law_draws, _, f__law_pick, _, f_is_from, _, f_check_prime, _, f_unlike_by, _, f_check_power, _, f_barred, _, f_is_point, _, f_check_points, _, f_trimmed, _, f_plus_of, _, f_scaled, _, f_times_of, _, f_through, _, f_is_root, _, f_by_roots, _, f_check_poly, _, f_check_zero, _, f_unlike, _, f_divisor, _, f_plain, _, f_less_of, _, f_left_over, _, f_common_of, _, f_check_sum, _, f_measure, _, f_Desk_step, _, f_Desk_stretch, _, f_plus, _, f_Desk___init__, _, f_is_list, _, f_check_lists, _, f_tree, _, f_is_whole, _, f_poly_in, _, f_read, _, f__law_raised, _, f__law_kinds, _, fa, _, C_Desk, C_BadLine, C_BadLists, C_BadNumber, C_BadPoints, C_BadPoly, C_BadPrime, C_BadRoots, C_Common, C_Flat, C_Rising, C_RootError, C_Zero, fi_BadLine, _, fi_BadLists, _, fi_BadPoly, _, t_DIGITS, t_FAR, t_MOST_FIGURES, t_MOST_HEIGHT, t_MOST_LIST, t_MOST_PLACE, t_MOST_POINTS, t_MOST_POWER, t_MOST_ROOT, t_MOST_STRETCH, t_MOST_TERMS, t_MOST_TIMES, t_POLY, t_PRIMES, ()⟩) ⟨F_check_rests, b_check_rests, PySem.W.mg_of X G a_check_rests, F_roots_by, b_roots_by, PySem.W.mg_of X G a_roots_by, F_reduced, b_reduced, PySem.W.mg_of X G a_reduced, F_power_of, b_power_of, PySem.W.mg_of X G a_power_of, F_many_roots, b_many_roots, PySem.W.mg_of X G a_many_roots, F_tree_of, b_tree_of, PySem.W.mg_of X G a_tree_of, F__law_draws, b__law_draws, PySem.W.mg_of X G a__law_draws, F__law_pick, b__law_pick, PySem.W.mg_of X G a__law_pick, F_is_from, b_is_from, PySem.W.mg_of X G a_is_from, F_check_prime, b_check_prime, PySem.W.mg_of X G a_check_prime, F_unlike_by, b_unlike_by, PySem.W.mg_of X G a_unlike_by, F_check_power, b_check_power, PySem.W.mg_of X G a_check_power, F_barred, b_barred, PySem.W.mg_of X G a_barred, F_is_point, b_is_point, PySem.W.mg_of X G a_is_point, F_check_points, b_check_points, PySem.W.mg_of X G a_check_points, F_trimmed, b_trimmed, PySem.W.mg_of X G a_trimmed, F_plus_of, b_plus_of, PySem.W.mg_of X G a_plus_of, F_scaled, b_scaled, PySem.W.mg_of X G a_scaled, F_times_of, b_times_of, PySem.W.mg_of X G a_times_of, F_through, b_through, PySem.W.mg_of X G a_through, F_is_root, b_is_root, PySem.W.mg_of X G a_is_root, F_by_roots, b_by_roots, PySem.W.mg_of X G a_by_roots, F_check_poly, b_check_poly, PySem.W.mg_of X G a_check_poly, F_check_zero, b_check_zero, PySem.W.mg_of X G a_check_zero, F_unlike, b_unlike, PySem.W.mg_of X G a_unlike, F_divisor, b_divisor, PySem.W.mg_of X G a_divisor, F_plain, b_plain, PySem.W.mg_of X G a_plain, F_less_of, b_less_of, PySem.W.mg_of X G a_less_of, F_left_over, b_left_over, PySem.W.mg_of X G a_left_over, F_common_of, b_common_of, PySem.W.mg_of X G a_common_of, F_check_sum, b_check_sum, PySem.W.mg_of X G a_check_sum, F_measure, b_measure, PySem.W.mg_of X G a_measure, F_Desk_step, b_Desk_step, ⟨a_Desk_step, fn_Desk_step, k_Desk_step⟩, F_Desk_stretch, b_Desk_stretch, ⟨a_Desk_stretch, fn_Desk_stretch, k_Desk_stretch⟩, F_plus, b_plus, PySem.W.mg_of X G a_plus, F_Desk___init__, b_Desk___init__, F_is_list, b_is_list, PySem.W.mg_of X G a_is_list, F_check_lists, b_check_lists, PySem.W.mg_of X G a_check_lists, F_tree, b_tree, PySem.W.mg_of X G a_tree, F_is_whole, b_is_whole, PySem.W.mg_of X G a_is_whole, F_poly_in, b_poly_in, PySem.W.mg_of X G a_poly_in, F_read, b_read, PySem.W.mg_of X G a_read, F__law_raised, b__law_raised, PySem.W.mg_of X G a__law_raised, F__law_kinds, b__law_kinds, PySem.W.mg_of X G a__law_kinds, F_law, b_law, PySem.W.mg_of X G a_law, PySem.W.mg_of X G aC_Desk, ⟨pg_Desk, hd_Desk, po_Desk, sa_Desk⟩, ⟨mx_Desk, a_Desk___init__, fn_Desk___init__, kpc_Desk⟩, na_Desk_rows, PySem.W.mg_of X G v_DIGITS, PySem.W.mg_of X G v_FAR, PySem.W.mg_of X G v_MOST_FIGURES, PySem.W.mg_of X G v_MOST_HEIGHT, PySem.W.mg_of X G v_MOST_LIST, PySem.W.mg_of X G v_MOST_PLACE, PySem.W.mg_of X G v_MOST_POINTS, PySem.W.mg_of X G v_MOST_POWER, PySem.W.mg_of X G v_MOST_ROOT, PySem.W.mg_of X G v_MOST_STRETCH, PySem.W.mg_of X G v_MOST_TERMS, PySem.W.mg_of X G v_MOST_TIMES, PySem.W.mg_of X G v_POLY, PySem.W.mg_of X G v_PRIMES, tupIs_mk l_PRIMES (show (11 : Nat) ≤ sizeLine by decide) (vals_ints [2, 3, 5, 7, 11, 13, 17, 19, 23, 29, 31] rfl), PySem.W.mg_none_of X G z_ValueError, PySem.W.mg_none_of X G z_abs, PySem.W.mg_none_of X G z_all, PySem.W.mg_none_of X G z_any, PySem.W.mg_none_of X G z_bool, PySem.W.mg_none_of X G z_enumerate, PySem.W.mg_none_of X G z_int, PySem.W.mg_none_of X G z_isinstance, PySem.W.mg_none_of X G z_len, PySem.W.mg_none_of X G z_list, PySem.W.mg_none_of X G z_max, PySem.W.mg_none_of X G z_range, PySem.W.mg_none_of X G z_sum, PySem.W.mg_none_of X G z_tuple, PySem.W.mg_none_of X G z_zip, PySem.W.mg_of X G aC_BadLine, e_BadLine, ⟨ox_BadLine, e_BadLine, (mem_c nf_BadLine_line (mem_c nf_BadLine_word (fun _ z => (List.not_mem_nil z).elim))), iC_BadLine, tI_BadLine, init2_ok Fi_BadLine sci_BadLine rfl (by first | exact .inl rfl | exact .inr (.inl rfl)) (by first | exact .inl rfl | exact .inr (.inl rfl)) (by first | exact .inl rfl | exact .inr (.inl rfl)) rfl rfl rfl rfl, bi_BadLine⟩, PySem.W.mg_of X G aC_BadLists, e_BadLists, ⟨ox_BadLists, e_BadLists, (mem_c nf_BadLists_index (fun _ z => (List.not_mem_nil z).elim)), iC_BadLists, tI_BadLists, init1_ok Fi_BadLists sci_BadLists rfl (by first | exact .inl rfl | exact .inr (.inl rfl)) (by first | exact .inl rfl | exact .inr (.inl rfl)) rfl rfl, bi_BadLists⟩, PySem.W.mg_of X G aC_BadNumber, e_BadNumber, ⟨e_BadNumber, ex_BadNumber⟩, PySem.W.mg_of X G aC_BadPoints, e_BadPoints, ⟨e_BadPoints, ex_BadPoints⟩, PySem.W.mg_of X G aC_BadPoly, e_BadPoly, ⟨ox_BadPoly, e_BadPoly, (mem_c nf_BadPoly_index (fun _ z => (List.not_mem_nil z).elim)), iC_BadPoly, tI_BadPoly, init1_ok Fi_BadPoly sci_BadPoly rfl (by first | exact .inl rfl | exact .inr (.inl rfl)) (by first | exact .inl rfl | exact .inr (.inl rfl)) rfl rfl, bi_BadPoly⟩, PySem.W.mg_of X G aC_BadPrime, e_BadPrime, ⟨e_BadPrime, ex_BadPrime⟩, PySem.W.mg_of X G aC_BadRoots, e_BadRoots, ⟨e_BadRoots, ex_BadRoots⟩, PySem.W.mg_of X G aC_Common, e_Common, ⟨e_Common, ex_Common⟩, PySem.W.mg_of X G aC_Flat, e_Flat, ⟨e_Flat, ex_Flat⟩, PySem.W.mg_of X G aC_Rising, e_Rising, ⟨e_Rising, ex_Rising⟩, PySem.W.mg_of X G aC_RootError, PySem.W.mg_of X G aC_Zero, e_Zero, ⟨e_Zero, ex_Zero⟩, PySem.W.exm_ref su_RootError hd_RootError ty_RootError x_BadLine_RootError, PySem.W.exm_ref su_RootError hd_RootError ty_RootError x_BadLists_RootError, PySem.W.exm_ref su_RootError hd_RootError ty_RootError x_BadNumber_RootError, PySem.W.exm_ref su_RootError hd_RootError ty_RootError x_BadPoints_RootError, PySem.W.exm_ref su_RootError hd_RootError ty_RootError x_BadPoly_RootError, PySem.W.exm_ref su_RootError hd_RootError ty_RootError x_BadPrime_RootError, PySem.W.exm_ref su_RootError hd_RootError ty_RootError x_BadRoots_RootError, PySem.W.exm_ref su_RootError hd_RootError ty_RootError x_Common_RootError, PySem.W.exm_ref su_RootError hd_RootError ty_RootError x_Flat_RootError, PySem.W.exm_ref su_RootError hd_RootError ty_RootError x_Rising_RootError, PySem.W.exm_ref su_RootError hd_RootError ty_RootError x_Zero_RootError, ⟨ga_BadLine, gg_BadLine, su_BadLine, hd_BadLine⟩, ⟨ga_BadLists, gg_BadLists, su_BadLists, hd_BadLists⟩, ⟨ga_BadPoly, gg_BadPoly, su_BadPoly, hd_BadPoly⟩, (memc ⟨PySem.W.mg_of X G aC_BadLine, e_BadLine⟩ (memc ⟨PySem.W.mg_of X G aC_BadLists, e_BadLists⟩ (memc ⟨PySem.W.mg_of X G aC_BadNumber, e_BadNumber⟩ (memc ⟨PySem.W.mg_of X G aC_BadPoints, e_BadPoints⟩ (memc ⟨PySem.W.mg_of X G aC_BadPoly, e_BadPoly⟩ (memc ⟨PySem.W.mg_of X G aC_BadPrime, e_BadPrime⟩ (memc ⟨PySem.W.mg_of X G aC_BadRoots, e_BadRoots⟩ (memc ⟨PySem.W.mg_of X G aC_Common, e_Common⟩ (memc ⟨PySem.W.mg_of X G aC_Flat, e_Flat⟩ (memc ⟨PySem.W.mg_of X G aC_Rising, e_Rising⟩ (memc ⟨PySem.W.mg_of X G aC_Zero, e_Zero⟩ (fun _ z => (List.not_mem_nil z).elim)))))))))))), kb_BadLine, kb_BadLists, kb_BadNumber, kb_BadPoints, kb_BadPoly, kb_BadPrime, kb_BadRoots, kb_Common, kb_Flat, kb_Rising, kb_ValueError, kb_Zero, nf_BadLine_line, nf_BadLine_word, nf_BadLists_index, nf_BadPoly_index, trivial⟩).imp fun vs H Q E hs => sp_law hs fun ns => m_law_true ns⟩
end L3
open PySem PySem.W PyProof.Rows
set_option maxRecDepth 100000 in
set_option maxHeartbeats 0 in
theorem PySem.Challenge.cw_fewroots_k17_errors_apart_holds : PySem.Challenge.rw_fewroots_k17_errors_apart.Holds := by
  w_on; o_law; k_head; (case hw => w_witness2)
  k_fill
  refine L2.walk_of (l := PySem.Challenge.rw_fewroots_k17_errors_apart) (n := 63) (k := 10) (x := "_law_script") (CX := fun w => L2.CX PySem.Challenge.rw_fewroots_k17_errors_apart.prog w) (sp := fun w => L3.spLaw _) rfl (by decide) rfl ⟨rfl, by decide, by decide⟩ (fun w h Y => PySem.W.kIn_of Y) ?F (fun _ _ a ns hl _ hS => ⟨a, ns, rfl, hS, fun _ => rfl⟩) (fun _ _ _ _ _ h => L3.cx_no h)
  case F =>
    intro w mg fa h KX G hmg
    refine' L3.all_mk KX G hmg ?aC_Desk ?pg_Desk ?hd_Desk ?po_Desk ?sa_Desk ?mx_Desk ?kpc_Desk ?na_Desk_rows ?a_check_rests ?l_check_rests ?c_check_rests ?k_check_rests ?a_roots_by ?l_roots_by ?c_roots_by ?k_roots_by ?a_reduced ?l_reduced ?c_reduced ?k_reduced ?a_power_of ?l_power_of ?c_power_of ?k_power_of ?a_many_roots ?l_many_roots ?c_many_roots ?k_many_roots ?a_tree_of ?l_tree_of ?c_tree_of ?k_tree_of ?a__law_draws ?l__law_draws ?c__law_draws ?k__law_draws ?a__law_pick ?l__law_pick ?c__law_pick ?k__law_pick ?a_is_from ?l_is_from ?c_is_from ?k_is_from ?a_check_prime ?l_check_prime ?c_check_prime ?k_check_prime ?a_unlike_by ?l_unlike_by ?c_unlike_by ?k_unlike_by ?a_check_power ?l_check_power ?c_check_power ?k_check_power ?a_barred ?l_barred ?c_barred ?k_barred ?a_is_point ?l_is_point ?c_is_point ?k_is_point ?a_check_points ?l_check_points ?c_check_points ?k_check_points ?a_trimmed ?l_trimmed ?c_trimmed ?k_trimmed ?a_plus_of ?l_plus_of ?c_plus_of ?k_plus_of ?a_scaled ?l_scaled ?c_scaled ?k_scaled ?a_times_of ?l_times_of ?c_times_of ?k_times_of ?a_through ?l_through ?c_through ?k_through ?a_is_root ?l_is_root ?c_is_root ?k_is_root ?a_by_roots ?l_by_roots ?c_by_roots ?k_by_roots ?a_check_poly ?l_check_poly ?c_check_poly ?k_check_poly ?a_check_zero ?l_check_zero ?c_check_zero ?k_check_zero ?a_unlike ?l_unlike ?c_unlike ?k_unlike ?a_divisor ?l_divisor ?c_divisor ?k_divisor ?a_plain ?l_plain ?c_plain ?k_plain ?a_less_of ?l_less_of ?c_less_of ?k_less_of ?a_left_over ?l_left_over ?c_left_over ?k_left_over ?a_common_of ?l_common_of ?c_common_of ?k_common_of ?a_check_sum ?l_check_sum ?c_check_sum ?k_check_sum ?a_measure ?l_measure ?c_measure ?k_measure ?a_Desk_step ?fn_Desk_step ?l_Desk_step ?c_Desk_step ?k_Desk_step ?a_Desk_stretch ?fn_Desk_stretch ?l_Desk_stretch ?c_Desk_stretch ?k_Desk_stretch ?a_plus ?l_plus ?c_plus ?k_plus ?a_Desk___init__ ?fn_Desk___init__ ?l_Desk___init__ ?c_Desk___init__ ?k_Desk___init__ ?a_is_list ?l_is_list ?c_is_list ?k_is_list ?a_check_lists ?l_check_lists ?c_check_lists ?k_check_lists ?a_tree ?l_tree ?c_tree ?k_tree ?a_is_whole ?l_is_whole ?c_is_whole ?k_is_whole ?a_poly_in ?l_poly_in ?c_poly_in ?k_poly_in ?a_read ?l_read ?c_read ?k_read ?a__law_raised ?l__law_raised ?c__law_raised ?k__law_raised ?a__law_kinds ?l__law_kinds ?c__law_kinds ?k__law_kinds ?a_law ?l_law ?c_law ?k_law ?v_DIGITS ?v_FAR ?v_MOST_FIGURES ?v_MOST_HEIGHT ?v_MOST_LIST ?v_MOST_PLACE ?v_MOST_POINTS ?v_MOST_POWER ?v_MOST_ROOT ?v_MOST_STRETCH ?v_MOST_TERMS ?v_MOST_TIMES ?v_POLY ?v_PRIMES ?l_PRIMES ?z_ValueError ?z_abs ?z_all ?z_any ?z_bool ?z_enumerate ?z_int ?z_isinstance ?z_len ?z_list ?z_max ?z_range ?z_sum ?z_tuple ?z_zip ?gsp ?gtk ?aC_BadLine ?su_BadLine ?ty_BadLine ?hd_BadLine ?kp_BadLine ?cl_BadLine ?ga_BadLine ?gg_BadLine ?ac_BadLine ?mr_BadLine ?xL_BadLine ?rf_BadLine ?sa_BadLine ?nf_BadLine_line ?nf_BadLine_word ?iC_BadLine ?tI_BadLine ?li_BadLine ?ci_BadLine ?ki_BadLine ?aC_BadLists ?su_BadLists ?ty_BadLists ?hd_BadLists ?kp_BadLists ?cl_BadLists ?ga_BadLists ?gg_BadLists ?ac_BadLists ?mr_BadLists ?xL_BadLists ?rf_BadLists ?sa_BadLists ?nf_BadLists_index ?iC_BadLists ?tI_BadLists ?li_BadLists ?ci_BadLists ?ki_BadLists ?aC_BadNumber ?su_BadNumber ?ty_BadNumber ?hd_BadNumber ?kp_BadNumber ?cl_BadNumber ?ga_BadNumber ?gg_BadNumber ?ac_BadNumber ?mr_BadNumber ?ex_BadNumber ?aC_BadPoints ?su_BadPoints ?ty_BadPoints ?hd_BadPoints ?kp_BadPoints ?cl_BadPoints ?ga_BadPoints ?gg_BadPoints ?ac_BadPoints ?mr_BadPoints ?ex_BadPoints ?aC_BadPoly ?su_BadPoly ?ty_BadPoly ?hd_BadPoly ?kp_BadPoly ?cl_BadPoly ?ga_BadPoly ?gg_BadPoly ?ac_BadPoly ?mr_BadPoly ?xL_BadPoly ?rf_BadPoly ?sa_BadPoly ?nf_BadPoly_index ?iC_BadPoly ?tI_BadPoly ?li_BadPoly ?ci_BadPoly ?ki_BadPoly ?aC_BadPrime ?su_BadPrime ?ty_BadPrime ?hd_BadPrime ?kp_BadPrime ?cl_BadPrime ?ga_BadPrime ?gg_BadPrime ?ac_BadPrime ?mr_BadPrime ?ex_BadPrime ?aC_BadRoots ?su_BadRoots ?ty_BadRoots ?hd_BadRoots ?kp_BadRoots ?cl_BadRoots ?ga_BadRoots ?gg_BadRoots ?ac_BadRoots ?mr_BadRoots ?ex_BadRoots ?aC_Common ?su_Common ?ty_Common ?hd_Common ?kp_Common ?cl_Common ?ga_Common ?gg_Common ?ac_Common ?mr_Common ?ex_Common ?aC_Flat ?su_Flat ?ty_Flat ?hd_Flat ?kp_Flat ?cl_Flat ?ga_Flat ?gg_Flat ?ac_Flat ?mr_Flat ?ex_Flat ?aC_Rising ?su_Rising ?ty_Rising ?hd_Rising ?kp_Rising ?cl_Rising ?ga_Rising ?gg_Rising ?ac_Rising ?mr_Rising ?ex_Rising ?aC_RootError ?su_RootError ?ty_RootError ?hd_RootError ?aC_Zero ?su_Zero ?ty_Zero ?hd_Zero ?kp_Zero ?cl_Zero ?ga_Zero ?gg_Zero ?ac_Zero ?mr_Zero ?ex_Zero ?x_BadLine_RootError ?x_BadLists_RootError ?x_BadNumber_RootError ?x_BadPoints_RootError ?x_BadPoly_RootError ?x_BadPrime_RootError ?x_BadRoots_RootError ?x_Common_RootError ?x_Flat_RootError ?x_Rising_RootError ?x_Zero_RootError ?kb_BadLine ?kb_BadLists ?kb_BadNumber ?kb_BadPoints ?kb_BadPoly ?kb_BadPrime ?kb_BadRoots ?kb_Common ?kb_Flat ?kb_Rising ?kb_ValueError ?kb_Zero
    (case aC_Desk => first | k_is | kit_is | k_exc | rfl)
    (case pg_Desk => first | k_is | kit_is | k_exc | rfl)
    (case hd_Desk => first | k_is | kit_is | k_exc | rfl)
    (case po_Desk => first | k_is | kit_is | k_exc | rfl)
    (case sa_Desk => first | k_is | kit_is | k_exc | rfl)
    (case mx_Desk => first | k_is | kit_is | k_exc | rfl)
    (case kpc_Desk => first | k_is | kit_is | k_exc | rfl)
    (case na_Desk_rows => first | k_is | kit_is | k_exc | rfl)
    (case a_check_rests => first | k_is | kit_is | k_exc | rfl)
    (case l_check_rests => first | k_is | kit_is | k_exc | rfl)
    (case c_check_rests => first | k_is | kit_is | k_exc | rfl)
    (case k_check_rests => first | k_is | kit_is | k_exc | rfl)
    (case a_roots_by => first | k_is | kit_is | k_exc | rfl)
    (case l_roots_by => first | k_is | kit_is | k_exc | rfl)
    (case c_roots_by => first | k_is | kit_is | k_exc | rfl)
    (case k_roots_by => first | k_is | kit_is | k_exc | rfl)
    (case a_reduced => first | k_is | kit_is | k_exc | rfl)
    (case l_reduced => first | k_is | kit_is | k_exc | rfl)
    (case c_reduced => first | k_is | kit_is | k_exc | rfl)
    (case k_reduced => first | k_is | kit_is | k_exc | rfl)
    (case a_power_of => first | k_is | kit_is | k_exc | rfl)
    (case l_power_of => first | k_is | kit_is | k_exc | rfl)
    (case c_power_of => first | k_is | kit_is | k_exc | rfl)
    (case k_power_of => first | k_is | kit_is | k_exc | rfl)
    (case a_many_roots => first | k_is | kit_is | k_exc | rfl)
    (case l_many_roots => first | k_is | kit_is | k_exc | rfl)
    (case c_many_roots => first | k_is | kit_is | k_exc | rfl)
    (case k_many_roots => first | k_is | kit_is | k_exc | rfl)
    (case a_tree_of => first | k_is | kit_is | k_exc | rfl)
    (case l_tree_of => first | k_is | kit_is | k_exc | rfl)
    (case c_tree_of => first | k_is | kit_is | k_exc | rfl)
    (case k_tree_of => first | k_is | kit_is | k_exc | rfl)
    (case a__law_draws => first | k_is | kit_is | k_exc | rfl)
    (case l__law_draws => first | k_is | kit_is | k_exc | rfl)
    (case c__law_draws => first | k_is | kit_is | k_exc | rfl)
    (case k__law_draws => first | k_is | kit_is | k_exc | rfl)
    (case a__law_pick => first | k_is | kit_is | k_exc | rfl)
    (case l__law_pick => first | k_is | kit_is | k_exc | rfl)
    (case c__law_pick => first | k_is | kit_is | k_exc | rfl)
    (case k__law_pick => first | k_is | kit_is | k_exc | rfl)
    (case a_is_from => first | k_is | kit_is | k_exc | rfl)
    (case l_is_from => first | k_is | kit_is | k_exc | rfl)
    (case c_is_from => first | k_is | kit_is | k_exc | rfl)
    (case k_is_from => first | k_is | kit_is | k_exc | rfl)
    (case a_check_prime => first | k_is | kit_is | k_exc | rfl)
    (case l_check_prime => first | k_is | kit_is | k_exc | rfl)
    (case c_check_prime => first | k_is | kit_is | k_exc | rfl)
    (case k_check_prime => first | k_is | kit_is | k_exc | rfl)
    (case a_unlike_by => first | k_is | kit_is | k_exc | rfl)
    (case l_unlike_by => first | k_is | kit_is | k_exc | rfl)
    (case c_unlike_by => first | k_is | kit_is | k_exc | rfl)
    (case k_unlike_by => first | k_is | kit_is | k_exc | rfl)
    (case a_check_power => first | k_is | kit_is | k_exc | rfl)
    (case l_check_power => first | k_is | kit_is | k_exc | rfl)
    (case c_check_power => first | k_is | kit_is | k_exc | rfl)
    (case k_check_power => first | k_is | kit_is | k_exc | rfl)
    (case a_barred => first | k_is | kit_is | k_exc | rfl)
    (case l_barred => first | k_is | kit_is | k_exc | rfl)
    (case c_barred => first | k_is | kit_is | k_exc | rfl)
    (case k_barred => first | k_is | kit_is | k_exc | rfl)
    (case a_is_point => first | k_is | kit_is | k_exc | rfl)
    (case l_is_point => first | k_is | kit_is | k_exc | rfl)
    (case c_is_point => first | k_is | kit_is | k_exc | rfl)
    (case k_is_point => first | k_is | kit_is | k_exc | rfl)
    (case a_check_points => first | k_is | kit_is | k_exc | rfl)
    (case l_check_points => first | k_is | kit_is | k_exc | rfl)
    (case c_check_points => first | k_is | kit_is | k_exc | rfl)
    (case k_check_points => first | k_is | kit_is | k_exc | rfl)
    (case a_trimmed => first | k_is | kit_is | k_exc | rfl)
    (case l_trimmed => first | k_is | kit_is | k_exc | rfl)
    (case c_trimmed => first | k_is | kit_is | k_exc | rfl)
    (case k_trimmed => first | k_is | kit_is | k_exc | rfl)
    (case a_plus_of => first | k_is | kit_is | k_exc | rfl)
    (case l_plus_of => first | k_is | kit_is | k_exc | rfl)
    (case c_plus_of => first | k_is | kit_is | k_exc | rfl)
    (case k_plus_of => first | k_is | kit_is | k_exc | rfl)
    (case a_scaled => first | k_is | kit_is | k_exc | rfl)
    (case l_scaled => first | k_is | kit_is | k_exc | rfl)
    (case c_scaled => first | k_is | kit_is | k_exc | rfl)
    (case k_scaled => first | k_is | kit_is | k_exc | rfl)
    (case a_times_of => first | k_is | kit_is | k_exc | rfl)
    (case l_times_of => first | k_is | kit_is | k_exc | rfl)
    (case c_times_of => first | k_is | kit_is | k_exc | rfl)
    (case k_times_of => first | k_is | kit_is | k_exc | rfl)
    (case a_through => first | k_is | kit_is | k_exc | rfl)
    (case l_through => first | k_is | kit_is | k_exc | rfl)
    (case c_through => first | k_is | kit_is | k_exc | rfl)
    (case k_through => first | k_is | kit_is | k_exc | rfl)
    (case a_is_root => first | k_is | kit_is | k_exc | rfl)
    (case l_is_root => first | k_is | kit_is | k_exc | rfl)
    (case c_is_root => first | k_is | kit_is | k_exc | rfl)
    (case k_is_root => first | k_is | kit_is | k_exc | rfl)
    (case a_by_roots => first | k_is | kit_is | k_exc | rfl)
    (case l_by_roots => first | k_is | kit_is | k_exc | rfl)
    (case c_by_roots => first | k_is | kit_is | k_exc | rfl)
    (case k_by_roots => first | k_is | kit_is | k_exc | rfl)
    (case a_check_poly => first | k_is | kit_is | k_exc | rfl)
    (case l_check_poly => first | k_is | kit_is | k_exc | rfl)
    (case c_check_poly => first | k_is | kit_is | k_exc | rfl)
    (case k_check_poly => first | k_is | kit_is | k_exc | rfl)
    (case a_check_zero => first | k_is | kit_is | k_exc | rfl)
    (case l_check_zero => first | k_is | kit_is | k_exc | rfl)
    (case c_check_zero => first | k_is | kit_is | k_exc | rfl)
    (case k_check_zero => first | k_is | kit_is | k_exc | rfl)
    (case a_unlike => first | k_is | kit_is | k_exc | rfl)
    (case l_unlike => first | k_is | kit_is | k_exc | rfl)
    (case c_unlike => first | k_is | kit_is | k_exc | rfl)
    (case k_unlike => first | k_is | kit_is | k_exc | rfl)
    (case a_divisor => first | k_is | kit_is | k_exc | rfl)
    (case l_divisor => first | k_is | kit_is | k_exc | rfl)
    (case c_divisor => first | k_is | kit_is | k_exc | rfl)
    (case k_divisor => first | k_is | kit_is | k_exc | rfl)
    (case a_plain => first | k_is | kit_is | k_exc | rfl)
    (case l_plain => first | k_is | kit_is | k_exc | rfl)
    (case c_plain => first | k_is | kit_is | k_exc | rfl)
    (case k_plain => first | k_is | kit_is | k_exc | rfl)
    (case a_less_of => first | k_is | kit_is | k_exc | rfl)
    (case l_less_of => first | k_is | kit_is | k_exc | rfl)
    (case c_less_of => first | k_is | kit_is | k_exc | rfl)
    (case k_less_of => first | k_is | kit_is | k_exc | rfl)
    (case a_left_over => first | k_is | kit_is | k_exc | rfl)
    (case l_left_over => first | k_is | kit_is | k_exc | rfl)
    (case c_left_over => first | k_is | kit_is | k_exc | rfl)
    (case k_left_over => first | k_is | kit_is | k_exc | rfl)
    (case a_common_of => first | k_is | kit_is | k_exc | rfl)
    (case l_common_of => first | k_is | kit_is | k_exc | rfl)
    (case c_common_of => first | k_is | kit_is | k_exc | rfl)
    (case k_common_of => first | k_is | kit_is | k_exc | rfl)
    (case a_check_sum => first | k_is | kit_is | k_exc | rfl)
    (case l_check_sum => first | k_is | kit_is | k_exc | rfl)
    (case c_check_sum => first | k_is | kit_is | k_exc | rfl)
    (case k_check_sum => first | k_is | kit_is | k_exc | rfl)
    (case a_measure => first | k_is | kit_is | k_exc | rfl)
    (case l_measure => first | k_is | kit_is | k_exc | rfl)
    (case c_measure => first | k_is | kit_is | k_exc | rfl)
    (case k_measure => first | k_is | kit_is | k_exc | rfl)
    (case a_Desk_step => first | k_is | kit_is | k_exc | rfl)
    (case fn_Desk_step => first | k_is | kit_is | k_exc | rfl)
    (case l_Desk_step => first | k_is | kit_is | k_exc | rfl)
    (case c_Desk_step => first | k_is | kit_is | k_exc | rfl)
    (case k_Desk_step => first | k_is | kit_is | k_exc | rfl)
    (case a_Desk_stretch => first | k_is | kit_is | k_exc | rfl)
    (case fn_Desk_stretch => first | k_is | kit_is | k_exc | rfl)
    (case l_Desk_stretch => first | k_is | kit_is | k_exc | rfl)
    (case c_Desk_stretch => first | k_is | kit_is | k_exc | rfl)
    (case k_Desk_stretch => first | k_is | kit_is | k_exc | rfl)
    (case a_plus => first | k_is | kit_is | k_exc | rfl)
    (case l_plus => first | k_is | kit_is | k_exc | rfl)
    (case c_plus => first | k_is | kit_is | k_exc | rfl)
    (case k_plus => first | k_is | kit_is | k_exc | rfl)
    (case a_Desk___init__ => first | k_is | kit_is | k_exc | rfl)
    (case fn_Desk___init__ => first | k_is | kit_is | k_exc | rfl)
    (case l_Desk___init__ => first | k_is | kit_is | k_exc | rfl)
    (case c_Desk___init__ => first | k_is | kit_is | k_exc | rfl)
    (case k_Desk___init__ => first | k_is | kit_is | k_exc | rfl)
    (case a_is_list => first | k_is | kit_is | k_exc | rfl)
    (case l_is_list => first | k_is | kit_is | k_exc | rfl)
    (case c_is_list => first | k_is | kit_is | k_exc | rfl)
    (case k_is_list => first | k_is | kit_is | k_exc | rfl)
    (case a_check_lists => first | k_is | kit_is | k_exc | rfl)
    (case l_check_lists => first | k_is | kit_is | k_exc | rfl)
    (case c_check_lists => first | k_is | kit_is | k_exc | rfl)
    (case k_check_lists => first | k_is | kit_is | k_exc | rfl)
    (case a_tree => first | k_is | kit_is | k_exc | rfl)
    (case l_tree => first | k_is | kit_is | k_exc | rfl)
    (case c_tree => first | k_is | kit_is | k_exc | rfl)
    (case k_tree => first | k_is | kit_is | k_exc | rfl)
    (case a_is_whole => first | k_is | kit_is | k_exc | rfl)
    (case l_is_whole => first | k_is | kit_is | k_exc | rfl)
    (case c_is_whole => first | k_is | kit_is | k_exc | rfl)
    (case k_is_whole => first | k_is | kit_is | k_exc | rfl)
    (case a_poly_in => first | k_is | kit_is | k_exc | rfl)
    (case l_poly_in => first | k_is | kit_is | k_exc | rfl)
    (case c_poly_in => first | k_is | kit_is | k_exc | rfl)
    (case k_poly_in => first | k_is | kit_is | k_exc | rfl)
    (case a_read => first | k_is | kit_is | k_exc | rfl)
    (case l_read => first | k_is | kit_is | k_exc | rfl)
    (case c_read => first | k_is | kit_is | k_exc | rfl)
    (case k_read => first | k_is | kit_is | k_exc | rfl)
    (case a__law_raised => first | k_is | kit_is | k_exc | rfl)
    (case l__law_raised => first | k_is | kit_is | k_exc | rfl)
    (case c__law_raised => first | k_is | kit_is | k_exc | rfl)
    (case k__law_raised => first | k_is | kit_is | k_exc | rfl)
    (case a__law_kinds => first | k_is | kit_is | k_exc | rfl)
    (case l__law_kinds => first | k_is | kit_is | k_exc | rfl)
    (case c__law_kinds => first | k_is | kit_is | k_exc | rfl)
    (case k__law_kinds => first | k_is | kit_is | k_exc | rfl)
    (case a_law => first | k_is | kit_is | k_exc | rfl)
    (case l_law => first | k_is | kit_is | k_exc | rfl)
    (case c_law => first | k_is | kit_is | k_exc | rfl)
    (case k_law => first | k_is | kit_is | k_exc | rfl)
    (case v_DIGITS => first | k_is | kit_is | k_exc | rfl)
    (case v_FAR => first | k_is | kit_is | k_exc | rfl)
    (case v_MOST_FIGURES => first | k_is | kit_is | k_exc | rfl)
    (case v_MOST_HEIGHT => first | k_is | kit_is | k_exc | rfl)
    (case v_MOST_LIST => first | k_is | kit_is | k_exc | rfl)
    (case v_MOST_PLACE => first | k_is | kit_is | k_exc | rfl)
    (case v_MOST_POINTS => first | k_is | kit_is | k_exc | rfl)
    (case v_MOST_POWER => first | k_is | kit_is | k_exc | rfl)
    (case v_MOST_ROOT => first | k_is | kit_is | k_exc | rfl)
    (case v_MOST_STRETCH => first | k_is | kit_is | k_exc | rfl)
    (case v_MOST_TERMS => first | k_is | kit_is | k_exc | rfl)
    (case v_MOST_TIMES => first | k_is | kit_is | k_exc | rfl)
    (case v_POLY => first | k_is | kit_is | k_exc | rfl)
    (case v_PRIMES => first | k_is | kit_is | k_exc | rfl)
    (case l_PRIMES => first | k_is | kit_is | k_exc | rfl)
    (case z_ValueError => first | k_is | kit_is | k_exc | rfl)
    (case z_abs => first | k_is | kit_is | k_exc | rfl)
    (case z_all => first | k_is | kit_is | k_exc | rfl)
    (case z_any => first | k_is | kit_is | k_exc | rfl)
    (case z_bool => first | k_is | kit_is | k_exc | rfl)
    (case z_enumerate => first | k_is | kit_is | k_exc | rfl)
    (case z_int => first | k_is | kit_is | k_exc | rfl)
    (case z_isinstance => first | k_is | kit_is | k_exc | rfl)
    (case z_len => first | k_is | kit_is | k_exc | rfl)
    (case z_list => first | k_is | kit_is | k_exc | rfl)
    (case z_max => first | k_is | kit_is | k_exc | rfl)
    (case z_range => first | k_is | kit_is | k_exc | rfl)
    (case z_sum => first | k_is | kit_is | k_exc | rfl)
    (case z_tuple => first | k_is | kit_is | k_exc | rfl)
    (case z_zip => first | k_is | kit_is | k_exc | rfl)
    (case gsp => first | k_is | kit_is | k_exc | rfl)
    (case gtk => first | k_is | kit_is | k_exc | rfl)
    (case aC_BadLine => first | k_is | kit_is | k_exc | rfl)
    (case su_BadLine => first | k_is | kit_is | k_exc | rfl)
    (case ty_BadLine => first | k_is | kit_is | k_exc | rfl)
    (case hd_BadLine => first | k_is | kit_is | k_exc | rfl)
    (case kp_BadLine => first | k_is | kit_is | k_exc | rfl)
    (case cl_BadLine => first | k_is | kit_is | k_exc | rfl)
    (case ga_BadLine => first | k_is | kit_is | k_exc | rfl)
    (case gg_BadLine => first | k_is | kit_is | k_exc | rfl)
    (case ac_BadLine => first | k_is | kit_is | k_exc | rfl)
    (case mr_BadLine => first | k_is | kit_is | k_exc | rfl)
    (case xL_BadLine => first | k_is | kit_is | k_exc | rfl)
    (case rf_BadLine => first | k_is | kit_is | k_exc | rfl)
    (case sa_BadLine => first | k_is | kit_is | k_exc | rfl)
    (case nf_BadLine_line => first | k_is | kit_is | k_exc | rfl)
    (case nf_BadLine_word => first | k_is | kit_is | k_exc | rfl)
    (case iC_BadLine => first | k_is | kit_is | k_exc | rfl)
    (case tI_BadLine => first | k_is | kit_is | k_exc | rfl)
    (case li_BadLine => first | k_is | kit_is | k_exc | rfl)
    (case ci_BadLine => first | k_is | kit_is | k_exc | rfl)
    (case ki_BadLine => first | k_is | kit_is | k_exc | rfl)
    (case aC_BadLists => first | k_is | kit_is | k_exc | rfl)
    (case su_BadLists => first | k_is | kit_is | k_exc | rfl)
    (case ty_BadLists => first | k_is | kit_is | k_exc | rfl)
    (case hd_BadLists => first | k_is | kit_is | k_exc | rfl)
    (case kp_BadLists => first | k_is | kit_is | k_exc | rfl)
    (case cl_BadLists => first | k_is | kit_is | k_exc | rfl)
    (case ga_BadLists => first | k_is | kit_is | k_exc | rfl)
    (case gg_BadLists => first | k_is | kit_is | k_exc | rfl)
    (case ac_BadLists => first | k_is | kit_is | k_exc | rfl)
    (case mr_BadLists => first | k_is | kit_is | k_exc | rfl)
    (case xL_BadLists => first | k_is | kit_is | k_exc | rfl)
    (case rf_BadLists => first | k_is | kit_is | k_exc | rfl)
    (case sa_BadLists => first | k_is | kit_is | k_exc | rfl)
    (case nf_BadLists_index => first | k_is | kit_is | k_exc | rfl)
    (case iC_BadLists => first | k_is | kit_is | k_exc | rfl)
    (case tI_BadLists => first | k_is | kit_is | k_exc | rfl)
    (case li_BadLists => first | k_is | kit_is | k_exc | rfl)
    (case ci_BadLists => first | k_is | kit_is | k_exc | rfl)
    (case ki_BadLists => first | k_is | kit_is | k_exc | rfl)
    (case aC_BadNumber => first | k_is | kit_is | k_exc | rfl)
    (case su_BadNumber => first | k_is | kit_is | k_exc | rfl)
    (case ty_BadNumber => first | k_is | kit_is | k_exc | rfl)
    (case hd_BadNumber => first | k_is | kit_is | k_exc | rfl)
    (case kp_BadNumber => first | k_is | kit_is | k_exc | rfl)
    (case cl_BadNumber => first | k_is | kit_is | k_exc | rfl)
    (case ga_BadNumber => first | k_is | kit_is | k_exc | rfl)
    (case gg_BadNumber => first | k_is | kit_is | k_exc | rfl)
    (case ac_BadNumber => first | k_is | kit_is | k_exc | rfl)
    (case mr_BadNumber => first | k_is | kit_is | k_exc | rfl)
    (case ex_BadNumber => first | k_is | kit_is | k_exc | rfl)
    (case aC_BadPoints => first | k_is | kit_is | k_exc | rfl)
    (case su_BadPoints => first | k_is | kit_is | k_exc | rfl)
    (case ty_BadPoints => first | k_is | kit_is | k_exc | rfl)
    (case hd_BadPoints => first | k_is | kit_is | k_exc | rfl)
    (case kp_BadPoints => first | k_is | kit_is | k_exc | rfl)
    (case cl_BadPoints => first | k_is | kit_is | k_exc | rfl)
    (case ga_BadPoints => first | k_is | kit_is | k_exc | rfl)
    (case gg_BadPoints => first | k_is | kit_is | k_exc | rfl)
    (case ac_BadPoints => first | k_is | kit_is | k_exc | rfl)
    (case mr_BadPoints => first | k_is | kit_is | k_exc | rfl)
    (case ex_BadPoints => first | k_is | kit_is | k_exc | rfl)
    (case aC_BadPoly => first | k_is | kit_is | k_exc | rfl)
    (case su_BadPoly => first | k_is | kit_is | k_exc | rfl)
    (case ty_BadPoly => first | k_is | kit_is | k_exc | rfl)
    (case hd_BadPoly => first | k_is | kit_is | k_exc | rfl)
    (case kp_BadPoly => first | k_is | kit_is | k_exc | rfl)
    (case cl_BadPoly => first | k_is | kit_is | k_exc | rfl)
    (case ga_BadPoly => first | k_is | kit_is | k_exc | rfl)
    (case gg_BadPoly => first | k_is | kit_is | k_exc | rfl)
    (case ac_BadPoly => first | k_is | kit_is | k_exc | rfl)
    (case mr_BadPoly => first | k_is | kit_is | k_exc | rfl)
    (case xL_BadPoly => first | k_is | kit_is | k_exc | rfl)
    (case rf_BadPoly => first | k_is | kit_is | k_exc | rfl)
    (case sa_BadPoly => first | k_is | kit_is | k_exc | rfl)
    (case nf_BadPoly_index => first | k_is | kit_is | k_exc | rfl)
    (case iC_BadPoly => first | k_is | kit_is | k_exc | rfl)
    (case tI_BadPoly => first | k_is | kit_is | k_exc | rfl)
    (case li_BadPoly => first | k_is | kit_is | k_exc | rfl)
    (case ci_BadPoly => first | k_is | kit_is | k_exc | rfl)
    (case ki_BadPoly => first | k_is | kit_is | k_exc | rfl)
    (case aC_BadPrime => first | k_is | kit_is | k_exc | rfl)
    (case su_BadPrime => first | k_is | kit_is | k_exc | rfl)
    (case ty_BadPrime => first | k_is | kit_is | k_exc | rfl)
    (case hd_BadPrime => first | k_is | kit_is | k_exc | rfl)
    (case kp_BadPrime => first | k_is | kit_is | k_exc | rfl)
    (case cl_BadPrime => first | k_is | kit_is | k_exc | rfl)
    (case ga_BadPrime => first | k_is | kit_is | k_exc | rfl)
    (case gg_BadPrime => first | k_is | kit_is | k_exc | rfl)
    (case ac_BadPrime => first | k_is | kit_is | k_exc | rfl)
    (case mr_BadPrime => first | k_is | kit_is | k_exc | rfl)
    (case ex_BadPrime => first | k_is | kit_is | k_exc | rfl)
    (case aC_BadRoots => first | k_is | kit_is | k_exc | rfl)
    (case su_BadRoots => first | k_is | kit_is | k_exc | rfl)
    (case ty_BadRoots => first | k_is | kit_is | k_exc | rfl)
    (case hd_BadRoots => first | k_is | kit_is | k_exc | rfl)
    (case kp_BadRoots => first | k_is | kit_is | k_exc | rfl)
    (case cl_BadRoots => first | k_is | kit_is | k_exc | rfl)
    (case ga_BadRoots => first | k_is | kit_is | k_exc | rfl)
    (case gg_BadRoots => first | k_is | kit_is | k_exc | rfl)
    (case ac_BadRoots => first | k_is | kit_is | k_exc | rfl)
    (case mr_BadRoots => first | k_is | kit_is | k_exc | rfl)
    (case ex_BadRoots => first | k_is | kit_is | k_exc | rfl)
    (case aC_Common => first | k_is | kit_is | k_exc | rfl)
    (case su_Common => first | k_is | kit_is | k_exc | rfl)
    (case ty_Common => first | k_is | kit_is | k_exc | rfl)
    (case hd_Common => first | k_is | kit_is | k_exc | rfl)
    (case kp_Common => first | k_is | kit_is | k_exc | rfl)
    (case cl_Common => first | k_is | kit_is | k_exc | rfl)
    (case ga_Common => first | k_is | kit_is | k_exc | rfl)
    (case gg_Common => first | k_is | kit_is | k_exc | rfl)
    (case ac_Common => first | k_is | kit_is | k_exc | rfl)
    (case mr_Common => first | k_is | kit_is | k_exc | rfl)
    (case ex_Common => first | k_is | kit_is | k_exc | rfl)
    (case aC_Flat => first | k_is | kit_is | k_exc | rfl)
    (case su_Flat => first | k_is | kit_is | k_exc | rfl)
    (case ty_Flat => first | k_is | kit_is | k_exc | rfl)
    (case hd_Flat => first | k_is | kit_is | k_exc | rfl)
    (case kp_Flat => first | k_is | kit_is | k_exc | rfl)
    (case cl_Flat => first | k_is | kit_is | k_exc | rfl)
    (case ga_Flat => first | k_is | kit_is | k_exc | rfl)
    (case gg_Flat => first | k_is | kit_is | k_exc | rfl)
    (case ac_Flat => first | k_is | kit_is | k_exc | rfl)
    (case mr_Flat => first | k_is | kit_is | k_exc | rfl)
    (case ex_Flat => first | k_is | kit_is | k_exc | rfl)
    (case aC_Rising => first | k_is | kit_is | k_exc | rfl)
    (case su_Rising => first | k_is | kit_is | k_exc | rfl)
    (case ty_Rising => first | k_is | kit_is | k_exc | rfl)
    (case hd_Rising => first | k_is | kit_is | k_exc | rfl)
    (case kp_Rising => first | k_is | kit_is | k_exc | rfl)
    (case cl_Rising => first | k_is | kit_is | k_exc | rfl)
    (case ga_Rising => first | k_is | kit_is | k_exc | rfl)
    (case gg_Rising => first | k_is | kit_is | k_exc | rfl)
    (case ac_Rising => first | k_is | kit_is | k_exc | rfl)
    (case mr_Rising => first | k_is | kit_is | k_exc | rfl)
    (case ex_Rising => first | k_is | kit_is | k_exc | rfl)
    (case aC_RootError => first | k_is | kit_is | k_exc | rfl)
    (case su_RootError => first | k_is | kit_is | k_exc | rfl)
    (case ty_RootError => first | k_is | kit_is | k_exc | rfl)
    (case hd_RootError => first | k_is | kit_is | k_exc | rfl)
    (case aC_Zero => first | k_is | kit_is | k_exc | rfl)
    (case su_Zero => first | k_is | kit_is | k_exc | rfl)
    (case ty_Zero => first | k_is | kit_is | k_exc | rfl)
    (case hd_Zero => first | k_is | kit_is | k_exc | rfl)
    (case kp_Zero => first | k_is | kit_is | k_exc | rfl)
    (case cl_Zero => first | k_is | kit_is | k_exc | rfl)
    (case ga_Zero => first | k_is | kit_is | k_exc | rfl)
    (case gg_Zero => first | k_is | kit_is | k_exc | rfl)
    (case ac_Zero => first | k_is | kit_is | k_exc | rfl)
    (case mr_Zero => first | k_is | kit_is | k_exc | rfl)
    (case ex_Zero => first | k_is | kit_is | k_exc | rfl)
    (case x_BadLine_RootError => first | k_is | kit_is | k_exc | rfl)
    (case x_BadLists_RootError => first | k_is | kit_is | k_exc | rfl)
    (case x_BadNumber_RootError => first | k_is | kit_is | k_exc | rfl)
    (case x_BadPoints_RootError => first | k_is | kit_is | k_exc | rfl)
    (case x_BadPoly_RootError => first | k_is | kit_is | k_exc | rfl)
    (case x_BadPrime_RootError => first | k_is | kit_is | k_exc | rfl)
    (case x_BadRoots_RootError => first | k_is | kit_is | k_exc | rfl)
    (case x_Common_RootError => first | k_is | kit_is | k_exc | rfl)
    (case x_Flat_RootError => first | k_is | kit_is | k_exc | rfl)
    (case x_Rising_RootError => first | k_is | kit_is | k_exc | rfl)
    (case x_Zero_RootError => first | k_is | kit_is | k_exc | rfl)
    (case kb_BadLine => kernel_rfl)
    (case kb_BadLists => kernel_rfl)
    (case kb_BadNumber => kernel_rfl)
    (case kb_BadPoints => kernel_rfl)
    (case kb_BadPoly => kernel_rfl)
    (case kb_BadPrime => kernel_rfl)
    (case kb_BadRoots => kernel_rfl)
    (case kb_Common => kernel_rfl)
    (case kb_Flat => kernel_rfl)
    (case kb_Rising => kernel_rfl)
    (case kb_ValueError => kernel_rfl)
    (case kb_Zero => kernel_rfl)


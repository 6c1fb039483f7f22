import PyProof.Rows.All
import Wide.All
import OpenK.AllK
import Wide.FinOn
import HandS.ForMost
import HandS.ForExc
import HandS.Wide
import HandS.Zip
import KE.GoesEnum
import HandS.TupMul
import HandS.IsInst
import HandS.Deep
import HandS.ExcInit
import HandS.ExcField
import HandS.TryMany
import KE.KExcIs
import HandS.ExcIs
import HandS.Star
import HandS.Dict
import HandS.Style
import HandS.DictComp
import HandS.WordsDict
import HandS.Small
import HandS.Flt
import HandS.Text
import HandS.Steps
import PyProof.StrOps2
import HandS.SortInts
import HandS.More
import KE.KExcPX
import PySem.Challenge.RW_fewroots_k03_whole_roots
set_option Elab.async false
set_option linter.all false
set_option maxRecDepth 100000
namespace L3
open PySem PySem.Spec L2

abbrev D := PyData
/-! ### what a value stands for, in the frozen part F of the heap -/
def kD : Key → D
  | .inl i => .int i
  | .inr x => .str x
mutual
inductive Rp (K : PySem.W.Frag) (F : Hp) : V → D → Prop
  | non : Rp K F .non .none
  | bl (b : Bool) : Rp K F (.bl b) (.bool b)
  | int (i : Int) : Rp K F (.int i) (.int i)
  | str (x : Str) : Rp K F (.str x) (.str x)
  | lst {a : Addr} {vs : List V} {ds : List D} : SqL K F a vs → RpA K F vs ds → Rp K F (.ref a) (.list ds)
  | tup {a : Addr} {vs : List V} {ds : List D} : SqT K F a vs → RpA K F vs ds → Rp K F (.ref a) (.tuple ds)
  | dct {a : Addr} {kvs : List (Key × V)} {es : List (D × D)} : F a = some (.dK kvs) → RpK K F kvs es → Rp K F (.ref a) (.dict es)
inductive RpA (K : PySem.W.Frag) (F : Hp) : List V → List D → Prop
  | nil : RpA K F [] []
  | cons {v : V} {vs : List V} {d : D} {ds : List D} : Rp K F v d → RpA K F vs ds → RpA K F (v :: vs) (d :: ds)
inductive RpK (K : PySem.W.Frag) (F : Hp) : List (Key × V) → List (D × D) → Prop
  | nil : RpK K F [] []
  | cons {k : Key} {v : V} {kvs : List (Key × V)} {d : D} {es : List (D × D)} : Rp K F v d → RpK K F kvs es → RpK K F ((k, v) :: kvs) ((kD k, d) :: es)
end
theorem sameT {K : PySem.W.Frag} {F F' : Hp} {a : Addr} {xs : List V} (e : Same F F') (h : SqT K F a xs) : SqT K F' a xs := by
  rcases h with (h | ⟨o, h⟩) | h
  · exact .inl (.inl (e _ _ h))
  · exact .inl (.inr ⟨o, e _ _ h⟩)
  · exact .inr h
section
variable {K : PySem.W.Frag} {F F' : Hp}
mutual
theorem Rp.mono (e : Same F F') : ∀ {v : V} {d : D}, Rp K F v d → Rp K F' v d
  | _, _, .non => .non
  | _, _, .bl b => .bl b
  | _, _, .int i => .int i
  | _, _, .str x => .str x
  | _, _, .lst h r => .lst (e.seq h) (RpA.mono e r)
  | _, _, .tup h r => .tup (sameT e h) (RpA.mono e r)
  | _, _, .dct h r => .dct (e _ _ h) (RpK.mono e r)
theorem RpA.mono (e : Same F F') : ∀ {vs : List V} {ds : List D}, RpA K F vs ds → RpA K F' vs ds
  | _, _, .nil => .nil
  | _, _, .cons h r => .cons (Rp.mono e h) (RpA.mono e r)
theorem RpK.mono (e : Same F F') : ∀ {vs : List (Key × V)} {ds : List (D × D)}, RpK K F vs ds → RpK K F' vs ds
  | _, _, .nil => .nil
  | _, _, .cons h r => .cons (Rp.mono e h) (RpK.mono e r)
end
theorem RpA.length : ∀ {vs : List V} {ds : List D}, RpA K F vs ds → vs.length = ds.length
  | _, _, .nil => rfl
  | _, _, .cons _ r => by rw [List.length_cons, List.length_cons, RpA.length r]
theorem RpA.get : ∀ {vs : List V} {ds : List D} {i : Nat} {d : D}, RpA K F vs ds → ds[i]? = some d → ∃ v, vs[i]? = some v ∧ Rp K F v d
  | _, _, _, _, .nil, e => by simp at e
  | _, _, 0, _, .cons h _, e => by
    simp only [List.getElem?_cons_zero, Option.some.injEq] at e
    subst e
    exact ⟨_, rfl, h⟩
  | _, _, i + 1, _, .cons _ r, e => by
    rw [List.getElem?_cons_succ] at e
    obtain ⟨v, h1, h2⟩ := RpA.get r e
    exact ⟨v, by rw [List.getElem?_cons_succ]; exact h1, h2⟩
theorem RpA.getV : ∀ {vs : List V} {ds : List D} {i : Nat} {v : V}, RpA K F vs ds → vs[i]? = some v → ∃ d, ds[i]? = some d ∧ Rp K F v d
  | _, _, _, _, .nil, e => by simp at e
  | _, _, 0, _, .cons h _, e => by
    simp only [List.getElem?_cons_zero, Option.some.injEq] at e
    subst e
    exact ⟨_, rfl, h⟩
  | _, _, i + 1, _, .cons _ r, e => by
    rw [List.getElem?_cons_succ] at e
    obtain ⟨v, h1, h2⟩ := RpA.getV r e
    exact ⟨v, by rw [List.getElem?_cons_succ]; exact h1, h2⟩
theorem RpA.append : ∀ {vs ws : List V} {ds es : List D}, RpA K F vs ds → RpA K F ws es → RpA K F (vs ++ ws) (ds ++ es)
  | _, _, _, _, .nil, s => s
  | _, _, _, _, .cons h r, s => .cons h (RpA.append r s)
theorem RpA.take : ∀ {vs : List V} {ds : List D} (n : Nat), RpA K F vs ds → RpA K F (vs.take n) (ds.take n)
  | _, _, 0, _ => .nil
  | _, _, _ + 1, .nil => .nil
  | _, _, n + 1, .cons h r => .cons h (RpA.take n r)
theorem RpA.drop : ∀ {vs : List V} {ds : List D} (n : Nat), RpA K F vs ds → RpA K F (vs.drop n) (ds.drop n)
  | _, _, 0, r => r
  | _, _, _ + 1, .nil => .nil
  | _, _, n + 1, .cons _ r => RpA.drop n r
theorem RpA.set : ∀ {vs : List V} {ds : List D} (i : Nat) {v : V} {d : D}, Rp K F v d → RpA K F vs ds → RpA K F (vs.set i v) (ds.set i d)
  | _, _, _, _, _, _, .nil => .nil
  | _, _, 0, _, _, q, .cons _ r => .cons q r
  | _, _, i + 1, _, _, q, .cons h r => .cons h (RpA.set i q r)
theorem RpA.reverse {vs : List V} {ds : List D} (h : RpA K F vs ds) : RpA K F vs.reverse ds.reverse := by
  induction vs generalizing ds with
  | nil => cases h; exact .nil
  | cons v vs ih =>
    cases h with
    | cons h r =>
      rw [List.reverse_cons, List.reverse_cons]
      exact RpA.append (ih r) (.cons h .nil)
theorem RpA.rep {vs : List V} {ds : List D} (h : RpA K F vs ds) : ∀ k : Nat, RpA K F (List.replicate k vs).flatten (List.replicate k ds).flatten
  | 0 => .nil
  | k + 1 => by
    rw [List.replicate_succ, List.replicate_succ, List.flatten_cons, List.flatten_cons]
    exact RpA.append h (RpA.rep h k)
theorem RpA.eraseIdx : ∀ {vs : List V} {ds : List D} (i : Nat), RpA K F vs ds → RpA K F (vs.eraseIdx i) (ds.eraseIdx i)
  | _, _, _, .nil => .nil
  | _, _, 0, .cons _ r => r
  | _, _, i + 1, .cons h r => .cons h (RpA.eraseIdx i r)
theorem RpA.dropLast {vs : List V} {ds : List D} (h : RpA K F vs ds) : RpA K F vs.dropLast ds.dropLast := by
  rw [List.dropLast_eq_take, List.dropLast_eq_take, h.length]
  exact h.take _
theorem RpA.ints : ∀ {ns : List Int} {vs : List V}, RpA K F vs (ns.map PyData.int) → vs = ns.map V.int
  | [], _, h => by cases h; rfl
  | n :: ns, _, h => by
    cases h with
    | cons h r =>
      cases h
      rw [RpA.ints r]
      rfl
theorem RpA.bools : ∀ {ns : List Bool} {vs : List V}, RpA K F vs (ns.map PyData.bool) → vs = ns.map V.bl
  | [], _, h => by cases h; rfl
  | n :: ns, _, h => by
    cases h with
    | cons h r =>
      cases h
      rw [RpA.bools r]
      rfl
theorem RpA.strs : ∀ {ns : List Str} {vs : List V}, RpA K F vs (ns.map PyData.str) → vs = ns.map V.str
  | [], _, h => by cases h; rfl
  | n :: ns, _, h => by
    cases h with
    | cons h r =>
      cases h
      rw [RpA.strs r]
      rfl
theorem RpA.of_ints : ∀ (ns : List Int), RpA K F (ns.map V.int) (ns.map PyData.int)
  | [] => .nil
  | n :: ns => .cons (.int n) (RpA.of_ints ns)
theorem RpA.of_strs : ∀ (ns : List Str), RpA K F (ns.map V.str) (ns.map PyData.str)
  | [] => .nil
  | n :: ns => .cons (.str n) (RpA.of_strs ns)
mutual
theorem Rp.dp : ∀ {d : D} {v : V}, Rp K F v d → d.canLay0 = true → Dp K F v d
  | .none, _, h, _ => by cases h; exact .non
  | .bool b, _, h, _ => by cases h; exact .bl b
  | .int i, _, h, _ => by cases h; exact .int i
  | .str x, _, h, _ => by cases h; exact .str x
  | .list ds, _, h, c => by
    cases h with
    | lst h r => exact .lst h (RpA.dp r (by simpa [PyData.canLay0] using c))
  | .tuple ds, _, h, c => by
    cases h with
    | tup h r => exact .tup h (RpA.dp r (by simpa [PyData.canLay0] using c))
  | .dict es, _, h, c => by simp [PyData.canLay0] at c
theorem RpA.dp : ∀ {ds : List D} {vs : List V}, RpA K F vs ds → PyData.canLayAll0 ds = true → DpAll K F vs ds
  | [], _, h, _ => by cases h; exact .nil
  | d :: ds, _, h, c => by
    cases h with
    | cons h r =>
      have c' : d.canLay0 = true ∧ PyData.canLayAll0 ds = true := by simpa [PyData.canLayAll0] using c
      exact .cons (Rp.dp h c'.1) (RpA.dp r c'.2)
end
end

/-! ### cells: frozen data, or an object of one's own -/
inductive Cl where
  | fz (d : D)
  | lst (ds : List D)
  | dct (es : List (Key × D))
  | dtt (es : List (List Key × D))
  | dlk (es : List (Key × D))
  | bx (d : D) (es : List (Key × D))
  | ins (c : Str) (fs : List (Str × D))
abbrev Cl.i (n : Int) : Cl := .fz (.int n)
abbrev Cl.b (n : Bool) : Cl := .fz (.bool n)
abbrev Cl.t (ns : List D) : Cl := .fz (.tuple ns)

inductive RpKs (K : PySem.W.Frag) (F : Hp) {κ : Type} : List (κ × V) → List (κ × D) → Prop
  | nil : RpKs K F [] []
  | cons {k : κ} {v : V} {kvs : List (κ × V)} {d : D} {es : List (κ × D)} : Rp K F v d → RpKs K F kvs es → RpKs K F ((k, v) :: kvs) ((k, d) :: es)
theorem RpKs.mono {K : PySem.W.Frag} {F F' : Hp} {κ : Type} (e : Same F F') : ∀ {vs : List (κ × V)} {ds : List (κ × D)}, RpKs K F vs ds → RpKs K F' vs ds
  | _, _, .nil => .nil
  | _, _, .cons h r => .cons (Rp.mono e h) (RpKs.mono e r)

inductive CR (K : PySem.W.Frag) (cl : Str → Addr → Prop) (F H : Hp) : Cl → V → List Addr → Prop
  | fz {d : D} {v : V} : Rp K F v d → CR K cl F H (.fz d) v []
  | lst {a : Addr} {vs : List V} {ds : List D} : H a = some (.lst vs) → F a = none → RpA K F vs ds → CR K cl F H (.lst ds) (.ref a) [a]
  | dct {a : Addr} {kvs : List (Key × V)} {es : List (Key × D)} : H a = some (.dK kvs) → F a = none → RpKs K F kvs es → CR K cl F H (.dct es) (.ref a) [a]
  | dtt {a : Addr} {kvs : List (List Key × V)} {es : List (List Key × D)} : H a = some (.dT kvs) → F a = none → RpKs K F kvs es → CR K cl F H (.dtt es) (.ref a) [a]
  | dlk {a : Addr} {o : Obj} {kvs : List (Key × V)} {es : List (Key × D)} : F a = some (.frz o (.dK kvs)) → RpKs K F kvs es → CR K cl F H (.dlk es) (.ref a) []
  | bx {a b : Addr} {v : V} {d : D} {kvs : List (Key × V)} {es : List (Key × D)} : H a = some (.lst [v, .ref b]) → F a = none → Rp K F v d → H b = some (.dK kvs) → F b = none → RpKs K F kvs es → CR K cl F H (.bx d es) (.ref a) [a, b]
  | ins {a C dx : Addr} {c : Str} {kvs : List (Str × V)} {es : List (Str × D)} : cl c C → H a = some (.ins C dx kvs) → F a = none → F dx = some (.own a) → RpKs K F kvs es → CR K cl F H (.ins c es) (.ref a) [a]
theorem CR.mono {K : PySem.W.Frag} {cl : Str → Addr → Prop} {F F' H H' : Hp} {c : Cl} {v : V} {A : List Addr} (e : Same F F') (h : CR K cl F H c v A) (hA : ∀ a ∈ A, F' a = none ∧ H' a = H a) : CR K cl F' H' c v A := by
  cases h with
  | fz r => exact .fz (r.mono e)
  | lst h1 h2 r => exact .lst ((hA _ (List.mem_singleton.mpr rfl)).2.trans h1) (hA _ (List.mem_singleton.mpr rfl)).1 (r.mono e)
  | dct h1 h2 r => exact .dct ((hA _ (List.mem_singleton.mpr rfl)).2.trans h1) (hA _ (List.mem_singleton.mpr rfl)).1 (r.mono e)
  | dtt h1 h2 r => exact .dtt ((hA _ (List.mem_singleton.mpr rfl)).2.trans h1) (hA _ (List.mem_singleton.mpr rfl)).1 (r.mono e)
  | dlk h1 r => exact .dlk (e _ _ h1) (r.mono e)
  | bx h1 h2 r h3 h4 rk => exact .bx ((hA _ (by simp)).2.trans h1) (hA _ (by simp)).1 (r.mono e) ((hA _ (by simp)).2.trans h3) (hA _ (by simp)).1 (rk.mono e)
  | ins hc h1 h2 h3 r => exact .ins hc ((hA _ (List.mem_singleton.mpr rfl)).2.trans h1) (hA _ (List.mem_singleton.mpr rfl)).1 (e _ _ h3) (r.mono e)
theorem CR.fr {K : PySem.W.Frag} {cl : Str → Addr → Prop} {F H : Hp} {c : Cl} {v : V} {A : List Addr} (h : CR K cl F H c v A) : ∀ a ∈ A, F a = none ∧ ∃ o, H a = some o := by
  intro a ha
  cases h with
  | fz r => cases ha
  | lst h1 h2 r => rw [List.mem_singleton.mp ha]; exact ⟨h2, _, h1⟩
  | dct h1 h2 r => rw [List.mem_singleton.mp ha]; exact ⟨h2, _, h1⟩
  | dtt h1 h2 r => rw [List.mem_singleton.mp ha]; exact ⟨h2, _, h1⟩
  | dlk h1 r => cases ha
  | bx h1 h2 r h3 h4 rk =>
    rcases List.mem_cons.mp ha with z | z
    · rw [z]; exact ⟨h2, _, h1⟩
    · rw [List.mem_singleton.mp z]; exact ⟨h4, _, h3⟩
  | ins hc h1 h2 h3 r => rw [List.mem_singleton.mp ha]; exact ⟨h2, _, h1⟩

inductive HL (K : PySem.W.Frag) (cl : Str → Addr → Prop) (F H : Hp) : List (Cl × V) → List Addr → Prop
  | nil : HL K cl F H [] []
  | cons {c : Cl} {v : V} {L : List (Cl × V)} {A B : List Addr} : CR K cl F H c v A → HL K cl F H L B → HL K cl F H ((c, v) :: L) (A ++ B)
section
variable {K : PySem.W.Frag} {cl : Str → Addr → Prop} {F F' H H' : Hp}
theorem HL.mono (e : Same F F') : ∀ {L : List (Cl × V)} {A : List Addr}, HL K cl F H L A → (∀ a ∈ A, F' a = none ∧ H' a = H a) → HL K cl F' H' L A
  | _, _, .nil, _ => .nil
  | _, _, .cons h r, hA => .cons (h.mono e fun a ha => hA a (List.mem_append_left _ ha)) (r.mono e fun a ha => hA a (List.mem_append_right _ ha))
theorem HL.fr : ∀ {L : List (Cl × V)} {A : List Addr}, HL K cl F H L A → ∀ a ∈ A, F a = none ∧ ∃ o, H a = some o
  | _, _, .nil, _, h => by cases h
  | _, _, .cons h r, a, ha => (List.mem_append.mp ha).elim (h.fr a) (r.fr a)
theorem HL.perm {L L' : List (Cl × V)} (p : L.Perm L') : ∀ {A : List Addr}, HL K cl F H L A → ∃ A', A.Perm A' ∧ HL K cl F H L' A' := by
  induction p with
  | nil => intro A h; exact ⟨A, .refl _, h⟩
  | cons x p ih =>
    intro A h
    cases h with
    | cons h r =>
      obtain ⟨A', q, r'⟩ := ih r
      exact ⟨_, List.Perm.append_left _ q, .cons h r'⟩
  | swap x y l =>
    intro A h
    cases h with
    | cons h1 r =>
      cases r with
      | cons h2 r =>
        refine ⟨_, ?_, .cons h2 (.cons h1 r)⟩
        rw [← List.append_assoc, ← List.append_assoc]
        exact List.Perm.append_right _ List.perm_append_comm
  | trans p q ih1 ih2 =>
    intro A h
    obtain ⟨A1, q1, h1⟩ := ih1 h
    obtain ⟨A2, q2, h2⟩ := ih2 h1
    exact ⟨A2, q1.trans q2, h2⟩
theorem HL.left : ∀ {L M : List (Cl × V)} {A : List Addr}, HL K cl F H (L ++ M) A → ∃ A1 A2, A = A1 ++ A2 ∧ HL K cl F H L A1 ∧ HL K cl F H M A2
  | [], M, A, h => ⟨[], A, rfl, .nil, h⟩
  | x :: L, M, _, h => by
    cases h with
    | cons h r =>
      obtain ⟨A1, A2, e, h1, h2⟩ := HL.left r
      rw [e]
      exact ⟨_, A2, by rw [List.append_assoc], .cons h h1, h2⟩

structure HR (K : PySem.W.Frag) (cl : Str → Addr → Prop) (F H : Hp) (L : List (Cl × V)) : Prop where
  sub : Same F H
  own : ∃ A, A.Nodup ∧ HL K cl F H L A
theorem HR.perm {L L' : List (Cl × V)} (h : HR K cl F H L) (p : L.Perm L') : HR K cl F H L' := by
  obtain ⟨s, A, n, r⟩ := h
  obtain ⟨A', q, r'⟩ := r.perm p
  exact ⟨s, A', q.nodup_iff.mp n, r'⟩
theorem HR.left {L M : List (Cl × V)} (h : HR K cl F H (L ++ M)) : HR K cl F H L := by
  obtain ⟨s, A, n, r⟩ := h
  obtain ⟨A1, A2, e, h1, h2⟩ := r.left
  rw [e] at n
  exact ⟨s, A1, (List.nodup_append.mp n).1, h1⟩
theorem HR.tail {x : Cl × V} {L : List (Cl × V)} (h : HR K cl F H (x :: L)) : HR K cl F H L :=
  (h.perm (L' := L ++ [x]) (List.perm_append_comm (l₁ := [x]) (l₂ := L))).left
theorem HR.drop2 {x y : Cl × V} {L : List (Cl × V)} (h : HR K cl F H (x :: y :: L)) : HR K cl F H (x :: L) :=
  (h.perm (.swap _ _ _)).tail
theorem HR.swap {x y : Cl × V} {L : List (Cl × V)} (h : HR K cl F H (x :: y :: L)) : HR K cl F H (y :: x :: L) := h.perm (.swap _ _ _)
theorem HR.head {c : Cl} {v : V} {L : List (Cl × V)} (h : HR K cl F H ((c, v) :: L)) : ∃ A, CR K cl F H c v A := by
  obtain ⟨s, A, n, r⟩ := h
  cases r with
  | cons h r => exact ⟨_, h⟩
theorem HR.mem {c : Cl} {v : V} {L : List (Cl × V)} (h : HR K cl F H L) (m : (c, v) ∈ L) : ∃ A, CR K cl F H c v A := by
  obtain ⟨L', p⟩ : ∃ L', L.Perm ((c, v) :: L') := by
    obtain ⟨a, b, e⟩ := List.append_of_mem m
    exact ⟨a ++ b, by rw [e]; exact List.perm_middle⟩
  exact (h.perm p).head
theorem HR.rp {d : D} {v : V} {L : List (Cl × V)} (h : HR K cl F H ((.fz d, v) :: L)) : Rp K F v d := by
  obtain ⟨A, q⟩ := h.head
  cases q with
  | fz r => exact r
theorem HR.push {d : D} {v : V} {L : List (Cl × V)} (h : HR K cl F H L) (r : Rp K F v d) : HR K cl F H ((.fz d, v) :: L) := by
  obtain ⟨s, A, n, q⟩ := h
  exact ⟨s, [] ++ A, n, .cons (.fz r) q⟩
/-- a new frozen object -/
theorem HR.newF {L : List (Cl × V)} {p : Addr} {o : HO} (h : HR K cl F H L) (hp : H p = none) : Same F (upd F p o) ∧ HR K cl (upd F p o) (upd H p o) L := by
  obtain ⟨s, A, n, q⟩ := h
  have fp : F p = none := s.free hp
  have sm : Same F (upd F p o) := fun b u e => by rw [upd_ne (ne_of_none e fp)]; exact e
  refine ⟨sm, fun b u e => ?_, A, n, q.mono sm fun a ha => ?_⟩
  · by_cases hb : b = p
    · subst hb; rw [upd_same] at e ⊢; exact e
    · rw [upd_ne hb] at e ⊢; exact s _ _ e
  · obtain ⟨h1, u, h2⟩ := q.fr a ha
    have ne : a ≠ p := ne_of_none h2 hp
    rw [upd_ne ne, upd_ne ne]
    exact ⟨h1, rfl⟩
/-- a new object of one's own -/
theorem HR.newO {L : List (Cl × V)} {p : Addr} {o : HO} {c : Cl} (h : HR K cl F H L) (hp : H p = none) (hc : CR K cl F (upd H p o) c (.ref p) [p]) : HR K cl F (upd H p o) ((c, .ref p) :: L) := by
  obtain ⟨s, A, n, q⟩ := h
  have np : ∀ a ∈ A, a ≠ p := fun a ha => by
    obtain ⟨_, u, h2⟩ := q.fr a ha
    exact ne_of_none h2 hp
  refine ⟨fun b u e => ?_, [p] ++ A, List.nodup_cons.mpr ⟨fun m => np p m rfl, n⟩, .cons hc (q.mono (Same.refl _) fun a ha => ⟨(q.fr a ha).1, upd_ne (np a ha)⟩)⟩
  rw [upd_ne (ne_of_none (s _ _ e) hp)]
  exact s _ _ e
/-- an object of one's own is changed -/
theorem HR.mut {L : List (Cl × V)} {p : Addr} {o : HO} {c c' : Cl} (h : HR K cl F H ((c, .ref p) :: L)) (h1 : ∀ A, CR K cl F H c (.ref p) A → A = [p]) (hc : CR K cl F (upd H p o) c' (.ref p) [p]) : HR K cl F (upd H p o) ((c', .ref p) :: L) := by
  obtain ⟨s, A, n, q⟩ := h
  cases q with
  | cons q r =>
    have e := h1 _ q
    subst e
    have n' := List.nodup_cons.mp n
    have fp := (q.fr p (List.mem_singleton.mpr rfl)).1
    refine ⟨fun b u e => ?_, _, n, .cons hc (r.mono (Same.refl _) fun a ha => ⟨(r.fr a ha).1, upd_ne fun z => n'.1 (z ▸ ha)⟩)⟩
    rw [upd_ne (ne_of_none e fp)]
    exact s _ _ e
theorem kd_map {κ : Type} : True := trivial
theorem RpKs.rpK : ∀ {kvs : List (Key × V)} {es : List (Key × D)}, RpKs K F kvs es → RpK K F kvs (es.map fun p => (kD p.1, p.2))
  | _, _, .nil => .nil
  | _, _, .cons h r => .cons h (RpKs.rpK r)
/-- what a cell is when nobody changes it any more -/
def Cl.data : Cl → Option D
  | .fz d => some d
  | .lst ds => some (.list ds)
  | .dct es => some (.dict (es.map fun p => (kD p.1, p.2)))
  | .dtt _ => none
  | .dlk _ => none
  | .bx _ _ => none
  | .ins _ _ => none
/-- .. frozen -/
theorem HR.freeze {L : List (Cl × V)} {c : Cl} {v : V} {d : D} (h : HR K cl F H ((c, v) :: L)) (e : c.data = some d) : ∃ F', Same F F' ∧ HR K cl F' H ((.fz d, v) :: L) := by
  obtain ⟨s, A, n, q⟩ := h
  cases q with
  | cons q r =>
    have go : ∀ (a : Addr) (o : HO), H a = some o → F a = none → (∀ F', Same F F' → F' a = some o → Rp K F' (.ref a) d) → v = .ref a → (∀ b, HL K cl F H L b → (([a] ++ b).Nodup → True)) → ∀ B, ([a] ++ B).Nodup → HL K cl F H L B → ∃ F', Same F F' ∧ HR K cl F' H ((.fz d, v) :: L) := by
      intro a o h1 h2 h3 ev _ B nB rB
      subst ev
      have n' := List.nodup_cons.mp nB
      have sm : Same F (upd F a o) := fun b u e => by rw [upd_ne (ne_of_none e h2)]; exact e
      refine ⟨upd F a o, sm, fun b u e => ?_, [] ++ B, n'.2, .cons (.fz (h3 _ sm upd_same)) (rB.mono sm fun b hb => ⟨?_, rfl⟩)⟩
      · by_cases hb : b = a
        · subst hb; rw [upd_same] at e; rw [h1]; exact e
        · rw [upd_ne hb] at e; exact s _ _ e
      · have hb' : b ∈ B := hb
        have nb : b ≠ a := fun z => by subst z; exact n'.1 hb'
        rw [upd_ne nb]
        exact (rB.fr b hb').1
    cases q with
    | fz r' =>
      cases e
      exact ⟨F, Same.refl _, s, _, n, .cons (.fz r') r⟩
    | lst h1 h2 r' =>
      cases e
      exact go _ _ h1 h2 (fun F' sm hF => .lst (.inl (.inl hF)) (r'.mono sm)) rfl (fun _ _ _ => trivial) _ n r
    | dct h1 h2 r' =>
      cases e
      exact go _ _ h1 h2 (fun F' sm hF => .dct hF (r'.mono sm).rpK) rfl (fun _ _ _ => trivial) _ n r
    | dtt h1 h2 r' => cases e
    | dlk h1 r' => cases e
    | bx _ _ _ _ _ _ => cases e
    | ins hc h1 h2 h3 r' => cases e
end

/-! ### the slots -/
abbrev En := List (Option Cl)
def eL : En → St → List (Cl × V)
  | some c :: ρ, some v :: σ => (c, v) :: eL ρ σ
  | some _ :: ρ, none :: σ => eL ρ σ
  | none :: ρ, _ :: σ => eL ρ σ
  | _, _ => []
def EnOk : En → St → Prop
  | [], [] => True
  | some _ :: ρ, some _ :: σ => EnOk ρ σ
  | none :: ρ, _ :: σ => EnOk ρ σ
  | _, _ => False
theorem EnOk.len : ∀ {ρ : En} {σ : St}, EnOk ρ σ → ρ.length = σ.length
  | [], [], _ => rfl
  | some _ :: ρ, some _ :: σ, h => congrArg (· + 1) (EnOk.len (ρ := ρ) (σ := σ) h)
  | none :: ρ, _ :: σ, h => congrArg (· + 1) (EnOk.len (ρ := ρ) (σ := σ) h)
  | some _ :: _, none :: _, h => h.elim
  | [], _ :: _, h => h.elim
  | some _ :: _, [], h => h.elim
  | none :: _, [], h => h.elim
theorem en_get : ∀ {ρ : En} {σ : St} {i : Nat} {c : Cl}, EnOk ρ σ → ρ[i]? = some (some c) → ∃ v, σ[i]? = some (some v) ∧ (eL ρ σ).Perm ((c, v) :: eL (ρ.set i none) σ) ∧ EnOk (ρ.set i none) σ
  | [], _, _, _, _, e => by simp at e
  | some c' :: ρ, some v :: σ, 0, c, h, e => by
    simp only [List.getElem?_cons_zero, Option.some.injEq] at e
    subst e
    exact ⟨v, rfl, .refl _, h⟩
  | some c' :: ρ, some v :: σ, i + 1, c, h, e => by
    rw [List.getElem?_cons_succ] at e
    obtain ⟨w, h1, h2, h3⟩ := en_get (ρ := ρ) (σ := σ) h e
    refine ⟨w, by rw [List.getElem?_cons_succ]; exact h1, ?_, h3⟩
    exact (List.Perm.cons _ h2).trans (.swap _ _ _)
  | none :: ρ, x :: σ, 0, c, h, e => by simp at e
  | none :: ρ, x :: σ, i + 1, c, h, e => by
    rw [List.getElem?_cons_succ] at e
    obtain ⟨w, h1, h2, h3⟩ := en_get (ρ := ρ) (σ := σ) h e
    exact ⟨w, by rw [List.getElem?_cons_succ]; exact h1, h2, h3⟩
  | some _ :: _, none :: _, _, _, h, _ => h.elim
  | some _ :: _, [], _, _, h, _ => h.elim
  | none :: _, [], _, _, h, _ => h.elim
/-- a slot is stored -/
theorem en_set : ∀ {ρ : En} {σ : St} {i : Nat} (c : Cl) (v : V), EnOk ρ σ → i < ρ.length → EnOk (ρ.set i (some c)) (σ.set i (some v)) ∧ ∃ M, ((c, v) :: eL ρ σ).Perm (eL (ρ.set i (some c)) (σ.set i (some v)) ++ M)
  | [], _, _, _, _, _, e => by simp at e
  | some c' :: ρ, some v' :: σ, 0, c, v, h, _ => ⟨h, [(c', v')], by
      show ((c, v) :: (c', v') :: eL ρ σ).Perm ((c, v) :: (eL ρ σ ++ [(c', v')]))
      exact List.Perm.cons _ (List.perm_append_comm (l₁ := [(c', v')]) (l₂ := eL ρ σ))⟩
  | none :: ρ, x :: σ, 0, c, v, h, _ => ⟨h, [], by
      rw [List.append_nil]
      exact .refl _⟩
  | some c' :: ρ, some v' :: σ, i + 1, c, v, h, e => by
    obtain ⟨h1, M, h2⟩ := en_set (ρ := ρ) (σ := σ) (i := i) c v h (Nat.lt_of_succ_lt_succ e)
    exact ⟨h1, M, (List.Perm.swap _ _ _).trans (List.Perm.cons _ h2)⟩
  | none :: ρ, x :: σ, i + 1, c, v, h, e => by
    obtain ⟨h1, M, h2⟩ := en_set (ρ := ρ) (σ := σ) (i := i) c v h (Nat.lt_of_succ_lt_succ e)
    exact ⟨h1, M, h2⟩
  | some _ :: _, none :: _, _, _, _, h, _ => h.elim
  | some _ :: _, [], _, _, _, h, _ => h.elim
  | none :: _, [], _, _, _, h, _ => h.elim
/-- a slot's cell comes back -/
theorem en_put : ∀ {ρ : En} {σ : St} {i : Nat} {v : V} (c : Cl), EnOk ρ σ → ρ[i]? = some none → σ[i]? = some (some v) → EnOk (ρ.set i (some c)) σ ∧ ((c, v) :: eL ρ σ).Perm (eL (ρ.set i (some c)) σ)
  | [], _, _, _, _, _, e, _ => by simp at e
  | some c' :: ρ, some v' :: σ, 0, v, c, h, e, _ => by simp at e
  | none :: ρ, x :: σ, 0, v, c, h, _, e => by
    simp only [List.getElem?_cons_zero, Option.some.injEq] at e
    subst e
    exact ⟨h, .refl _⟩
  | some c' :: ρ, some v' :: σ, i + 1, v, c, h, e, e2 => by
    rw [List.getElem?_cons_succ] at e e2
    obtain ⟨h1, h2⟩ := en_put (ρ := ρ) (σ := σ) c h e e2
    exact ⟨h1, (List.Perm.swap _ _ _).trans (List.Perm.cons _ h2)⟩
  | none :: ρ, x :: σ, i + 1, v, c, h, e, e2 => by
    rw [List.getElem?_cons_succ] at e e2
    obtain ⟨h1, h2⟩ := en_put (ρ := ρ) (σ := σ) c h e e2
    exact ⟨h1, h2⟩
  | some _ :: _, none :: _, _, _, _, h, _, _ => h.elim
  | some _ :: _, [], _, _, _, h, _, _ => h.elim
  | none :: _, [], _, _, _, h, _, _ => h.elim
/-- a slot is emptied -/
theorem en_none : ∀ {ρ : En} {σ : St} (i : Nat) (o : Option V), EnOk ρ σ → EnOk (ρ.set i none) (σ.set i o) ∧ ∃ M, (eL ρ σ).Perm (eL (ρ.set i none) (σ.set i o) ++ M)
  | [], [], _, _, h => ⟨h, [], .refl _⟩
  | some c' :: ρ, some v' :: σ, 0, o, h => ⟨h, [(c', v')], (List.perm_append_comm (l₁ := [(c', v')]) (l₂ := eL ρ σ))⟩
  | none :: ρ, x :: σ, 0, o, h => ⟨h, [], by rw [List.append_nil]; exact .refl _⟩
  | some c' :: ρ, some v' :: σ, i + 1, o, h => by
    obtain ⟨h1, M, h2⟩ := en_none (ρ := ρ) (σ := σ) i o h
    exact ⟨h1, M, List.Perm.cons _ h2⟩
  | none :: ρ, x :: σ, i + 1, o, h => by
    obtain ⟨h1, M, h2⟩ := en_none (ρ := ρ) (σ := σ) i o h
    exact ⟨h1, M, h2⟩
  | some _ :: _, none :: _, _, _, h => h.elim
  | some _ :: _, [], _, _, h => h.elim
  | none :: _, [], _, _, h => h.elim
  | [], _ :: _, _, _, h => h.elim

structure R (K : PySem.W.Frag) (cl : Str → Addr → Prop) (F H : Hp) (ρ : En) (σ : St) (T : List (Cl × V)) : Prop where
  hr : HR K cl F H (eL ρ σ ++ T)
  ok : EnOk ρ σ
section
variable {K : PySem.W.Frag} {cl : Str → Addr → Prop} {F F' H H' : Hp} {ρ : En} {σ : St} {T : List (Cl × V)} {c : Cl} {v : V} {d : D} {i : Nat}
theorem mid {α : Type} (x : α) (L T : List α) : (L ++ x :: T).Perm (x :: (L ++ T)) := List.perm_middle
theorem R.mk' (h : HR K cl F H ((c, v) :: (eL ρ σ ++ T))) (ok : EnOk ρ σ) : R K cl F H ρ σ ((c, v) :: T) := ⟨h.perm (mid _ _ _).symm, ok⟩
theorem R.hr' (h : R K cl F H ρ σ ((c, v) :: T)) : HR K cl F H ((c, v) :: (eL ρ σ ++ T)) := h.hr.perm (mid _ _ _)
theorem R.tail (h : R K cl F H ρ σ ((c, v) :: T)) : R K cl F H ρ σ T := ⟨h.hr'.tail, h.ok⟩
theorem R.drop2 {x : Cl × V} (h : R K cl F H ρ σ ((c, v) :: x :: T)) : R K cl F H ρ σ ((c, v) :: T) := by
  refine .mk' ?_ h.ok
  exact (h.hr'.perm (List.Perm.cons _ (mid _ _ _))).drop2
theorem R.swap {c' : Cl} {v' : V} (h : R K cl F H ρ σ ((c, v) :: (c', v') :: T)) : R K cl F H ρ σ ((c', v') :: (c, v) :: T) := ⟨h.hr.perm (List.Perm.append_left _ (.swap _ _ _)), h.ok⟩
theorem R.sub (h : R K cl F H ρ σ T) : Same F H := h.hr.sub
theorem R.rp (h : R K cl F H ρ σ ((.fz d, v) :: T)) : Rp K F v d := h.hr'.rp
theorem R.push (h : R K cl F H ρ σ T) (r : Rp K F v d) : R K cl F H ρ σ ((.fz d, v) :: T) := .mk' (h.hr.push r) h.ok
theorem R.cr (h : R K cl F H ρ σ ((c, v) :: T)) : ∃ A, CR K cl F H c v A := h.hr'.head
theorem R.at (h : R K cl F H ρ σ T) (e : ρ[i]? = some (some c)) : ∃ v, σ[i]? = some (some v) ∧ ∃ A, CR K cl F H c v A := by
  obtain ⟨v, h1, h2, _⟩ := en_get h.ok e
  exact ⟨v, h1, ((h.hr.perm (List.Perm.append_right _ h2))).head⟩
theorem R.take (h : R K cl F H ρ σ T) (e : ρ[i]? = some (some c)) : ∃ v, σ[i]? = some (some v) ∧ R K cl F H (ρ.set i none) σ ((c, v) :: T) := by
  obtain ⟨v, h1, h2, h3⟩ := en_get h.ok e
  exact ⟨v, h1, .mk' (h.hr.perm (List.Perm.append_right _ h2)) h3⟩
theorem R.set (h : R K cl F H ρ σ ((c, v) :: T)) (hi : i < ρ.length) : R K cl F H (ρ.set i (some c)) (σ.set i (some v)) T := by
  obtain ⟨h1, M, h2⟩ := en_set c v h.ok hi
  refine ⟨?_, h1⟩
  have q : HR K cl F H ((c, v) :: eL ρ σ ++ T) := h.hr'
  refine ((q.perm (List.Perm.append_right T h2)).perm (L' := eL (ρ.set i (some c)) (σ.set i (some v)) ++ T ++ M) ?_).left
  rw [List.append_assoc, List.append_assoc]
  exact List.Perm.append_left _ List.perm_append_comm
theorem R.put (h : R K cl F H ρ σ ((c, v) :: T)) (e : ρ[i]? = some none) (e2 : σ[i]? = some (some v)) : R K cl F H (ρ.set i (some c)) σ T := by
  obtain ⟨h1, h2⟩ := en_put c h.ok e e2
  refine ⟨?_, h1⟩
  have q : HR K cl F H ((c, v) :: eL ρ σ ++ T) := h.hr'
  exact q.perm (List.Perm.append_right T h2)
theorem R.gone (h : R K cl F H ρ σ T) (i : Nat) (o : Option V) : R K cl F H (ρ.set i none) (σ.set i o) T := by
  obtain ⟨h1, M, h2⟩ := en_none i o h.ok
  refine ⟨((h.hr.perm (List.Perm.append_right T h2)).perm (L' := eL (ρ.set i none) (σ.set i o) ++ T ++ M) ?_).left, h1⟩
  rw [List.append_assoc, List.append_assoc]
  exact List.Perm.append_left _ List.perm_append_comm
theorem R.freeze (h : R K cl F H ρ σ ((c, v) :: T)) (e : c.data = some d) : ∃ F', Same F F' ∧ R K cl F' H ρ σ ((.fz d, v) :: T) := by
  obtain ⟨F', s, q⟩ := h.hr'.freeze e
  exact ⟨F', s, .mk' q h.ok⟩
end
end L3

namespace L3
open PySem PySem.Spec L2

/-! ### what the written part is; errors; results -/
structure Gd where
  K : PySem.W.Frag
  mg : Str → Option Value
def clOf (mg : Str → Option Value) (c : Str) (C : Addr) : Prop := mg c = some (.ref C)
abbrev Gd.R (G : Gd) (F H : Hp) (ρ : En) (σ : L2.St) (T : List (Cl × V)) : Prop := L3.R G.K (clOf G.mg) F H ρ σ T
abbrev Gd.HR (G : Gd) (F H : Hp) (L : List (Cl × V)) : Prop := L3.HR G.K (clOf G.mg) F H L
abbrev Gd.CR (G : Gd) (F H : Hp) (c : Cl) (v : V) (A : List Addr) : Prop := L3.CR G.K (clOf G.mg) F H c v A
structure Ex where
  cls : Str
  fs : List (Str × D)
def XR (G : Gd) (F : Hp) (x : Ex) (cls : Value) (d : Option Addr) : Prop :=
  ∃ C, G.mg x.cls = some (.ref C) ∧ cls = .ref C ∧ ((x.fs = [] ∧ d = none) ∨ ∃ dd fvs, d = some dd ∧ F dd = some (.xd fvs) ∧ RpKs G.K F fvs x.fs)
inductive Rz (α : Type) where
  | ok (a : α) (ρ : En)
  | ex (x : Ex) (ρ : En)
abbrev Fn (α : Type) := Nat → En → Option (Rz α)
def bnd {α β : Type} (x : Option (Rz α)) (k : α → En → Option (Rz β)) : Option (Rz β) :=
  match x with
  | some (.ok a ρ) => k a ρ
  | some (.ex x ρ) => some (.ex x ρ)
  | none => none
@[simp] theorem bnd_ok {α β : Type} (a : α) (ρ : En) (k : α → En → Option (Rz β)) : bnd (some (.ok a ρ)) k = k a ρ := rfl
@[simp] theorem bnd_ex {α β : Type} (x : Ex) (ρ : En) (k : α → En → Option (Rz β)) : bnd (some (.ex x ρ)) k = some (.ex x ρ) := rfl
@[simp] theorem bnd_none {α β : Type} (k : α → En → Option (Rz β)) : bnd none k = none := rfl

/-- what is wanted of an exception -/
def PoX (G : Gd) (W : WX) (F : Hp) (σ : L2.St) (T : List (Cl × V)) (x : Ex) (ρ : En) : Prop :=
  ∀ F' H' cls d, Same F F' → G.R F' H' ρ σ T → XR G F' x cls d → W cls d σ H'
theorem PoX.mono {G : Gd} {W : WX} {F F1 : Hp} {σ : L2.St} {T : List (Cl × V)} {x : Ex} {ρ : En} (h : PoX G W F σ T x ρ) (s : Same F F1) : PoX G W F1 σ T x ρ :=
  fun F' H' cls d s' r q => h F' H' cls d (s.trans s') r q

/-! ### operands: a slot's cell as it stands, or a value -/
inductive Bv where
  | pl (i : Nat)
  | vl (c : Cl)
def lk (ρ : En) : Bv → Option Cl
  | .pl i => (ρ[i]?).join
  | .vl c => some c
def bvT (b : Bv) (v : V) (T : List (Cl × V)) : List (Cl × V) :=
  match b with
  | .pl _ => T
  | .vl c => (c, v) :: T
def bvV (σ : L2.St) (b : Bv) (v : V) : Prop :=
  match b with
  | .pl i => σ[i]? = some (some v)
  | .vl _ => True
def bvTs : List Bv → List V → List (Cl × V) → List (Cl × V)
  | b :: bs, v :: vs, T => bvTs bs vs (bvT b v T)
  | _, _, T => T
def bvVs (σ : L2.St) : List Bv → List V → Prop
  | [], [] => True
  | b :: bs, v :: vs => bvV σ b v ∧ bvVs σ bs vs
  | _, _ => False
def lks (ρ : En) : List Bv → Option (List Cl)
  | [] => some []
  | b :: bs => match lk ρ b, lks ρ bs with
    | some c, some cs => some (c :: cs)
    | _, _ => none
section
variable {G : Gd} {W : WX} {F F' H H' : Hp} {ρ : En} {σ : L2.St} {T : List (Cl × V)}
theorem bvT_sub (b : Bv) (v : V) : ∀ x ∈ T, x ∈ bvT b v T := fun x hx => by
  cases b with
  | pl i => exact hx
  | vl c => exact List.mem_cons_of_mem _ hx
theorem bvTs_sub : ∀ (bs : List Bv) (vs : List V) (T : List (Cl × V)), ∀ x ∈ T, x ∈ bvTs bs vs T
  | [], _, _, _, h => h
  | _ :: _, [], _, _, h => h
  | b :: bs, v :: vs, T, x, h => bvTs_sub bs vs _ x (bvT_sub b v x h)
theorem bvT_drop (b : Bv) (v : V) (h : G.R F H ρ σ (bvT b v T)) : G.R F H ρ σ T := by
  cases b with
  | pl i => exact h
  | vl c => exact h.tail
theorem bvTs_drop : ∀ (bs : List Bv) (vs : List V) (T : List (Cl × V)), G.R F H ρ σ (bvTs bs vs T) → G.R F H ρ σ T
  | [], _, _, h => h
  | _ :: _, [], _, h => h
  | b :: bs, v :: vs, T, h => bvT_drop b v (bvTs_drop bs vs _ h)
inductive CRs (G : Gd) (F H : Hp) : List Cl → List V → Prop
  | nil : CRs G F H [] []
  | cons {c : Cl} {v : V} {cs : List Cl} {vs : List V} (h : ∃ A, G.CR F H c v A) (r : CRs G F H cs vs) : CRs G F H (c :: cs) (v :: vs)
theorem bv_cr {b : Bv} {v : V} {c : Cl} (h : G.R F H ρ σ T) (m : ∀ x ∈ bvT b v [], x ∈ T) (hv : bvV σ b v) (e : lk ρ b = some c) : ∃ A, G.CR F H c v A := by
  cases b with
  | pl i =>
    have e' : ρ[i]? = some (some c) := by
      show ρ[i]? = _
      have e : (ρ[i]?).join = some c := e
      cases q : ρ[i]? with
      | none => rw [q] at e; cases e
      | some o => rw [q] at e; rw [show o = some c from e]
    obtain ⟨w, h1, A, h2⟩ := h.at e'
    have hv : σ[i]? = some (some v) := hv
    rw [hv] at h1
    cases h1
    exact ⟨A, h2⟩
  | vl c' =>
    cases e
    exact h.hr.mem (List.mem_append_right _ (m _ (List.mem_singleton.mpr rfl)))
theorem bvs_cr : ∀ {bs : List Bv} {vs : List V} {cs : List Cl} {T0 : List (Cl × V)}, G.R F H ρ σ T → (∀ x ∈ bvTs bs vs T0, x ∈ T) → bvVs σ bs vs → lks ρ bs = some cs → CRs G F H cs vs
  | [], [], cs, _, _, _, _, e => by
    cases e
    exact .nil
  | [], _ :: _, _, _, _, _, h, _ => h.elim
  | _ :: _, [], _, _, _, _, h, _ => h.elim
  | b :: bs, v :: vs, cs, T0, h, m, hv, e => by
    unfold lks at e
    cases q1 : lk ρ b with
    | none => rw [q1] at e; cases e
    | some c =>
      cases q2 : lks ρ bs with
      | none => rw [q1, q2] at e; cases e
      | some cs' =>
        rw [q1, q2] at e
        cases e
        refine .cons (bv_cr h (fun x hx => m x (bvTs_sub bs vs _ x ?_)) hv.1 q1) (bvs_cr h (T0 := bvT b v T0) m hv.2 q2)
        cases b with
        | pl i => cases hx
        | vl c =>
          rw [List.mem_singleton.mp hx]
          exact List.mem_cons_self
end

/-! ### the judgements -/
def PoE (G : Gd) (W : WX) (F : Hp) (σ : L2.St) (T : List (Cl × V)) (Q : VK) : Rz Cl → Prop
  | .ok c ρ => ∀ F' H' v, Same F F' → G.R F' H' ρ σ ((c, v) :: T) → Q v H'
  | .ex x ρ => PoX G W F σ T x ρ
def SndE (G : Gd) (W : WX) (t : TE) (f : Fn Cl) : Prop :=
  ∀ n ρ r, f n ρ = some r → ∀ F H σ T Q, G.R F H ρ σ T → PoE G W F σ T Q r → t σ H Q
def PoB (G : Gd) (W : WX) (F : Hp) (σ : L2.St) (T : List (Cl × V)) (Q : VK) : Rz Bv → Prop
  | .ok b ρ => ∀ F' H' v, Same F F' → G.R F' H' ρ σ (bvT b v T) → bvV σ b v → Q v H'
  | .ex x ρ => PoX G W F σ T x ρ
def SndB (G : Gd) (W : WX) (t : TE) (f : Fn Bv) : Prop :=
  ∀ n ρ r, f n ρ = some r → ∀ F H σ T Q, G.R F H ρ σ T → PoB G W F σ T Q r → t σ H Q
def PoBs (G : Gd) (W : WX) (F : Hp) (σ : L2.St) (T : List (Cl × V)) (Q : List V → Hp → Prop) : Rz (List Bv) → Prop
  | .ok bs ρ => ∀ F' H' vs, Same F F' → G.R F' H' ρ σ (bvTs bs vs T) → bvVs σ bs vs → Q vs H'
  | .ex x ρ => PoX G W F σ T x ρ
def SndBs (G : Gd) (W : WX) (t : TA) (f : Fn (List Bv)) : Prop :=
  ∀ n ρ r, f n ρ = some r → ∀ F H σ T Q, G.R F H ρ σ T → PoBs G W F σ T Q r → t σ H Q
def PoT (G : Gd) (W : WX) (F : Hp) (σ : L2.St) (T : List (Cl × V)) (Q : Bool → Hp → Prop) : Rz Bool → Prop
  | .ok b ρ => ∀ F' H', Same F F' → G.R F' H' ρ σ T → Q b H'
  | .ex x ρ => PoX G W F σ T x ρ
def SndT (G : Gd) (W : WX) (t : TT) (f : Fn Bool) : Prop :=
  ∀ n ρ r, f n ρ = some r → ∀ F H σ T Q, G.R F H ρ σ T → PoT G W F σ T Q r → t σ H Q

section
variable {ι : Type}
def XE (G : Gd) (X : ι → Cx) (W : WX) (e : Expr) (f : Fn Cl) : Prop := ∃ t : TE, (∀ i, PE (X i) e t) ∧ SndE G W t f
def XB (G : Gd) (X : ι → Cx) (W : WX) (e : Expr) (f : Fn Bv) : Prop := ∃ t : TE, (∀ i, PE (X i) e t) ∧ SndB G W t f
def XBs (G : Gd) (X : ι → Cx) (W : WX) (es : List Expr) (f : Fn (List Bv)) : Prop := ∃ t : TA, (∀ i, PA (X i) es t) ∧ SndBs G W t f
def XT (G : Gd) (X : ι → Cx) (W : WX) (e : Expr) (f : Fn Bool) : Prop := ∃ t : TT, (∀ i, PT (X i) e t) ∧ SndT G W t f
def XW (G : Gd) (X : ι → Cx) (W : WX) (e : Expr) (f : Fn Bool) : Prop := ∃ t : TT, (∀ i, PW (X i) e t) ∧ SndT G W t f
end

/-! ### operands and their lists -/
section
variable {ι : Type} {G : Gd} {X : ι → Cx} {W : WX} {e : Expr} {es : List Expr}
def fOf (f : Fn Cl) : Fn Bv := fun n ρ => bnd (f n ρ) fun c ρ' => some (.ok (.vl c) ρ')
theorem xb_of {f : Fn Cl} (h : XE G X W e f) : XB G X W e (fOf f) := by
  obtain ⟨t, h1, h2⟩ := h
  refine ⟨t, h1, fun n ρ r e F H σ T Q hR hP => ?_⟩
  unfold fOf at e
  cases q : f n ρ with
  | none => rw [q] at e; cases e
  | some r1 =>
    rw [q] at e
    refine h2 n ρ r1 q F H σ T Q hR ?_
    cases r1 with
    | ok c ρ' =>
      cases e
      exact fun F' H' v s r' => hP F' H' v s r' trivial
    | ex x ρ' =>
      cases e
      exact hP
def fPl (i : Nat) : Fn Bv := fun _ ρ => if ((ρ[i]?).join).isSome then some (.ok (.pl i) ρ) else none
theorem snd_pl (i : Nat) : SndB G W (tVar i) (fPl i) := fun n ρ r e F H σ T Q hR hP => by
  unfold fPl at e
  cases q : ρ[i]? with
  | none => rw [q] at e; cases e
  | some o =>
    cases o with
    | none => rw [q] at e; cases e
    | some c =>
      rw [q] at e
      cases e
      obtain ⟨v, h1, _⟩ := hR.at q
      exact ⟨v, h1, hP F H v (Same.refl _) hR h1⟩
theorem xb_var {i : Nat} {x : Str} {pos : Pos} (h : ∀ j, PE (X j) (.Name x pos) (tVar i)) : XB G X W (.Name x pos) (fPl i) := ⟨_, h, snd_pl i⟩
def fNil : Fn (List Bv) := fun _ ρ => some (.ok [] ρ)
def fCons (f : Fn Bv) (g : Fn (List Bv)) : Fn (List Bv) := fun n ρ => bnd (f n ρ) fun b ρ1 => bnd (g n ρ1) fun bs ρ2 => some (.ok (b :: bs) ρ2)
theorem snd_nil : SndBs G W tNil fNil := fun n ρ r e F H σ T Q hR hP => by
  cases e
  exact hP F H [] (Same.refl _) hR trivial
theorem PoX.dropT {F F1 : Hp} {σ : L2.St} {T : List (Cl × V)} {x : Ex} {ρ : En} {b : Bv} {v : V} (h : PoX G W F σ T x ρ) (s : Same F F1) : PoX G W F1 σ (bvT b v T) x ρ :=
  fun F' H' cls d s' r q => h F' H' cls d (s.trans s') (bvT_drop b v r) q
theorem snd_cons {ta : TE} {t : TA} {f : Fn Bv} {g : Fn (List Bv)} (ha : SndB G W ta f) (hr : SndBs G W t g) : SndBs G W (tCons ta t) (fCons f g) := fun n ρ r e F H σ T Q hR hP => by
  unfold fCons at e
  cases q : f n ρ with
  | none => rw [q] at e; cases e
  | some r1 =>
    rw [q] at e
    refine ha n ρ r1 q F H σ T _ hR ?_
    cases r1 with
    | ex x ρ' =>
      cases e
      exact hP
    | ok b ρ1 =>
      intro F1 H1 v s1 R1 v1
      rw [bnd_ok] at e
      cases q2 : g n ρ1 with
      | none => rw [q2] at e; cases e
      | some r2 =>
        rw [q2] at e
        refine hr n ρ1 r2 q2 F1 H1 σ _ _ R1 ?_
        cases r2 with
        | ex x ρ' =>
          cases e
          exact PoX.dropT hP s1
        | ok bs ρ2 =>
          cases e
          exact fun F2 H2 vs s2 R2 v2 => hP F2 H2 (v :: vs) (s1.trans s2) R2 ⟨v1, v2⟩
theorem xbs_nil : XBs G X W [] fNil := ⟨_, fun _ => pa_nil, snd_nil⟩
theorem xbs_cons {f : Fn Bv} {g : Fn (List Bv)} (ha : XB G X W e f) (hr : XBs G X W es g) (hs : ∀ i, starEach (e :: es) (X i).env = (false, eval e (X i).env) :: starEach es (X i).env) : XBs G X W (e :: es) (fCons f g) := by
  obtain ⟨t, h1, h2⟩ := ha
  obtain ⟨t', h1', h2'⟩ := hr
  exact ⟨_, fun i => pa_cons (h1 i) (h1' i) (hs i), snd_cons h2 h2'⟩

/-! ### an operation on values -/
def Prm (G : Gd) (r : List V → Hp → VK → Prop) (g : List Cl → Option Cl) : Prop :=
  ∀ F H L cs vs c Q, G.HR F H L → CRs G F H cs vs → g cs = some c → (∀ F' H' v, Same F F' → G.HR F' H' ((c, v) :: L) → Q v H') → r vs H Q
def fPr (f : Fn (List Bv)) (g : List Cl → Option Cl) : Fn Cl := fun n ρ => bnd (f n ρ) fun bs ρ1 => match lks ρ1 bs with
  | some cs => match g cs with
    | some c => some (.ok c ρ1)
    | none => none
  | none => none
theorem bvTs_mem {F H : Hp} {ρ : En} {σ : L2.St} : True := trivial
theorem snd_prm {t : TA} {f : Fn (List Bv)} {r : List V → Hp → VK → Prop} {g : List Cl → Option Cl} (ht : SndBs G W t f) (hp : Prm G r g) : SndE G W (tCB r t) (fPr f g) := fun n ρ r' e F H σ T Q hR hP => by
  unfold fPr at e
  cases q : f n ρ with
  | none => rw [q] at e; cases e
  | some r1 =>
    rw [q] at e
    refine ht n ρ r1 q F H σ T _ hR ?_
    cases r1 with
    | ex x ρ' =>
      cases e
      exact hP
    | ok bs ρ1 =>
      intro F1 H1 vs s1 R1 v1
      rw [bnd_ok] at e
      cases q2 : lks ρ1 bs with
      | none => rw [q2] at e; cases e
      | some cs =>
        rw [q2] at e
        dsimp only at e
        cases q3 : g cs with
        | none => rw [q3] at e; cases e
        | some c =>
          rw [q3] at e
          cases e
          have R0 := bvTs_drop bs vs T R1
          refine hp F1 H1 _ cs vs c _ R0.hr (bvs_cr (T0 := T) R1 (fun _ z => z) v1 q2) q3 fun F' H' v s' h' => ?_
          exact hP F' H' v (s1.trans s') (.mk' h' R0.ok)
def l1 (r : V → Hp → VK → Prop) : List V → Hp → VK → Prop := fun vs H Q => match vs with
  | [x] => r x H Q
  | _ => False
def l2 (r : R2) : List V → Hp → VK → Prop := fun vs H Q => match vs with
  | [x, y] => r x y H Q
  | _ => False
variable {a b : Expr} {fa fb : Fn Bv} {g : List Cl → Option Cl} {pos : Pos}
abbrev f2 (fa fb : Fn Bv) (g : List Cl → Option Cl) : Fn Cl := fPr (fCons fa (fCons fb fNil)) g
abbrev f1 (fa : Fn Bv) (g : List Cl → Option Cl) : Fn Cl := fPr (fCons fa fNil) g
theorem xe_bin {op : Operator} {r : R2} (ho : ∀ i, OpR (X i) (binaryOp op) r) (hp : Prm G (l2 r) g) (ha : XB G X W a fa) (hb : XB G X W b fb) : XE G X W (.BinOp a op b pos) (f2 fa fb g) := by
  obtain ⟨ta, h1, h2⟩ := ha
  obtain ⟨tb, h3, h4⟩ := hb
  exact ⟨_, fun i => pe_op (ho i) (h1 i) (h3 i), snd_prm (r := l2 r) (snd_cons h2 (snd_cons h4 snd_nil)) hp⟩
theorem xe_un {op : UnaryOp} {r : V → Hp → VK → Prop} (ho : ∀ i, UnR (X i) (unaryOp op) r) (hp : Prm G (l1 r) g) (ha : XB G X W a fa) : XE G X W (.UnaryOp op a pos) (f1 fa g) := by
  obtain ⟨ta, h1, h2⟩ := ha
  exact ⟨_, fun i => pe_un (ho i) (h1 i), snd_prm (r := l1 r) (snd_cons h2 snd_nil) hp⟩
theorem xe_cmp {op : CmpOp} {r : R2} (ho : ∀ i, OpR (X i) (compareOp op) r) (hp : Prm G (l2 r) g) (ha : XB G X W a fa) (hb : XB G X W b fb) (hm : behindInMarks op b = false) : XE G X W (.Compare a [op] [b] pos) (f2 fa fb g) := by
  obtain ⟨ta, h1, h2⟩ := ha
  obtain ⟨tb, h3, h4⟩ := hb
  exact ⟨_, fun i => pe_cmpR (ho i) (h1 i) (h3 i) hm, snd_prm (r := l2 r) (snd_cons h2 (snd_cons h4 snd_nil)) hp⟩
theorem xe_ix {r : R2} (hr : ∀ i, IxR (X i) r) (hp : Prm G (l2 r) g) (ha : XB G X W a fa) (hb : XB G X W b fb) (hs : PlainIx b) : XE G X W (.Subscript a b pos) (f2 fa fb g) := by
  obtain ⟨ta, h1, h2⟩ := ha
  obtain ⟨tb, h3, h4⟩ := hb
  exact ⟨_, fun i => pe_ix (hr i) (h1 i) (h3 i) hs, snd_prm (r := l2 r) (snd_cons h2 (snd_cons h4 snd_nil)) hp⟩
/-- a built-in function's call -/
theorem xe_callB {id : String} {x : Str} {p : Pos} {f : Fn (List Bv)} {r : List V → Hp → VK → Prop} (hc : ∀ i, CallR (X i) (.builtin id) r) (hp : Prm G r g) (hg : ∀ i, Gl (X i) x) (hm : ∀ i, (X i).mg x = none) (hv : bootBuiltins x = some (.builtin id)) (ha : XBs G X W (e :: es) f)
    (hn : x ≠ "__name__") (hdb : (x == ("__debug__" : Str)) = false) (he : ∀ i, starEach (e :: es) (X i).env = (false, eval e (X i).env) :: starEach es (X i).env) (hpl : ∀ i, (backTo pos (starEach es (X i).env)).any (·.1) = false) :
    XE G X W (.Call (.Name x p) (e :: es) [] pos) (fPr f g) := by
  obtain ⟨t, h1, h2⟩ := ha
  exact ⟨_, fun i => pe_callB (hc i) (hg i) (hm i) hv (h1 i) hn hdb (he i) (hpl i), snd_prm h2 hp⟩
theorem xe_callTy {T : String} {x : Str} {p : Pos} {f : Fn (List Bv)} {r : List V → Hp → VK → Prop} (hc : ∀ i, CallR (X i) (.type T) r) (hp : Prm G r g) (hg : ∀ i, Gl (X i) x) (hm : ∀ i, (X i).mg x = none) (hv : bootBuiltins x = some (.type T)) (ha : XBs G X W (e :: es) f)
    (hn : x ≠ "__name__") (hdb : (x == ("__debug__" : Str)) = false) (he : ∀ i, starEach (e :: es) (X i).env = (false, eval e (X i).env) :: starEach es (X i).env) (hpl : ∀ i, (backTo pos (starEach es (X i).env)).any (·.1) = false) :
    XE G X W (.Call (.Name x p) (e :: es) [] pos) (fPr f g) := by
  obtain ⟨t, h1, h2⟩ := ha
  exact ⟨_, fun i => pe_callTy (hc i) (hg i) (hm i) hv (h1 i) hn hdb (he i) (hpl i), snd_prm h2 hp⟩
end
end L3

namespace L3
open PySem PySem.Spec L2

/-! ### frozen operands -/
def fzB (ρ : En) : Bv → Option (D × En)
  | .pl i => match (ρ[i]?).join with
    | some c => match c.data with
      | some d => some (d, ρ.set i (some (.fz d)))
      | none => none
    | none => none
  | .vl c => match c.data with
    | some d => some (d, ρ)
    | none => none
def fzBs (ρ : En) : List Bv → Option (List D × En)
  | [] => some ([], ρ)
  | b :: bs => match fzBs ρ bs with
    | some (ds, ρ1) => match fzB ρ1 b with
      | some (d, ρ2) => some (d :: ds, ρ2)
      | none => none
    | none => none
section
variable {G : Gd} {W : WX} {F F' H H' : Hp} {ρ ρ' : En} {σ : L2.St} {T : List (Cl × V)}
theorem join_some {ρ : En} {i : Nat} {c : Cl} (e : (ρ[i]?).join = some c) : ρ[i]? = some (some c) := by
  cases q : ρ[i]? with
  | none => rw [q] at e; cases e
  | some o => rw [q] at e; rw [show o = some c from e]
theorem set_get_none {ρ : En} {i : Nat} {o : Option Cl} (e : ρ[i]? = some o) : (ρ.set i none)[i]? = some none := by
  obtain ⟨h, _⟩ := List.getElem?_eq_some_iff.mp e
  rw [List.getElem?_set_self h]
theorem fz_one {b : Bv} {v : V} {d : D} (hR : G.R F H ρ σ (bvT b v T)) (hv : bvV σ b v) (e : fzB ρ b = some (d, ρ')) : ∃ F', Same F F' ∧ G.R F' H ρ' σ T ∧ Rp G.K F' v d := by
  cases b with
  | pl i =>
    have hR : G.R F H ρ σ T := hR
    unfold fzB at e
    dsimp only at e
    cases q : (ρ[i]?).join with
    | none => rw [q] at e; cases e
    | some c =>
      rw [q] at e
      dsimp only at e
      cases q2 : c.data with
      | none => rw [q2] at e; cases e
      | some d' =>
        rw [q2] at e
        cases e
        have qi := join_some q
        obtain ⟨w, h1, R1⟩ := hR.take qi
        obtain ⟨F', s, R2⟩ := R1.freeze q2
        have hv : σ[i]? = some (some v) := hv
        rw [hv] at h1
        cases h1
        have r := R2.rp
        have R3 := R2.put (set_get_none qi) hv
        rw [List.set_set] at R3
        exact ⟨F', s, R3, r⟩
  | vl c =>
    unfold fzB at e
    dsimp only at e
    cases q2 : c.data with
    | none => rw [q2] at e; cases e
    | some d' =>
      rw [q2] at e
      cases e
      obtain ⟨F', s, R2⟩ := R.freeze (c := c) (v := v) hR q2
      exact ⟨F', s, R2.tail, R2.rp⟩
theorem fz_many : ∀ {bs : List Bv} {vs : List V} {ds : List D} {T : List (Cl × V)} {ρ' : En}, G.R F H ρ σ (bvTs bs vs T) → bvVs σ bs vs → fzBs ρ bs = some (ds, ρ') → ∃ F', Same F F' ∧ G.R F' H ρ' σ T ∧ RpA G.K F' vs ds
  | [], [], ds, T, ρ', hR, _, e => by
    cases e
    exact ⟨F, Same.refl _, hR, .nil⟩
  | [], _ :: _, _, _, _, _, h, _ => h.elim
  | _ :: _, [], _, _, _, _, h, _ => h.elim
  | b :: bs, v :: vs, ds, T, ρ', hR, hv, e => by
    unfold fzBs at e
    cases q : fzBs ρ bs with
    | none => rw [q] at e; cases e
    | some p =>
      obtain ⟨ds', ρ1⟩ := p
      rw [q] at e
      dsimp only at e
      cases q2 : fzB ρ1 b with
      | none => rw [q2] at e; cases e
      | some p2 =>
        obtain ⟨d, ρ2⟩ := p2
        rw [q2] at e
        cases e
        obtain ⟨F1, s1, R1, r1⟩ := fz_many (T := bvT b v T) hR hv.2 q
        obtain ⟨F2, s2, R2, r2⟩ := fz_one R1 hv.1 q2
        exact ⟨F2, s1.trans s2, R2, .cons r2 (r1.mono s2)⟩
end

section
variable {ι : Type} {G : Gd} {X : ι → Cx} {W : WX} {e : Expr} {es : List Expr}
/-- an operand as frozen data -/
def fFz (f : Fn Bv) : Fn Cl := fun n ρ => bnd (f n ρ) fun b ρ1 => match fzB ρ1 b with
  | some (d, ρ2) => some (.ok (.fz d) ρ2)
  | none => none
theorem snd_fz {t : TE} {f : Fn Bv} (h : SndB G W t f) : SndE G W t (fFz f) := fun n ρ r e F H σ T Q hR hP => by
  unfold fFz at e
  cases q : f n ρ with
  | none => rw [q] at e; cases e
  | some r1 =>
    rw [q] at e
    refine h n ρ r1 q F H σ T Q hR ?_
    cases r1 with
    | ex x ρ' => cases e; exact hP
    | ok b ρ1 =>
      rw [bnd_ok] at e
      cases q2 : fzB ρ1 b with
      | none => rw [q2] at e; cases e
      | some p =>
        obtain ⟨d, ρ2⟩ := p
        rw [q2] at e
        cases e
        intro F1 H1 v s1 R1 v1
        obtain ⟨F2, s2, R2, r2⟩ := fz_one R1 v1 q2
        exact hP F2 H1 v (s1.trans s2) (R2.push r2)
theorem xe_fz {f : Fn Bv} (h : XB G X W e f) : XE G X W e (fFz f) := by
  obtain ⟨t, h1, h2⟩ := h
  exact ⟨t, h1, snd_fz h2⟩
/-- a slot's cell moved out -/
def fMv (i : Nat) : Fn Cl := fun _ ρ => match (ρ[i]?).join with
  | some c => some (.ok c (ρ.set i none))
  | none => none
theorem xe_mv {i : Nat} {x : Str} {pos : Pos} (h : ∀ j, PE (X j) (.Name x pos) (tVar i)) : XE G X W (.Name x pos) (fMv i) := ⟨_, h, fun n ρ r e F H σ T Q hR hP => by
  unfold fMv at e
  cases q : (ρ[i]?).join with
  | none => rw [q] at e; cases e
  | some c =>
    rw [q] at e
    cases e
    obtain ⟨v, h1, R1⟩ := hR.take (join_some q)
    exact ⟨v, h1, hP F H v (Same.refl _) R1⟩⟩
/-- constants -/
def fC (d : D) : Fn Cl := fun _ ρ => some (.ok (.fz d) ρ)
theorem snd_c {v : V} {d : D} (h : ∀ F, Rp G.K F v d) : SndE G W (tC v) (fC d) := fun n ρ r e F H σ T Q hR hP => by
  cases e
  exact hP F H v (Same.refl _) (hR.push (h F))
theorem xe_int {i : Int} {j : Nat} {pos : Pos} : XE G X W (.Constant (.int i) j pos) (fC (.int i)) := ⟨_, fun _ => pe_int, snd_c fun _ => .int i⟩
theorem xe_bool {i : Bool} {j : Nat} {pos : Pos} : XE G X W (.Constant (.bool i) j pos) (fC (.bool i)) := ⟨_, fun _ => pe_bl, snd_c fun _ => .bl i⟩
theorem xe_none {j : Nat} {pos : Pos} : XE G X W (.Constant .none j pos) (fC .none) := ⟨_, fun _ => pe_non, snd_c fun _ => .non⟩
theorem xe_str {x : Str} {j : Nat} {pos : Pos} : XE G X W (.Constant (.str x) j pos) (fC (.str x)) := ⟨_, fun _ => pe_str, snd_c fun _ => .str x⟩
/-- a module's constant -/
theorem xe_glob {x : Str} {v : V} {u : Value} {d : D} {pos : Pos} (hg : ∀ i, Gl (X i) x) (hm : ∀ i, (X i).mg x = some u) (r : RelV v u) (h : ∀ F, Rp G.K F v d) (hd : (x == ("__debug__" : Str)) = false) : XE G X W (.Name x pos) (fC d) :=
  ⟨_, fun i => pe_glob (hg i) (hm i) r hd, snd_c h⟩
/-! ### displays -/
def fTup (f : Fn (List Bv)) : Fn Cl := fun n ρ => bnd (f n ρ) fun bs ρ1 => match fzBs ρ1 bs with
  | some (ds, ρ2) => if ds.length ≤ 1000 then some (.ok (.fz (.tuple ds)) ρ2) else none
  | none => none
def fLst (f : Fn (List Bv)) : Fn Cl := fun n ρ => bnd (f n ρ) fun bs ρ1 => match fzBs ρ1 bs with
  | some (ds, ρ2) => if ds.length ≤ 1000 then some (.ok (.lst ds) ρ2) else none
  | none => none
theorem line1000 {n : Nat} (h : n ≤ 1000) : n ≤ sizeLine := Nat.le_of_lt (small1000 h)
theorem R.newTup {F H : Hp} {ρ : En} {σ : L2.St} {T : List (Cl × V)} {p : Addr} {vs : List V} {ds : List D} (hR : G.R F H ρ σ T) (hp : H p = none) (r : RpA G.K F vs ds) : Same F (upd F p (.tup vs)) ∧ G.R (upd F p (.tup vs)) (upd H p (.tup vs)) ρ σ ((.fz (.tuple ds), .ref p) :: T) := by
  obtain ⟨s, q⟩ := hR.hr.newF (o := .tup vs) hp
  exact ⟨s, R.push ⟨q, hR.ok⟩ (.tup (.inl (.inl upd_same)) (r.mono s))⟩
theorem R.newLst {F H : Hp} {ρ : En} {σ : L2.St} {T : List (Cl × V)} {p : Addr} {vs : List V} {ds : List D} (hR : G.R F H ρ σ T) (hp : H p = none) (r : RpA G.K F vs ds) : G.R F (upd H p (.lst vs)) ρ σ ((.lst ds, .ref p) :: T) :=
  .mk' (hR.hr.newO hp (.lst upd_same (hR.sub.free hp) r)) hR.ok
theorem snd_tup {t : TA} {f : Fn (List Bv)} (h : SndBs G W t f) : SndE G W (tTup t) (fTup f) := fun n ρ r e F H σ T Q hR hP => by
  unfold fTup at e
  cases q : f n ρ with
  | none => rw [q] at e; cases e
  | some r1 =>
    rw [q] at e
    refine h n ρ r1 q F H σ T _ hR ?_
    cases r1 with
    | ex x ρ' => cases e; exact hP
    | ok bs ρ1 =>
      rw [bnd_ok] at e
      cases q2 : fzBs ρ1 bs with
      | none => rw [q2] at e; cases e
      | some p =>
        obtain ⟨ds, ρ2⟩ := p
        rw [q2] at e
        dsimp only at e
        split at e
        · rename_i hz
          cases e
          intro F1 H1 vs s1 R1 v1
          obtain ⟨F2, s2, R2, r2⟩ := fz_many R1 v1 q2
          refine ⟨by rw [r2.length]; exact line1000 hz, fun p hp => ?_⟩
          obtain ⟨s3, R3⟩ := R.newTup R2 hp r2
          exact hP _ _ _ ((s1.trans s2).trans s3) R3
        · cases e
theorem snd_lst {t : TA} {f : Fn (List Bv)} (h : SndBs G W t f) : SndE G W (tLst t) (fLst f) := fun n ρ r e F H σ T Q hR hP => by
  unfold fLst at e
  cases q : f n ρ with
  | none => rw [q] at e; cases e
  | some r1 =>
    rw [q] at e
    refine h n ρ r1 q F H σ T _ hR ?_
    cases r1 with
    | ex x ρ' => cases e; exact hP
    | ok bs ρ1 =>
      rw [bnd_ok] at e
      cases q2 : fzBs ρ1 bs with
      | none => rw [q2] at e; cases e
      | some p =>
        obtain ⟨ds, ρ2⟩ := p
        rw [q2] at e
        dsimp only at e
        split at e
        · rename_i hz
          cases e
          intro F1 H1 vs s1 R1 v1
          obtain ⟨F2, s2, R2, r2⟩ := fz_many R1 v1 q2
          refine ⟨by rw [r2.length]; exact line1000 hz, fun p hp => ?_⟩
          exact hP _ _ _ (s1.trans s2) (R.newLst R2 hp r2)
        · cases e
theorem xe_tup {f : Fn (List Bv)} {k : Nat} {pos : Pos} (h : XBs G X W es f) : XE G X W (.Tuple es k pos) (fTup f) := by
  obtain ⟨t, h1, h2⟩ := h
  exact ⟨_, fun i => pe_tup (h1 i), snd_tup h2⟩
theorem xe_lst {f : Fn (List Bv)} {pos : Pos} (h : XBs G X W es f) : XE G X W (.List es pos) (fLst f) := by
  obtain ⟨t, h1, h2⟩ := h
  exact ⟨_, fun i => pe_lst (h1 i), snd_lst h2⟩

/-! ### tests -/
def asB (c : Cl) : Option Bool := match c with
  | .fz (.bool b) => some b
  | _ => none
def fTst (f : Fn Cl) : Fn Bool := fun n ρ => bnd (f n ρ) fun c ρ1 => match asB c with
  | some b => some (.ok b ρ1)
  | none => none
theorem asB_some {c : Cl} {b : Bool} (h : asB c = some b) : c = .fz (.bool b) := by
  unfold asB at h
  split at h
  · cases h; rfl
  · cases h
theorem snd_tB {t : TE} {f : Fn Cl} (h : SndE G W t f) : SndT G W (tB t) (fTst f) := fun n ρ r e F H σ T Q hR hP => by
  unfold fTst at e
  cases q : f n ρ with
  | none => rw [q] at e; cases e
  | some r1 =>
    rw [q] at e
    refine h n ρ r1 q F H σ T _ hR ?_
    cases r1 with
    | ex x ρ' => cases e; exact hP
    | ok c ρ1 =>
      rw [bnd_ok] at e
      cases q2 : asB c with
      | none => rw [q2] at e; cases e
      | some b =>
        rw [q2] at e
        cases e
        have ec := asB_some q2
        subst ec
        intro F1 H1 v s1 R1
        have r := R1.rp
        cases r
        exact ⟨b, rfl, hP F1 H1 s1 R1.tail⟩
theorem xt_val {f : Fn Cl} (h : XE G X W e f) (he : ∀ i, ∀ whole, isTrue e (X i).env whole = (do let v ← whole; standAt e.pos; holding [v] (truthy v))) : XT G X W e (fTst f) := by
  obtain ⟨t, h1, h2⟩ := h
  exact ⟨_, fun i => pt_val (h1 i) (he i), snd_tB h2⟩
variable {a b : Expr} {fa fb : Fn Bv} {g : List Cl → Option Cl} {pos : Pos}
theorem xt_cmp {op : CmpOp} {r : R2} (ho : ∀ i, OpR (X i) (compareOp op) r) (hp : Prm G (l2 r) g) (ha : XB G X W a fa) (hb : XB G X W b fb) (hm : behindInMarks op b = false) : XT G X W (.Compare a [op] [b] pos) (fTst (f2 fa fb g)) := by
  obtain ⟨ta, h1, h2⟩ := ha
  obtain ⟨tb, h3, h4⟩ := hb
  exact ⟨_, fun i => pt_cmpR (ho i) (h1 i) (h3 i) hm, snd_tB (snd_prm (r := l2 r) (snd_cons h2 (snd_cons h4 snd_nil)) hp)⟩
variable {tA tB' : Fn Bool} {rest : List Expr}
def fAnd (t u : Fn Bool) : Fn Bool := fun n ρ => bnd (t n ρ) fun c ρ1 => if c = true then u n ρ1 else some (.ok false ρ1)
def fOr (t u : Fn Bool) : Fn Bool := fun n ρ => bnd (t n ρ) fun c ρ1 => if c = true then some (.ok true ρ1) else u n ρ1
def fNot (t : Fn Bool) : Fn Bool := fun n ρ => bnd (t n ρ) fun c ρ1 => some (.ok (!c) ρ1)
theorem xw_and1 (h : XT G X W a tA) : XW G X W (.BoolOp .And [a] pos) tA := by
  obtain ⟨t, h1, h2⟩ := h
  exact ⟨t, fun i => pw_and1 (h1 i), h2⟩
theorem xw_or1 (h : XT G X W a tA) : XW G X W (.BoolOp .Or [a] pos) tA := by
  obtain ⟨t, h1, h2⟩ := h
  exact ⟨t, fun i => pw_or1 (h1 i), h2⟩
theorem snd_and {t u : TT} {f g : Fn Bool} (h : SndT G W t f) (k : SndT G W u g) : SndT G W (tAnd t u) (fAnd f g) := fun n ρ r e F H σ T Q hR hP => by
  unfold fAnd at e
  cases q : f n ρ with
  | none => rw [q] at e; cases e
  | some r1 =>
    rw [q] at e
    refine h n ρ r1 q F H σ T _ hR ?_
    cases r1 with
    | ex x ρ' => cases e; exact hP
    | ok c ρ1 =>
      rw [bnd_ok] at e
      intro F1 H1 s1 R1
      cases c with
      | true =>
        rw [if_pos rfl] at e
        rw [if_pos rfl]
        refine k n ρ1 r e F1 H1 σ T Q R1 ?_
        cases r with
        | ex x ρ' => exact PoX.mono hP s1
        | ok d ρ2 => exact fun F2 H2 s2 R2 => hP F2 H2 (s1.trans s2) R2
      | false =>
        rw [if_neg Bool.false_ne_true] at e
        rw [if_neg Bool.false_ne_true]
        cases e
        exact hP F1 H1 s1 R1
theorem snd_or {t u : TT} {f g : Fn Bool} (h : SndT G W t f) (k : SndT G W u g) : SndT G W (tOr t u) (fOr f g) := fun n ρ r e F H σ T Q hR hP => by
  unfold fOr at e
  cases q : f n ρ with
  | none => rw [q] at e; cases e
  | some r1 =>
    rw [q] at e
    refine h n ρ r1 q F H σ T _ hR ?_
    cases r1 with
    | ex x ρ' => cases e; exact hP
    | ok c ρ1 =>
      rw [bnd_ok] at e
      intro F1 H1 s1 R1
      cases c with
      | false =>
        rw [if_neg Bool.false_ne_true] at e
        rw [if_neg Bool.false_ne_true]
        refine k n ρ1 r e F1 H1 σ T Q R1 ?_
        cases r with
        | ex x ρ' => exact PoX.mono hP s1
        | ok d ρ2 => exact fun F2 H2 s2 R2 => hP F2 H2 (s1.trans s2) R2
      | true =>
        rw [if_pos rfl] at e
        rw [if_pos rfl]
        cases e
        exact hP F1 H1 s1 R1
theorem snd_not {t : TT} {f : Fn Bool} (h : SndT G W t f) : SndT G W (tNot t) (fNot f) := fun n ρ r e F H σ T Q hR hP => by
  unfold fNot at e
  cases q : f n ρ with
  | none => rw [q] at e; cases e
  | some r1 =>
    rw [q] at e
    refine h n ρ r1 q F H σ T _ hR ?_
    cases r1 with
    | ex x ρ' => cases e; exact hP
    | ok c ρ1 =>
      cases e
      exact fun F1 H1 s1 R1 => hP F1 H1 s1 R1
theorem xw_and (ha : XT G X W a tA) (hb : XW G X W (.BoolOp .And (b :: rest) pos) tB') : XW G X W (.BoolOp .And (a :: b :: rest) pos) (fAnd tA tB') := by
  obtain ⟨t, h1, h2⟩ := ha
  obtain ⟨u, h3, h4⟩ := hb
  exact ⟨_, fun i => pw_and (h1 i) (h3 i), snd_and h2 h4⟩
theorem xw_or (ha : XT G X W a tA) (hb : XW G X W (.BoolOp .Or (b :: rest) pos) tB') : XW G X W (.BoolOp .Or (a :: b :: rest) pos) (fOr tA tB') := by
  obtain ⟨t, h1, h2⟩ := ha
  obtain ⟨u, h3, h4⟩ := hb
  exact ⟨_, fun i => pw_or (h1 i) (h3 i), snd_or h2 h4⟩
theorem xt_w {f : Fn Bool} (h : XW G X W e f) : XT G X W e f := by
  obtain ⟨t, h1, h2⟩ := h
  exact ⟨t, fun i => (h1 i).pt, h2⟩
theorem xt_not (h : XT G X W a tA) : XT G X W (.UnaryOp .Not a pos) (fNot tA) := by
  obtain ⟨t, h1, h2⟩ := h
  exact ⟨_, fun i => pt_not (h1 i), snd_not h2⟩
/-! ### .. as values -/
def fBv (t : Fn Bool) : Fn Cl := fun n ρ => bnd (t n ρ) fun c ρ1 => some (.ok (.fz (.bool c)) ρ1)
def fAndV (f : Fn Cl) (g : Fn Cl) : Fn Cl := fun n ρ => bnd (fTst f n ρ) fun c ρ1 => if c = true then g n ρ1 else some (.ok (.fz (.bool false)) ρ1)
def fOrV (f : Fn Cl) (g : Fn Cl) : Fn Cl := fun n ρ => bnd (fTst f n ρ) fun c ρ1 => if c = true then some (.ok (.fz (.bool true)) ρ1) else g n ρ1
theorem xe_one {op : BoolOp} {f : Fn Cl} (h : XE G X W a f) : XE G X W (.BoolOp op [a] pos) f := by
  obtain ⟨t, h1, h2⟩ := h
  exact ⟨t, fun i => pe_one (h1 i), h2⟩
theorem PoE.mono {F F1 : Hp} {σ : L2.St} {T : List (Cl × V)} {Q : VK} {r : Rz Cl} (h : PoE G W F σ T Q r) (s : Same F F1) : PoE G W F1 σ T Q r := by
  cases r with
  | ok c ρ => exact fun F' H' v s' r' => h F' H' v (s.trans s') r'
  | ex x ρ => exact PoX.mono h s
theorem xe_and {f g : Fn Cl} (ha : XE G X W a f) (hb : XE G X W (.BoolOp .And (b :: rest) pos) g) : XE G X W (.BoolOp .And (a :: b :: rest) pos) (fAndV f g) := by
  obtain ⟨t, h1, h2⟩ := ha
  obtain ⟨u, h3, h4⟩ := hb
  refine ⟨_, fun i => pe_and (h1 i) (h3 i), fun n ρ r e F H σ T Q hR hP => ?_⟩
  unfold fAndV at e
  cases q : fTst f n ρ with
  | none => rw [q] at e; cases e
  | some r1 =>
    rw [q] at e
    refine snd_tB h2 n ρ r1 q F H σ T (fun c H1 => if c = true then u σ H1 Q else Q (.bl false) H1) hR ?_
    cases r1 with
    | ex x ρ' => cases e; exact hP
    | ok c ρ1 =>
      rw [bnd_ok] at e
      intro F1 H1 s1 R1
      cases c with
      | true =>
        rw [if_pos rfl] at e
        rw [if_pos rfl]
        exact h4 n ρ1 r e F1 H1 σ T Q R1 (hP.mono s1)
      | false =>
        rw [if_neg Bool.false_ne_true] at e
        rw [if_neg Bool.false_ne_true]
        cases e
        exact hP F1 H1 _ s1 (R1.push (.bl false))
theorem xe_or {f g : Fn Cl} (ha : XE G X W a f) (hb : XE G X W (.BoolOp .Or (b :: rest) pos) g) : XE G X W (.BoolOp .Or (a :: b :: rest) pos) (fOrV f g) := by
  obtain ⟨t, h1, h2⟩ := ha
  obtain ⟨u, h3, h4⟩ := hb
  refine ⟨_, fun i => pe_or (h1 i) (h3 i), fun n ρ r e F H σ T Q hR hP => ?_⟩
  unfold fOrV at e
  cases q : fTst f n ρ with
  | none => rw [q] at e; cases e
  | some r1 =>
    rw [q] at e
    refine snd_tB h2 n ρ r1 q F H σ T (fun c H1 => if c = true then Q (.bl true) H1 else u σ H1 Q) hR ?_
    cases r1 with
    | ex x ρ' => cases e; exact hP
    | ok c ρ1 =>
      rw [bnd_ok] at e
      intro F1 H1 s1 R1
      cases c with
      | false =>
        rw [if_neg Bool.false_ne_true] at e
        rw [if_neg Bool.false_ne_true]
        exact h4 n ρ1 r e F1 H1 σ T Q R1 (hP.mono s1)
      | true =>
        rw [if_pos rfl] at e
        rw [if_pos rfl]
        cases e
        exact hP F1 H1 _ s1 (R1.push (.bl true))
theorem xe_not {f : Fn Cl} (ha : XE G X W a f) : XE G X W (.UnaryOp .Not a pos) (fBv (fNot (fTst f))) := by
  obtain ⟨t, h1, h2⟩ := ha
  refine ⟨_, fun i => pe_not (h1 i), fun n ρ r e F H σ T Q hR hP => ?_⟩
  unfold fBv at e
  cases q : fNot (fTst f) n ρ with
  | none => rw [q] at e; cases e
  | some r1 =>
    rw [q] at e
    refine snd_not (snd_tB h2) n ρ r1 q F H σ T (fun c H1 => Q (.bl c) H1) hR ?_
    cases r1 with
    | ex x ρ' => cases e; exact hP
    | ok c ρ1 =>
      cases e
      exact fun F1 H1 s1 R1 => hP F1 H1 _ s1 (R1.push (.bl c))
def fIf (t : Fn Bool) (f g : Fn Cl) : Fn Cl := fun n ρ => bnd (t n ρ) fun c ρ1 => if c = true then f n ρ1 else g n ρ1
theorem xe_if {c : Expr} {f g : Fn Cl} (hc : XT G X W c tA) (ha : XE G X W a f) (hb : XE G X W b g) : XE G X W (.IfExp c a b pos) (fIf tA f g) := by
  obtain ⟨t, h1, h2⟩ := hc
  obtain ⟨ta, h3, h4⟩ := ha
  obtain ⟨tb, h5, h6⟩ := hb
  refine ⟨_, fun i => pe_ifExp (h1 i) (h3 i) (h5 i), fun n ρ r e F H σ T Q hR hP => ?_⟩
  unfold fIf at e
  cases q : tA n ρ with
  | none => rw [q] at e; cases e
  | some r1 =>
    rw [q] at e
    refine h2 n ρ r1 q F H σ T _ hR ?_
    cases r1 with
    | ex x ρ' => cases e; exact hP
    | ok c ρ1 =>
      rw [bnd_ok] at e
      intro F1 H1 s1 R1
      cases c with
      | true =>
        rw [if_pos rfl] at e
        show if true = true then _ else _
        rw [if_pos rfl]
        exact h4 n ρ1 r e F1 H1 σ T Q R1 (hP.mono s1)
      | false =>
        rw [if_neg Bool.false_ne_true] at e
        show if false = true then _ else _
        rw [if_neg Bool.false_ne_true]
        exact h6 n ρ1 r e F1 H1 σ T Q R1 (hP.mono s1)
/-- a op b op' c -/
def fCh (fa fb fc : Fn Bv) (g g' : List Cl → Option Cl) : Fn Cl := fun n ρ => bnd (fa n ρ) fun ba ρ0 => bnd (fb n ρ0) fun bb ρ1 => match lks ρ1 [ba, bb] with
  | some cs => match g cs with
    | some (.fz (.bool true)) => bnd (fc n ρ1) fun bc ρ2 => match lks ρ2 [bb, bc] with
      | some cs' => match g' cs' with
        | some c' => some (.ok c' ρ2)
        | none => none
      | none => none
    | some (.fz (.bool false)) => some (.ok (.fz (.bool false)) ρ1)
    | _ => none
  | none => none
theorem snd_ch {ta tb tc : TE} {fc : Fn Bv} {r r' : R2} {g' : List Cl → Option Cl} (h1 : SndB G W ta fa) (h2 : SndB G W tb fb) (h3 : SndB G W tc fc) (hp : Prm G (l2 r) g) (hp' : Prm G (l2 r') g') : SndE G W (tChain r r' ta tb tc) (fCh fa fb fc g g') := fun n ρ o e F H σ T Q hR hP => by
  unfold fCh at e
  cases q : fa n ρ with
  | none => rw [q] at e; cases e
  | some r1 =>
    rw [q] at e
    refine h1 n ρ r1 q F H σ T _ hR ?_
    cases r1 with
    | ex x ρ' => cases e; exact hP
    | ok ba ρ0 =>
      rw [bnd_ok] at e
      intro F1 H1 x s1 R1 v1
      cases q2 : fb n ρ0 with
      | none => rw [q2] at e; cases e
      | some r2 =>
        rw [q2] at e
        refine h2 n ρ0 r2 q2 F1 H1 σ _ _ R1 ?_
        cases r2 with
        | ex x ρ' => cases e; exact PoX.dropT hP s1
        | ok bb ρ1 =>
          rw [bnd_ok] at e
          intro F2 H2 y s2 R2 v2
          cases q3 : lks ρ1 [ba, bb] with
          | none => rw [q3] at e; cases e
          | some cs =>
            rw [q3] at e
            dsimp only at e
            have cr := bvs_cr (bs := [ba, bb]) (vs := [x, y]) (T0 := T) R2 (fun _ z => z) ⟨v1, v2, trivial⟩ q3
            have R0 : G.R F2 H2 ρ1 σ (bvT bb y T) := by
              cases bb with
              | pl j => exact bvT_drop ba x R2
              | vl c =>
                cases ba with
                | pl j => exact R2
                | vl c' => exact R.drop2 (x := (c', x)) R2
            cases q4 : g cs with
            | none => rw [q4] at e; cases e
            | some c =>
              rw [q4] at e
              refine hp F2 H2 (eL ρ1 σ ++ (bvT bb y T)) cs [x, y] c _ R0.hr cr q4 fun F3 H3 z s3 hz => ?_
              have Rz : G.R F3 H3 ρ1 σ ((c, z) :: bvT bb y T) := .mk' hz R0.ok
              split at e
              · rename_i ez
                cases ez
                have rz := Rz.rp
                cases rz
                refine ⟨true, rfl, ?_⟩
                rw [if_pos rfl]
                cases q5 : fc n ρ1 with
                | none => rw [q5] at e; cases e
                | some r3 =>
                  rw [q5] at e
                  refine h3 n ρ1 r3 q5 F3 H3 σ _ _ Rz.tail ?_
                  cases r3 with
                  | ex x ρ' => cases e; exact PoX.dropT hP ((s1.trans s2).trans s3)
                  | ok bc ρ2 =>
                    rw [bnd_ok] at e
                    intro F4 H4 w s4 R4 v4
                    cases q6 : lks ρ2 [bb, bc] with
                    | none => rw [q6] at e; cases e
                    | some cs' =>
                      rw [q6] at e
                      dsimp only at e
                      cases q7 : g' cs' with
                      | none => rw [q7] at e; cases e
                      | some c' =>
                        rw [q7] at e
                        cases e
                        have cr' := bvs_cr (bs := [bb, bc]) (vs := [y, w]) (T0 := T) R4 (fun _ z => z) ⟨v2, v4, trivial⟩ q6
                        have R5 : G.R F4 H4 ρ2 σ T := bvT_drop bb y (bvT_drop bc w R4)
                        exact hp' F4 H4 _ cs' [y, w] c' _ R5.hr cr' q7 fun F5 H5 z' s5 h5 => hP F5 H5 z' ((((s1.trans s2).trans s3).trans s4).trans s5) (.mk' h5 R5.ok)
              · rename_i ez
                cases ez
                have rz := Rz.rp
                cases rz
                refine ⟨false, rfl, ?_⟩
                rw [if_neg Bool.false_ne_true]
                cases e
                exact hP F3 H3 _ ((s1.trans s2).trans s3) ((bvT_drop bb y Rz.tail).push (.bl false))
              · cases e
theorem xe_ch {op op' : CmpOp} {r r' : R2} {c : Expr} {fc : Fn Bv} {g' : List Cl → Option Cl} (ho : ∀ i, OpR (X i) (compareOp op) r) (ho' : ∀ i, OpR (X i) (compareOp op') r') (hp : Prm G (l2 r) g) (hp' : Prm G (l2 r') g') (ha : XB G X W a fa) (hb : XB G X W b fb) (hc : XB G X W c fc)
    (hm : lastMarks [op, op'] [b, c] = false) : XE G X W (.Compare a [op, op'] [b, c] pos) (fCh fa fb fc g g') := by
  obtain ⟨ta, h1, h2⟩ := ha
  obtain ⟨tb, h3, h4⟩ := hb
  obtain ⟨tc, h5, h6⟩ := hc
  exact ⟨_, fun i => pe_chain (ho i) (ho' i) (h1 i) (h3 i) (h5 i) hm, snd_ch h2 h4 h6 hp hp'⟩
theorem xt_ch {op op' : CmpOp} {r r' : R2} {c : Expr} {fc : Fn Bv} {g' : List Cl → Option Cl} (ho : ∀ i, OpR (X i) (compareOp op) r) (ho' : ∀ i, OpR (X i) (compareOp op') r') (hp : Prm G (l2 r) g) (hp' : Prm G (l2 r') g') (ha : XB G X W a fa) (hb : XB G X W b fb) (hc : XB G X W c fc)
    (hm : lastMarks [op, op'] [b, c] = false) : XT G X W (.Compare a [op, op'] [b, c] pos) (fTst (fCh fa fb fc g g')) := by
  obtain ⟨ta, h1, h2⟩ := ha
  obtain ⟨tb, h3, h4⟩ := hb
  obtain ⟨tc, h5, h6⟩ := hc
  exact ⟨_, fun i => pt_chain (ho i) (ho' i) (h1 i) (h3 i) (h5 i) hm, snd_tB (snd_ch h2 h4 h6 hp hp')⟩
end
end L3

namespace L3
open PySem PySem.Spec L2 PyProof.Rows

/-! ### enumerate over a thing whose iterator is at hand -/
/-- v opens where H holds: its iterator, and the heap behind -/
def Opens (v : Value) (H : Heap → Prop) (it : Heap → Addr) (behind : Heap → Heap) : Prop := ∀ (prog : Program) (w : World) (A : Around) (E : Value → Shared → Prop) (s : Shared) (Q : Value → Shared → Prop), H s.heap →
  Q (.ref (it s.heap)) { s with heap := behind s.heap } → wpAny (model prog w) A (pyIter v) Q E s
/-- the record of enumerate(v) before its first turn -/
abbrev enO (it : Addr) : Obj := { cls := .type "enumerate", data := .fields #[.none, .bool false, .ref it, rawInt 0, .none, .none] }
set_option maxHeartbeats 1000000 in
theorem meets_enum {v : Value} {H : Heap → Prop} {it : Heap → Addr} {behind : Heap → Heap} (op : Opens v H it behind) :
    Meets (Builtin.«enumerate.__new__» ⟨[.type "enumerate", v], []⟩) (fun _ R s => H s.heap ∧ R (.ok (.ret (.ref (behind s.heap).objs.size))) { s with heap := (behind s.heap).push (enO (it s.heap)) }) :=
  .of_wp fun prog w A R s hyp => by
    obtain ⟨can, post⟩ := hyp
    have self := PySem.sub_enumerate
    have opened : ∀ {A' : Around} {E : Value → Shared → Prop} {Q : Value → Shared → Prop}, Q (.ref (it s.heap)) { s with heap := behind s.heap } → wpAny (model prog w) A' (pyIter v) Q E s := op prog w _ _ s _ can
    wp_walk using opened
    refine wpAny_stack_any fun _ => wpAny_pure ?_
    split <;> first | (rename_i c _ _ _ _ _; cases (c == Value.type "enumerate") <;> (wp_walk using opened; exact ⟨_, rfl, post⟩)) | (wp_walk using opened; exact ⟨_, rfl, post⟩)
theorem enum_over {prog : Program} {w : World} {A : Around} {E : Value → Shared → Prop} {s : Shared} {v : Value} {H : Heap → Prop} {it : Heap → Addr} {behind : Heap → Heap} {Q : Value → Shared → Prop} (op : Opens v H it behind) (can : H s.heap)
    (post : ∀ h', IsEnum h' (behind s.heap).objs.size (it s.heap) 0 .none → h'.objs.size = (behind s.heap).objs.size + 1 → (∀ c o, (behind s.heap).get? c = some o → h'.get? c = some o) → Q (.ref (behind s.heap).objs.size) { s with heap := h' }) :
    wpAny (model prog w) A (call (.type "enumerate") [v]) Q E s := by
  have en : IsEnum ((behind s.heap).push (enO (it s.heap))) (behind s.heap).objs.size (it s.heap) 0 .none := Heap.get?_push_size _ rfl
  exact callType_new PySem.F.called_enumerate (by decide) (PySem.F.typeCall_enumerate_1 _) (PySem.F.newCall_enumerate_1 _) (fun obj => PySem.F.args_object_init_2 obj _) PySem.F.entry_enumerate_new
    (meets_enum op) ⟨can, ⟨_, en, rfl⟩, post _ en (Heap.size_push ..) fun _ _ => Heap.get?_push_of_some _⟩
theorem enum_begins0 {prog : Program} {w : World} {A : Around} {E : Value → Shared → Prop} {s : Shared} {v : Value} {o : Obj} {H : Heap → Prop} {Q : Value → Shared → Prop} (B : Begins v o H) (can : H s.heap)
    (post : ∀ h', IsEnum h' (s.heap.objs.size + 1) s.heap.objs.size 0 .none → h'.get? s.heap.objs.size = some o → h'.objs.size = s.heap.objs.size + 2 → (∀ c o, s.heap.get? c = some o → h'.get? c = some o) → Q (.ref (s.heap.objs.size + 1)) { s with heap := h' }) :
    wpAny (model prog w) A (call (.type "enumerate") [v]) Q E s :=
  enum_over (behind := fun h => h.push o) (it := fun h => h.objs.size) (fun prog w A E s Q => B.iter prog w A E s Q) can fun h' en sz kept => by
    have one : (s.heap.push o).objs.size = s.heap.objs.size + 1 := Heap.size_push ..
    simp only [one] at en sz ⊢
    exact post h' en (kept _ _ (Heap.get?_push_size _ B.free)) sz fun c o q => kept c o (Heap.get?_push_of_some _ q)
/-! ### enumerate(tuple) -/
def IteT (K : PySem.W.Frag) (a : Addr) : It :=
  ⟨fun i H => ∃ (xs : List V) (x : V), SqT K H a xs ∧ xs[i]? = some x, fun i H v H' => ∃ T x, v = .ref T ∧ H T = none ∧ H' = upd H T (.tup [.int (i : Nat), x]) ∧ ∀ xs, SqT K H a xs → xs[i]? = some x, fun i H => ∃ xs : List V, SqT K H a xs ∧ xs.length ≤ i⟩
/-- the end of enumerate over a tuple that is used up, whatever the count is -/
theorem enum_done {prog : Program} {w : World} {A : Around} {E : Value → Shared → Prop} {s : Shared} {e it a : Addr} {i : Nat} {c : Int} {old : Value} {its : Array Value} {Q : Option Value → Shared → Prop} (hh : A.handled = none) (en : IsEnum s.heap e it c old)
    (iter : s.heap.IsTupleIter it a i) (tup : s.heap.IsTuple a its) (full : its.size ≤ i) (q : ∀ h', Heap.ExtBut it s.heap h' → Q none { s with heap := h' }) : wpAny (model prog w) A (pyNext (.ref e)) Q E s :=
  wpAny_pyNext_enum_endD (n := i) (P := fun _ _ => True) (St := fun j h => j = i ∧ h.IsTupleIter it a i ∧ h.IsTuple a its)
    { live := fun _ _ st => st.2.1.imp fun _ z => z.1
      frame := fun _ _ _ st k => ⟨st.1, st.2.1.at fun o z => k it (.head _) o z, st.2.2.at fun o z => k a (.tail _ (.head _)) o z⟩
      item := fun _ _ _ _ lt st _ => absurd st.1 (Nat.ne_of_lt lt)
      done := fun _ _ _ st h => wpAny_nextOf_tuple_end hh st.2.1 st.2.2 (Array.getElem?_eq_none full) h : Draws prog w A.in1 it [it, a] i _ _ } en ⟨rfl, iter, tup⟩ q
/-- the pair (i, x) that enumerate has laid at T: once the loop has let go of it, it stands as a tuple of ours, and the iterators have turned -/
theorem pair_laid {X : Cx} {pins : List (Addr × Obj)} {σ : L2.St} {H : Hp} {s : Shared} {h' : Heap} {tk i : Nat} {e it T : Addr} {x : V} {u : Value} {ch : List Addr} {elts : List Expr} {kk : Nat} {tpos : Pos} {E : Value → Shared → Prop}
    (I : L2.Inv X pins σ H s) (new : s.heap.objs.size ≤ T) (hf : ∀ b ∈ ch, FpOk X pins H b) (me : e ∈ ch) (lt : ∀ b ∈ ch, b < T) (ru : RelV x u) (out : IsEnumOut h' e it ((i : Int) + 1) u T)
    (laid : h'.get? T = some { cls := .type "tuple", data := .seq #[.int i tk, u] }) (kept : ∀ b o, b ∉ ch → s.heap.get? b = some o → h'.get? b = some o) :
    wpAny (model X.prog X.w) X.A (letOwnedTupleGo (.Tuple elts kk tpos) (.ref e) (.ref T)) (fun _ t => Inv X pins σ (upd H T (.tup [.int i, x])) t ∧ IsEnum t.heap e it ((i : Int) + 1) u ∧ Heap.SameBut e h' t.heap) E { s with heap := h', toks := tk + 1 } :=
  wpAny_letOwnedTupleGo_enum (s := { s with heap := h', toks := tk + 1 }) out fun h2 en same =>
    ⟨I.turnedNew (ch := ch) (fun b o nb q => (same.2 b fun z => nb (z ▸ me)).trans (kept b o nb q)) hf new ⟨by show 2 ≤ sizeLine; decide, [.int i tk, u], .cons ⟨tk, rfl⟩ (.cons ru .nil), ⟨_, (same.2 _ (Nat.ne_of_gt (lt e me))).trans laid, rfl, 0, rfl⟩⟩, en, same⟩
theorem fp_none {H : Hp} {n : Addr} {o : HO} {ch : List Addr} (lt : ∀ b ∈ ch, b < n) (hn : ∀ b ∈ ch, H b = none) : ∀ b ∈ ch, upd H n o b = none := fun b hb => (upd_ne (Nat.ne_of_lt (lt b hb))).trans (hn b hb)
theorem turn_enumT {P : Program} {w : World} {K : PySem.W.Frag} {elts : List Expr} {kk : Nat} {tpos : Pos} (a e it : Addr) :
    Turn P w K (.Tuple elts kk tpos) (IteT K a) [e, it] e (fun i h => (∃ old, IsEnum h e it ((i : Nat) : Int) old) ∧ h.IsTupleIter it a i ∧ e ≠ it ∧ a ≠ it ∧ a ≠ e) where
  mem := List.mem_cons_self
  obj _ _ st b hb := by
    have ⟨⟨_, en⟩, ⟨o, at_, _, dd⟩, _⟩ := st
    match b, hb with
    | _, .head _ => exact ⟨_, en, nofun⟩
    | _, .tail _ (.head _) => exact ⟨o, at_, fun v z => nomatch dd.symm.trans z⟩
  keep _ _ _ st k := ⟨st.1.imp fun _ en => k e (.head _) _ en, st.2.1.at fun o q => k it (.tail _ (.head _)) o q, st.2.2⟩
  item X hP hw hK calm i pins s σ H E I hf st hg := by
    cases hP; cases hw; cases hK
    have ⟨⟨_, en⟩, iter, ne, ni, nE⟩ := st
    have ⟨xs, x, hq, at_⟩ := hg
    have ⟨its, rv, tup, _⟩ := I.tuple hq
    have ⟨u, au, ru⟩ := rv.get at_
    have lt : ∀ b ∈ [e, it], b < s.heap.objs.size := fun
      | _, .head _ => Heap.lt_size en
      | _, .tail _ (.head _) => Heap.lt_size iter.choose_spec.1
    have inb : i < its.toArray.size := by
      have := (List.getElem?_eq_some_iff.mp au).1
      rwa [List.size_toArray]
    refine wpAny_pyNext_enum_itemC (Draws.tuple (A := X.A.in1) (I.ok.hd calm) it a ni its.toArray) en ⟨iter, tup⟩ inb ne (by simp [ne, Ne.symm nE]) fun y h' tk hy out st' laid _ kept => ⟨_, rfl, ?_⟩
    obtain rfl : y = u := Option.some.inj ((show its[i]? = some y by simpa using hy).symm.trans au)
    refine wpAny_mono (pair_laid (ch := [e, it]) I (Nat.le_refl _) hf (.head _) lt ru out laid fun b o nb => kept b o (fun z => nb (z ▸ .head _)) fun z => nb (z ▸ .tail _ (.head _))) (fun _ t ⟨J, en', same⟩ => ?_) fun _ _ z => z
    exact ⟨V.ref s.heap.objs.size, _, J, rfl, ⟨_, x, rfl, I.hok.fresh (Nat.le_refl _), rfl, fun ys hy => (I.tuple_inj hy hq) ▸ at_⟩, ⟨⟨y, by rw [Int.natCast_succ]; exact en'⟩, st'.1.at fun o q => (same.2 it (Ne.symm ne)).trans q, ne, ni, nE⟩, fp_none lt fun b hb => (hf b hb).1⟩
  done X hP hw hK calm i pins s σ H E I hf st hg := by
    cases hP; cases hw; cases hK
    have ⟨⟨_, en⟩, iter, _, ni, _⟩ := st
    have ⟨xs, hq, over⟩ := hg
    have ⟨its, rv, tup, _⟩ := I.tuple hq
    have ⟨f0, f1, f2, f3, f4, f5⟩ := hf it (.tail _ (.head _))
    have full : its.toArray.size ≤ i := by rw [List.size_toArray, ← rv.length]; exact over
    exact enum_done (I.ok.hd calm) en iter tup full fun h' ext => ⟨rfl, I.turned (t' := s.toks) (fun b o nb q => ext b o nb q) f0 f1 f3 f4 f5⟩
  self _ _ _ _ _ st h := st.1.elim fun _ en => wpAny_pyIter_enum en h
/-- over a list or a tuple -/
def iEnumA (K : PySem.W.Frag) (ta : TA) : TI := fun σ H R => ta σ H fun vs H1 => ∃ a, vs = [.ref a] ∧ ((∃ xs, SqL K H1 a xs ∧ R (Ite K a) H1) ∨ (∃ xs, SqT K H1 a xs ∧ R (IteT K a) H1))
/-- two objects just laid, both of the iterator -/
theorem two_new {X : Cx} {pins : List (Addr × Obj)} {σ : L2.St} {H : Hp} {s : Shared} (I : L2.Inv X pins σ H s) : ∀ b ∈ [s.heap.objs.size + 1, s.heap.objs.size], FpOk X pins H b
  | _, .head _ => I.fpOk (Nat.le_succ _) (I.hok.fresh (Nat.le_succ _))
  | _, .tail _ (.head _) => I.fpOk (Nat.le_refl _) (I.hok.fresh (Nat.le_refl _))
theorem pi_enumA {X : Cx} {e : Expr} {ta : TA} {p pos tpos : Pos} {elts : List Expr} {kk : Nat} (hg : Gl X "enumerate") (hm : X.mg "enumerate" = none) (ha : PA X [e] ta) (hs : starEach [e] X.env = [(false, eval e X.env)]) :
    PI X (.Tuple elts kk tpos) (.Call (.Name "enumerate" p) [e] [] pos) (iEnumA X.K ta) where
  run pins s σ H R I h := Call_ (ld_blt I hg hm boot_enumerate (PyProof.Rows.callWith_type1 (thn (ha.run pos pins s σ H _ I h) fun us s1 ⟨vs, H1, I1, r1, a, ex, q⟩ => by
    cases ex
    cases r1 with
    | cons r rr =>
      cases rr; cases r
      rcases q with ⟨xs, hq, q⟩ | ⟨xs, hq, q⟩
      · have ⟨its, _, pl, _⟩ := I1.list hq
        exact call_enumerate_list pl.isList fun h' en iter _ k => wpAny_pyIter_enum en ⟨_, _, _, _, H1, rfl, I1.kept (t' := s1.toks) k, turn_enum a _ _, ⟨⟨.none, en⟩, iter, Nat.succ_ne_self _⟩, two_new I1, q⟩
      · have ⟨its, _, tup, _⟩ := I1.tuple hq
        have lt : a < s1.heap.objs.size := tup.elim fun _ z => Heap.lt_size z.1
        exact enum_begins0 (begins_tuple a its.toArray) tup fun h' en iter _ k => wpAny_pyIter_enum en ⟨_, _, _, _, H1, rfl, I1.kept (t' := s1.toks) k, turn_enumT a _ _, ⟨⟨.none, en⟩, ⟨_, iter, rfl, rfl⟩, Nat.succ_ne_self _, Nat.ne_of_lt lt, Nat.ne_of_lt (Nat.lt_succ_of_lt lt)⟩, two_new I1, q⟩) hs rfl))
/-- x in a list or a tuple -/
def iSeq (K : PySem.W.Frag) (tl : TE) : TI := fun σ H R => tl σ H fun x H1 => ∃ a, x = .ref a ∧ ((∃ xs, SqL K H1 a xs ∧ R (Itl K a) H1) ∨ (∃ xs, SqT K H1 a xs ∧ R (Itt K a) H1))
theorem pi_seq {X : Cx} {tg l : Expr} {tl : TE} (hl : PE X l tl) : PI X tg l (iSeq X.K tl) where
  run pins s σ H R I h := thn (hl.run pins s σ H _ I h) fun v s1 ⟨x, H1, I1, r1, a, e, q⟩ => by
    cases e
    cases r1
    cases q with
    | inl q =>
      have ⟨xs, hq, q⟩ := q
      have ⟨its, _, p, _⟩ := I1.list hq
      exact wpAny_pyIter_list p.isList (pi_one I1 _ (turn_list a _) ⟨_, Heap.get?_push_size _ rfl, rfl, rfl⟩ q)
    | inr q =>
      have ⟨xs, hq, q⟩ := q
      have ⟨its, _, p, _⟩ := I1.tuple hq
      exact wpAny_pyIter_tuple (items := its.toArray) p (pi_one I1 _ (turn_tuple a _) ⟨_, Heap.get?_push_size _ rfl, rfl, rfl⟩ q)

/-! ### what a walk over frozen data yields -/
structure ItOk (G : Gd) (J : It) (F : Hp) (ds : List D) : Prop where
  go : ∀ F' H' L i, Same F F' → G.HR F' H' L → i < ds.length → J.go i H'
  yld : ∀ F' H' L i x H'' d, Same F F' → G.HR F' H' L → ds[i]? = some d → J.yld i H' x H'' → ∃ F'', Same F' F'' ∧ G.HR F'' H'' L ∧ Rp G.K F'' x d
  stop : ∀ F' H' L i, Same F F' → G.HR F' H' L → ds.length ≤ i → J.stop i H'
section
variable {G : Gd} {F : Hp} {a b : Addr} {vs ws : List V} {ds es : List D}
theorem itok_lst (h : SqL G.K F a vs) (r : RpA G.K F vs ds) : ItOk G (Itl G.K a) F ds where
  go := fun F' H' L i s hr hi => by
    have hi' : i < vs.length := by rw [r.length]; exact hi
    exact ⟨vs, vs[i], (s.trans hr.sub).seq h, List.getElem?_eq_getElem hi'⟩
  yld := fun F' H' L i x H'' d s hr hd hy => by
    obtain ⟨rfl, hx⟩ := hy
    obtain ⟨v, h1, h2⟩ := r.get hd
    have e := hx vs ((s.trans hr.sub).seq h)
    rw [h1] at e
    cases e
    exact ⟨F', Same.refl _, hr, h2.mono s⟩
  stop := fun F' H' L i s hr hi => ⟨vs, (s.trans hr.sub).seq h, by rw [r.length]; exact hi⟩
theorem itok_tup (h : SqT G.K F a vs) (r : RpA G.K F vs ds) : ItOk G (Itt G.K a) F ds where
  go := fun F' H' L i s hr hi => by
    have hi' : i < vs.length := by rw [r.length]; exact hi
    exact ⟨vs, vs[i], sameT (s.trans hr.sub) h, List.getElem?_eq_getElem hi'⟩
  yld := fun F' H' L i x H'' d s hr hd hy => by
    obtain ⟨rfl, hx⟩ := hy
    obtain ⟨v, h1, h2⟩ := r.get hd
    have e := hx vs (sameT (s.trans hr.sub) h)
    rw [h1] at e
    cases e
    exact ⟨F', Same.refl _, hr, h2.mono s⟩
  stop := fun F' H' L i s hr hi => ⟨vs, sameT (s.trans hr.sub) h, by rw [r.length]; exact hi⟩
theorem itok_rng (lo : Int) (n : Nat) : ItOk G (Itr lo n) F ((List.range n).map fun (i : Nat) => PyData.int (lo + (i : Int))) where
  go := fun F' H' L i s hr hi => by
    rw [List.length_map, List.length_range] at hi
    exact hi
  yld := fun F' H' L i x H'' d s hr hd hy => by
    obtain ⟨rfl, rfl⟩ := hy
    rw [List.getElem?_map] at hd
    cases q : (List.range n)[i]? with
    | none => rw [q] at hd; cases hd
    | some j =>
      rw [q] at hd
      have ej : j = i := by
        have := List.getElem?_eq_some_iff.mp q
        obtain ⟨h, e⟩ := this
        rw [List.getElem_range] at e
        exact e.symm
      subst ej
      cases hd
      exact ⟨F', Same.refl _, hr, .int _⟩
  stop := fun F' H' L i s hr hi => by
    rw [List.length_map, List.length_range] at hi
    exact hi
theorem itok_rngC (lo c : Int) (n : Nat) : ItOk G (Itc lo c n) F ((List.range n).map fun (i : Nat) => PyData.int (lo + (i : Int) * c)) where
  go := fun F' H' L i s hr hi => by
    rw [List.length_map, List.length_range] at hi
    exact hi
  yld := fun F' H' L i x H'' d s hr hd hy => by
    obtain ⟨rfl, rfl⟩ := hy
    rw [List.getElem?_map] at hd
    cases q : (List.range n)[i]? with
    | none => rw [q] at hd; cases hd
    | some j =>
      rw [q] at hd
      have ej : j = i := by
        have := List.getElem?_eq_some_iff.mp q
        obtain ⟨h, e⟩ := this
        rw [List.getElem_range] at e
        exact e.symm
      subst ej
      cases hd
      exact ⟨F', Same.refl _, hr, .int _⟩
  stop := fun F' H' L i s hr hi => by
    rw [List.length_map, List.length_range] at hi
    exact hi
def enumD : Nat → List D → List D
  | _, [] => []
  | k, d :: ds => .tuple [.int (k : Nat), d] :: enumD (k + 1) ds
theorem enumD_len : ∀ (k : Nat) (ds : List D), (enumD k ds).length = ds.length
  | _, [] => rfl
  | k, d :: ds => congrArg (· + 1) (enumD_len (k + 1) ds)
theorem enumD_get : ∀ (k : Nat) (ds : List D) (i : Nat), (enumD k ds)[i]? = (ds[i]?).map fun d => .tuple [.int ((k + i : Nat) : Int), d]
  | _, [], i => by simp [enumD]
  | k, d :: ds, 0 => rfl
  | k, d :: ds, i + 1 => by
    show (enumD (k + 1) ds)[i]? = _
    rw [enumD_get (k + 1) ds i, List.getElem?_cons_succ, show k + 1 + i = k + (i + 1) from by omega]
theorem pair_new {F' H' : Hp} {L : List (Cl × V)} {T : Addr} {x y : V} {d e : D} (hr : G.HR F' H' L) (hT : H' T = none) (h1 : Rp G.K F' x d) (h2 : Rp G.K F' y e) : ∃ F'', Same F' F'' ∧ G.HR F'' (upd H' T (.tup [x, y])) L ∧ Rp G.K F'' (.ref T) (.tuple [d, e]) := by
  obtain ⟨s, q⟩ := hr.newF (o := .tup [x, y]) hT
  exact ⟨_, s, q, .tup (.inl (.inl upd_same)) (.cons (h1.mono s) (.cons (h2.mono s) .nil))⟩
theorem itok_enum (h : SqL G.K F a vs) (r : RpA G.K F vs ds) : ItOk G (Ite G.K a) F (enumD 0 ds) where
  go := fun F' H' L i s hr hi => by
    rw [enumD_len] at hi
    have hi' : i < vs.length := by rw [r.length]; exact hi
    exact ⟨vs, vs[i], (s.trans hr.sub).seq h, List.getElem?_eq_getElem hi'⟩
  yld := fun F' H' L i x H'' d s hr hd hy => by
    obtain ⟨T, y, rfl, hT, rfl, hx⟩ := hy
    rw [enumD_get] at hd
    cases q : ds[i]? with
    | none => rw [q] at hd; cases hd
    | some d' =>
      rw [q] at hd
      cases hd
      obtain ⟨v, h1, h2⟩ := r.get q
      have e := hx vs ((s.trans hr.sub).seq h)
      rw [h1] at e
      cases e
      rw [show 0 + i = i from Nat.zero_add i]
      exact pair_new hr hT (.int _) (h2.mono s)
  stop := fun F' H' L i s hr hi => ⟨vs, (s.trans hr.sub).seq h, by rw [r.length]; rw [enumD_len] at hi; exact hi⟩
theorem itok_enumT (h : SqT G.K F a vs) (r : RpA G.K F vs ds) : ItOk G (IteT G.K a) F (enumD 0 ds) where
  go := fun F' H' L i s hr hi => by
    rw [enumD_len] at hi
    have hi' : i < vs.length := by rw [r.length]; exact hi
    exact ⟨vs, vs[i], sameT (s.trans hr.sub) h, List.getElem?_eq_getElem hi'⟩
  yld := fun F' H' L i x H'' d s hr hd hy => by
    obtain ⟨T, y, rfl, hT, rfl, hx⟩ := hy
    rw [enumD_get] at hd
    cases q : ds[i]? with
    | none => rw [q] at hd; cases hd
    | some d' =>
      rw [q] at hd
      cases hd
      obtain ⟨v, h1, h2⟩ := r.get q
      have e := hx vs (sameT (s.trans hr.sub) h)
      rw [h1] at e
      cases e
      rw [show 0 + i = i from Nat.zero_add i]
      exact pair_new hr hT (.int _) (h2.mono s)
  stop := fun F' H' L i s hr hi => ⟨vs, sameT (s.trans hr.sub) h, by rw [r.length]; rw [enumD_len] at hi; exact hi⟩
def zipD : List D → List D → List D
  | d :: ds, e :: es => .tuple [d, e] :: zipD ds es
  | _, _ => []
theorem zipD_len : ∀ (ds es : List D), (zipD ds es).length = min ds.length es.length
  | [], es => by simp [zipD]
  | _ :: _, [] => by simp [zipD]
  | d :: ds, e :: es => by
    show (zipD ds es).length + 1 = min (ds.length + 1) (es.length + 1)
    rw [zipD_len ds es]; omega
theorem zipD_get : ∀ (ds es : List D) (i : Nat) (p : D), (zipD ds es)[i]? = some p → ∃ d e, ds[i]? = some d ∧ es[i]? = some e ∧ p = .tuple [d, e]
  | [], es, i, p, h => by simp [zipD] at h
  | _ :: _, [], i, p, h => by simp [zipD] at h
  | d :: ds, e :: es, 0, p, h => ⟨d, e, rfl, rfl, (Option.some.inj h).symm⟩
  | d :: ds, e :: es, i + 1, p, h => zipD_get ds es i p h
theorem itok_zip (h : SqL G.K F a vs) (r : RpA G.K F vs ds) (h' : SqL G.K F b ws) (r' : RpA G.K F ws es) : ItOk G (Itz G.K a b) F (zipD ds es) where
  go := fun F' H' L i s hr hi => by
    rw [zipD_len] at hi
    have hi1 : i < vs.length := by rw [r.length]; omega
    have hi2 : i < ws.length := by rw [r'.length]; omega
    exact ⟨vs, ws, vs[i], ws[i], (s.trans hr.sub).seq h, (s.trans hr.sub).seq h', List.getElem?_eq_getElem hi1, List.getElem?_eq_getElem hi2⟩
  yld := fun F' H' L i x H'' d s hr hd hy => by
    obtain ⟨T, y, z, rfl, hT, rfl, hx, hz⟩ := hy
    obtain ⟨d1, d2, q1, q2, rfl⟩ := zipD_get _ _ _ _ hd
    obtain ⟨v, h1, h2⟩ := r.get q1
    obtain ⟨v', h1', h2'⟩ := r'.get q2
    have e := hx vs ((s.trans hr.sub).seq h)
    rw [h1] at e
    cases e
    have e := hz ws ((s.trans hr.sub).seq h')
    rw [h1'] at e
    cases e
    exact pair_new hr hT (h2.mono s) (h2'.mono s)
  stop := fun F' H' L i s hr hi => ⟨vs, ws, (s.trans hr.sub).seq h, (s.trans hr.sub).seq h', by rw [r.length, r'.length]; rw [zipD_len] at hi; omega⟩
theorem itok_zipT (h : SqT G.K F a vs) (r : RpA G.K F vs ds) (h' : SqT G.K F b ws) (r' : RpA G.K F ws es) : ItOk G (RZ.ItzT G.K a b) F (zipD ds es) where
  go := fun F' H' L i s hr hi => by
    rw [zipD_len] at hi
    have hi1 : i < vs.length := by rw [r.length]; omega
    have hi2 : i < ws.length := by rw [r'.length]; omega
    exact ⟨vs, ws, vs[i], ws[i], sameT (s.trans hr.sub) h, sameT (s.trans hr.sub) h', List.getElem?_eq_getElem hi1, List.getElem?_eq_getElem hi2⟩
  yld := fun F' H' L i x H'' d s hr hd hy => by
    obtain ⟨T, y, z, rfl, hT, rfl, hx, hz⟩ := hy
    obtain ⟨d1, d2, q1, q2, rfl⟩ := zipD_get _ _ _ _ hd
    obtain ⟨v, h1, h2⟩ := r.get q1
    obtain ⟨v', h1', h2'⟩ := r'.get q2
    have e := hx vs (sameT (s.trans hr.sub) h)
    rw [h1] at e
    cases e
    have e := hz ws (sameT (s.trans hr.sub) h')
    rw [h1'] at e
    cases e
    exact pair_new hr hT (h2.mono s) (h2'.mono s)
  stop := fun F' H' L i s hr hi => ⟨vs, ws, sameT (s.trans hr.sub) h, sameT (s.trans hr.sub) h', by rw [r.length, r'.length]; rw [zipD_len] at hi; omega⟩
end
/-! ### the walked things -/
def PoI (G : Gd) (W : WX) (F : Hp) (σ : L2.St) (T : List (Cl × V)) (Q : It → Hp → Prop) : Rz (List D) → Prop
  | .ok ds ρ => ∀ F' H' J, Same F F' → G.R F' H' ρ σ T → ItOk G J F' ds → Q J H'
  | .ex x ρ => PoX G W F σ T x ρ
def SndI (G : Gd) (W : WX) (t : TI) (f : Fn (List D)) : Prop :=
  ∀ n ρ r, f n ρ = some r → ∀ F H σ T Q, G.R F H ρ σ T → PoI G W F σ T Q r → t σ H Q
def XI {ι : Type} (G : Gd) (X : ι → Cx) (W : WX) (tg e : Expr) (f : Fn (List D)) : Prop := ∃ t : TI, (∀ i, PI (X i) tg e t) ∧ SndI G W t f
def asSeq (d : D) : Option (List D) := match d with
  | .list ds => some ds
  | .tuple ds => some ds
  | _ => none
section
variable {ι : Type} {G : Gd} {X : ι → Cx} {W : WX} {e tg : Expr} {es : List Expr}
/-- operands as frozen data -/
def fFzs (f : Fn (List Bv)) : Fn (List D) := fun n ρ => bnd (f n ρ) fun bs ρ1 => match fzBs ρ1 bs with
  | some (ds, ρ2) => some (.ok ds ρ2)
  | none => none
def PoFs (G : Gd) (W : WX) (F : Hp) (σ : L2.St) (T : List (Cl × V)) (Q : List V → Hp → Prop) : Rz (List D) → Prop
  | .ok ds ρ => ∀ F' H' vs, Same F F' → G.R F' H' ρ σ T → RpA G.K F' vs ds → Q vs H'
  | .ex x ρ => PoX G W F σ T x ρ
theorem snd_fzs {t : TA} {f : Fn (List Bv)} (h : SndBs G W t f) : ∀ n ρ r, fFzs f n ρ = some r → ∀ F H σ T Q, G.R F H ρ σ T → PoFs G W F σ T Q r → t σ H Q := fun n ρ r e F H σ T Q hR hP => by
  unfold fFzs at e
  cases q : f n ρ with
  | none => rw [q] at e; cases e
  | some r1 =>
    rw [q] at e
    refine h n ρ r1 q F H σ T Q hR ?_
    cases r1 with
    | ex x ρ' => cases e; exact hP
    | ok bs ρ1 =>
      rw [bnd_ok] at e
      cases q2 : fzBs ρ1 bs with
      | none => rw [q2] at e; cases e
      | some p =>
        obtain ⟨ds, ρ2⟩ := p
        rw [q2] at e
        cases e
        intro F1 H1 vs s1 R1 v1
        obtain ⟨F2, s2, R2, r2⟩ := fz_many R1 v1 q2
        exact hP F2 H1 vs (s1.trans s2) R2 r2
def fISeq (f : Fn Bv) : Fn (List D) := fun n ρ => bnd (fFzs (fCons f fNil) n ρ) fun ds ρ1 => match ds with
  | [d] => match asSeq d with
    | some xs => some (.ok xs ρ1)
    | none => none
  | _ => none
theorem snd_iseq {t : TE} {f : Fn Bv} (h : SndB G W t f) : SndI G W (iSeq G.K t) (fISeq f) := fun n ρ r e F H σ T Q hR hP => by
  unfold fISeq at e
  cases q : fFzs (fCons f fNil) n ρ with
  | none => rw [q] at e; cases e
  | some r1 =>
    rw [q] at e
    refine snd_fzs (snd_cons h snd_nil) n ρ r1 q F H σ T (fun vs H1 => match vs with | [x] => ∃ a, x = .ref a ∧ ((∃ xs, SqL G.K H1 a xs ∧ Q (Itl G.K a) H1) ∨ (∃ xs, SqT G.K H1 a xs ∧ Q (Itt G.K a) H1)) | _ => False) hR ?_
    cases r1 with
    | ex x ρ' => cases e; exact hP
    | ok ds ρ1 =>
      rw [bnd_ok] at e
      intro F1 H1 vs s1 R1 v1
      cases v1 with
      | nil => cases e
      | cons hd r =>
        cases r with
        | cons _ _ => cases e
        | nil =>
          dsimp only at e
          cases hd with
          | lst h1 r1 =>
            cases e
            exact ⟨_, rfl, .inl ⟨_, R1.sub.seq h1, hP F1 H1 _ s1 R1 (itok_lst h1 r1)⟩⟩
          | tup h1 r1 =>
            cases e
            exact ⟨_, rfl, .inr ⟨_, sameT R1.sub h1, hP F1 H1 _ s1 R1 (itok_tup h1 r1)⟩⟩
          | _ => cases e
theorem xi_seq {f : Fn Bv} (hK : ∀ i, (X i).K = G.K) (h : XB G X W e f) : XI G X W tg e (fISeq f) := by
  obtain ⟨t, h1, h2⟩ := h
  exact ⟨_, fun i => by have := pi_seq (tg := tg) (h1 i); rw [hK i] at this; exact this, snd_iseq h2⟩
def fIEnum (f : Fn Bv) : Fn (List D) := fun n ρ => bnd (fISeq f n ρ) fun ds ρ1 => some (.ok (enumD 0 ds) ρ1)
theorem snd_ienum {t : TE} {f : Fn Bv} (h : SndB G W t f) : SndI G W (iEnumA G.K (tCons t tNil)) (fIEnum f) := fun n ρ r e F H σ T Q hR hP => by
  unfold fIEnum fISeq at e
  cases q : fFzs (fCons f fNil) n ρ with
  | none => rw [q] at e; cases e
  | some r1 =>
    rw [q] at e
    refine snd_fzs (snd_cons h snd_nil) n ρ r1 q F H σ T _ hR ?_
    cases r1 with
    | ex x ρ' => cases e; exact hP
    | ok ds ρ1 =>
      rw [bnd_ok] at e
      intro F1 H1 vs s1 R1 v1
      cases v1 with
      | nil => cases e
      | cons hd r =>
        cases r with
        | cons _ _ => cases e
        | nil =>
          dsimp only at e
          cases hd with
          | lst h1 r1 =>
            cases e
            exact ⟨_, rfl, .inl ⟨_, R1.sub.seq h1, hP F1 H1 _ s1 R1 (itok_enum h1 r1)⟩⟩
          | tup h1 r1 =>
            cases e
            exact ⟨_, rfl, .inr ⟨_, sameT R1.sub h1, hP F1 H1 _ s1 R1 (itok_enumT h1 r1)⟩⟩
          | _ => cases e
theorem xi_enum {f : Fn Bv} {p pos tpos : Pos} {elts : List Expr} {kk : Nat} (hK : ∀ i, (X i).K = G.K) (hg : ∀ i, Gl (X i) "enumerate") (hm : ∀ i, (X i).mg "enumerate" = none) (h : XB G X W e f) (hs : ∀ i, starEach [e] (X i).env = [(false, eval e (X i).env)]) :
    XI G X W (.Tuple elts kk tpos) (.Call (.Name "enumerate" p) [e] [] pos) (fIEnum f) := by
  obtain ⟨t, h1, h2⟩ := h
  exact ⟨_, fun i => by have := pi_enumA (elts := elts) (kk := kk) (tpos := tpos) (p := p) (pos := pos) (hg i) (hm i) (pa_cons (h1 i) pa_nil (hs i)) (hs i); rw [hK i] at this; exact this, snd_ienum h2⟩
def fIZip (f g : Fn Bv) : Fn (List D) := fun n ρ => bnd (fFzs (fCons f (fCons g fNil)) n ρ) fun ds ρ1 => match ds with
  | [.list xs, .list ys] => some (.ok (zipD xs ys) ρ1)
  | [.tuple xs, .tuple ys] => some (.ok (zipD xs ys) ρ1)
  | _ => none
theorem snd_izip {t u : TE} {f g : Fn Bv} (h : SndB G W t f) (h' : SndB G W u g) : SndI G W (RZ.iZipA G.K (tCons t (tCons u tNil))) (fIZip f g) := fun n ρ r e F H σ T Q hR hP => by
  unfold fIZip at e
  cases q : fFzs (fCons f (fCons g fNil)) n ρ with
  | none => rw [q] at e; cases e
  | some r1 =>
    rw [q] at e
    refine snd_fzs (snd_cons h (snd_cons h' snd_nil)) n ρ r1 q F H σ T _ hR ?_
    cases r1 with
    | ex x ρ' => cases e; exact hP
    | ok ds ρ1 =>
      rw [bnd_ok] at e
      intro F1 H1 vs s1 R1 v1
      split at e
      · cases e
        cases v1 with
        | cons a1 v1 =>
          cases v1 with
          | cons a2 v1 =>
            cases v1
            cases a1 with
            | lst h1 r1 =>
              cases a2 with
              | lst h2 r2 => exact ⟨_, _, _, _, rfl, .inl ⟨R1.sub.seq h1, R1.sub.seq h2, hP F1 H1 _ s1 R1 (itok_zip h1 r1 h2 r2)⟩⟩
      · cases e
        cases v1 with
        | cons a1 v1 =>
          cases v1 with
          | cons a2 v1 =>
            cases v1
            cases a1 with
            | tup h1 r1 =>
              cases a2 with
              | tup h2 r2 => exact ⟨_, _, _, _, rfl, .inr ⟨sameT R1.sub h1, sameT R1.sub h2, hP F1 H1 _ s1 R1 (itok_zipT h1 r1 h2 r2)⟩⟩
      · cases e
theorem xi_zip {e2 : Expr} {f g : Fn Bv} {p pos tpos : Pos} {elts : List Expr} {kk : Nat} (hK : ∀ i, (X i).K = G.K) (hg : ∀ i, Gl (X i) "zip") (hm : ∀ i, (X i).mg "zip" = none) (h : XB G X W e f) (h' : XB G X W e2 g)
    (hs : ∀ i, starEach [e, e2] (X i).env = (false, eval e (X i).env) :: starEach [e2] (X i).env) (hs2 : ∀ i, starEach [e2] (X i).env = (false, eval e2 (X i).env) :: starEach [] (X i).env) (hpl : ∀ i, (backTo pos (starEach [e2] (X i).env)).any (·.1) = false) :
    XI G X W (.Tuple elts kk tpos) (.Call (.Name "zip" p) [e, e2] [] pos) (fIZip f g) := by
  obtain ⟨t, h1, h2⟩ := h
  obtain ⟨t', h1', h2'⟩ := h'
  exact ⟨_, fun i => by have := RZ.pi_zipA (elts := elts) (kk := kk) (tpos := tpos) (p := p) (hg i) (hm i) (pa_cons (h1 i) (pa_cons (h1' i) pa_nil (hs2 i)) (hs i)) (hs i) (hpl i); rw [hK i] at this; exact this, snd_izip h2 h2'⟩
/-- range -/
def smI (i : Int) : Bool := Nat.ble i.natAbs 1000000000
def rngD (lo : Int) (n : Nat) : List D := (List.range n).map fun (i : Nat) => PyData.int (lo + (i : Int))
def rngCD (lo c : Int) (n : Nat) : List D := (List.range n).map fun (i : Nat) => PyData.int (lo + (i : Int) * c)
def fIR1 (f : Fn Bv) : Fn (List D) := fun n ρ => bnd (fFzs (fCons f fNil) n ρ) fun ds ρ1 => match ds with
  | [.int j] => if smI j = true then some (.ok (rngD 0 j.toNat) ρ1) else none
  | _ => none
def fIR2 (f g : Fn Bv) : Fn (List D) := fun n ρ => bnd (fFzs (fCons f (fCons g fNil)) n ρ) fun ds ρ1 => match ds with
  | [.int i, .int j] => if (smI i && smI j) = true then some (.ok (rngD i (j - i).toNat) ρ1) else none
  | _ => none
def fIR3 (f g h : Fn Bv) : Fn (List D) := fun n ρ => bnd (fFzs (fCons f (fCons g (fCons h fNil))) n ρ) fun ds ρ1 => match ds with
  | [.int i, .int j, .int c] => if (smI i && smI j && decide (c = -1)) = true then some (.ok (rngCD i (-1) (i - j).toNat) ρ1) else none
  | _ => none
theorem smI_ok {i : Int} (h : smI i = true) : -(2 ^ 62) ≤ i ∧ i < 2 ^ 62 := by
  have h : i.natAbs ≤ 1000000000 := Nat.le_of_ble_eq_true h
  omega
theorem xi_rng1 {p pos : Pos} {f : Fn Bv} (hg : ∀ i, Gl (X i) "range") (hm : ∀ i, (X i).mg "range" = none) (ha : XB G X W e f) (hs : ∀ i, starEach [e] (X i).env = [(false, eval e (X i).env)]) : XI G X W tg (.Call (.Name "range" p) [e] [] pos) (fIR1 f) := by
  obtain ⟨t, h1, h2⟩ := ha
  refine ⟨_, fun i => pi_range1 (hg i) (hm i) (pa_cons (h1 i) pa_nil (hs i)) (hs i), fun n ρ r e F H σ T Q hR hP => ?_⟩
  unfold fIR1 at e
  cases q : fFzs (fCons f fNil) n ρ with
  | none => rw [q] at e; cases e
  | some r1 =>
    rw [q] at e
    refine snd_fzs (snd_cons h2 snd_nil) n ρ r1 q F H σ T _ hR ?_
    cases r1 with
    | ex x ρ' => cases e; exact hP
    | ok ds ρ1 =>
      rw [bnd_ok] at e
      intro F1 H1 vs s1 R1 v1
      split at e
      · split at e
        · rename_i hj
          cases e
          obtain ⟨q1, q2⟩ := smI_ok hj
          cases v1 with
          | cons a1 v1 =>
            cases v1
            cases a1
            exact ⟨_, rfl, q1, q2, hP F1 H1 _ s1 R1 (itok_rng 0 _)⟩
        · cases e
      · cases e
theorem xi_rng2 {e2 : Expr} {p pos : Pos} {f g : Fn Bv} (hg : ∀ i, Gl (X i) "range") (hm : ∀ i, (X i).mg "range" = none) (ha : XB G X W e f) (hb : XB G X W e2 g) (hs : ∀ i, starEach [e, e2] (X i).env = [(false, eval e (X i).env), (false, eval e2 (X i).env)]) (hs2 : ∀ i, starEach [e2] (X i).env = [(false, eval e2 (X i).env)]) :
    XI G X W tg (.Call (.Name "range" p) [e, e2] [] pos) (fIR2 f g) := by
  obtain ⟨t, h1, h2⟩ := ha
  obtain ⟨t', h1', h2'⟩ := hb
  refine ⟨_, fun i => pi_range2 (hg i) (hm i) (pa_cons (h1 i) (pa_cons (h1' i) pa_nil (hs2 i)) (by rw [hs i, hs2 i])) (hs i) (hs2 i), fun n ρ r e F H σ T Q hR hP => ?_⟩
  unfold fIR2 at e
  cases q : fFzs (fCons f (fCons g fNil)) n ρ with
  | none => rw [q] at e; cases e
  | some r1 =>
    rw [q] at e
    refine snd_fzs (snd_cons h2 (snd_cons h2' snd_nil)) n ρ r1 q F H σ T _ hR ?_
    cases r1 with
    | ex x ρ' => cases e; exact hP
    | ok ds ρ1 =>
      rw [bnd_ok] at e
      intro F1 H1 vs s1 R1 v1
      split at e
      · split at e
        · rename_i hj
          cases e
          rw [Bool.and_eq_true] at hj
          obtain ⟨q1, q2⟩ := smI_ok hj.1
          obtain ⟨q3, q4⟩ := smI_ok hj.2
          cases v1 with
          | cons a1 v1 =>
            cases v1 with
            | cons a2 v1 =>
              cases v1
              cases a1
              cases a2
              exact ⟨_, _, rfl, ⟨q1, q2, q3, q4⟩, hP F1 H1 _ s1 R1 (itok_rng _ _)⟩
        · cases e
      · cases e
theorem xi_rng3 {e2 e3 : Expr} {p pos : Pos} {f g h : Fn Bv} (hg : ∀ i, Gl (X i) "range") (hm : ∀ i, (X i).mg "range" = none) (ha : XB G X W e f) (hb : XB G X W e2 g) (hc : XB G X W e3 h) (hs : ∀ i, starEach [e, e2, e3] (X i).env = [(false, eval e (X i).env), (false, eval e2 (X i).env), (false, eval e3 (X i).env)])
    (hs2 : ∀ i, starEach [e2, e3] (X i).env = [(false, eval e2 (X i).env), (false, eval e3 (X i).env)]) (hs3 : ∀ i, starEach [e3] (X i).env = [(false, eval e3 (X i).env)])
    (hx : ∀ i, ∀ ta : TA, PA (X i) [e, e2, e3] ta → PI (X i) tg (.Call (.Name "range" p) [e, e2, e3] [] pos) (iRng3 ta)) :
    XI G X W tg (.Call (.Name "range" p) [e, e2, e3] [] pos) (fIR3 f g h) := by
  obtain ⟨t, h1, h2⟩ := ha
  obtain ⟨t', h1', h2'⟩ := hb
  obtain ⟨t'', h1'', h2''⟩ := hc
  refine ⟨_, fun i => hx i _ (pa_cons (h1 i) (pa_cons (h1' i) (pa_cons (h1'' i) pa_nil (hs3 i)) (by rw [hs2 i, hs3 i])) (by rw [hs i, hs2 i])), fun n ρ r e F H σ T Q hR hP => ?_⟩
  unfold fIR3 at e
  cases q : fFzs (fCons f (fCons g (fCons h fNil))) n ρ with
  | none => rw [q] at e; cases e
  | some r1 =>
    rw [q] at e
    refine snd_fzs (snd_cons h2 (snd_cons h2' (snd_cons h2'' snd_nil))) n ρ r1 q F H σ T _ hR ?_
    cases r1 with
    | ex x ρ' => cases e; exact hP
    | ok ds ρ1 =>
      rw [bnd_ok] at e
      intro F1 H1 vs s1 R1 v1
      split at e
      · split at e
        · rename_i hj
          cases e
          rw [Bool.and_eq_true, Bool.and_eq_true] at hj
          obtain ⟨q1, q2⟩ := smI_ok hj.1.1
          obtain ⟨q3, q4⟩ := smI_ok hj.1.2
          have ec := of_decide_eq_true hj.2
          subst ec
          cases v1 with
          | cons a1 v1 =>
            cases v1 with
            | cons a2 v1 =>
              cases v1 with
              | cons a3 v1 =>
                cases v1
                cases a1
                cases a2
                cases a3
                exact ⟨_, _, _, _, rfl, RgC.neg q1 q2 q3 q4, hP F1 H1 _ s1 R1 (itok_rngC _ _ _)⟩
        · cases e
      · cases e
end
end L3

namespace L3
open PySem PySem.Spec L2

inductive Ot where
  | nx (ρ : En)
  | rt (c : Cl) (ρ : En)
  | bk (ρ : En)
  | ct (ρ : En)
  | ex (x : Ex) (ρ : En)
abbrev FS := Nat → En → Option Ot
def bS {α : Type} (x : Option (Rz α)) (k : α → En → Option Ot) : Option Ot :=
  match x with
  | some (.ok a ρ) => k a ρ
  | some (.ex x ρ) => some (.ex x ρ)
  | none => none
@[simp] theorem bS_ok {α : Type} (a : α) (ρ : En) (k : α → En → Option Ot) : bS (some (.ok a ρ)) k = k a ρ := rfl
@[simp] theorem bS_ex {α : Type} (x : Ex) (ρ : En) (k : α → En → Option Ot) : bS (some (.ex x ρ)) k = some (.ex x ρ) := rfl
@[simp] theorem bS_none {α : Type} (k : α → En → Option Ot) : bS none k = none := rfl

def Kp (P : List Nat) (σ σ' : L2.St) : Prop := ∀ i ∈ P, σ'[i]? = σ[i]?
theorem Kp.refl {P : List Nat} (σ : L2.St) : Kp P σ σ := fun _ _ => rfl
theorem Kp.trans {P : List Nat} {a b c : L2.St} (h : Kp P a b) (k : Kp P b c) : Kp P a c := fun i hi => (k i hi).trans (h i hi)
theorem Kp.set {P : List Nat} {σ : L2.St} {i : Nat} {o : Option V} (h : i ∉ P) : Kp P σ (σ.set i o) := fun j hj => by
  rw [List.getElem?_set_ne]
  intro z
  subst z
  exact h hj

def PoS (G : Gd) (W : WX) (P : List Nat) (F : Hp) (σ : L2.St) (T : List (Cl × V)) (D : Ends) : Ot → Prop
  | .nx ρ => ∀ F' H' σ', Same F F' → G.R F' H' ρ σ' T → Kp P σ σ' → D.nx σ' H'
  | .rt c ρ => ∀ F' H' σ' v, Same F F' → G.R F' H' ρ σ' ((c, v) :: T) → Kp P σ σ' → D.rt v H'
  | .bk ρ => ∀ F' H' σ', Same F F' → G.R F' H' ρ σ' T → Kp P σ σ' → D.bk σ' H'
  | .ct ρ => ∀ F' H' σ', Same F F' → G.R F' H' ρ σ' T → Kp P σ σ' → D.ct σ' H'
  | .ex x ρ => ∀ F' H' σ' cls d, Same F F' → G.R F' H' ρ σ' T → Kp P σ σ' → XR G F' x cls d → W cls d σ' H'
def SndS (G : Gd) (W : WX) (P : List Nat) (t : TS) (f : FS) : Prop :=
  ∀ n ρ o, f n ρ = some o → ∀ F H σ T D, G.R F H ρ σ T → PoS G W P F σ T D o → t D σ H
section
variable {ι : Type}
def XS (G : Gd) (X : ι → Cx) (W : WX) (P : List Nat) (st : Stmt) (f : FS) : Prop := ∃ t : TS, (∀ i, PS (X i) st t) ∧ SndS G W P t f
def XSs (G : Gd) (X : ι → Cx) (W : WX) (P : List Nat) (st : List Stmt) (f : FS) : Prop := ∃ t : TS, (∀ i, PSs (X i) st t) ∧ SndS G W P t f
end
theorem PoS.mono {G : Gd} {W : WX} {P : List Nat} {F F1 : Hp} {σ σ1 : L2.St} {T : List (Cl × V)} {D : Ends} {o : Ot} (h : PoS G W P F σ T D o) (s : Same F F1) (k : Kp P σ σ1) : PoS G W P F1 σ1 T D o := by
  cases o with
  | nx ρ => exact fun F' H' σ' s' r k' => h F' H' σ' (s.trans s') r (k.trans k')
  | rt c ρ => exact fun F' H' σ' v s' r k' => h F' H' σ' v (s.trans s') r (k.trans k')
  | bk ρ => exact fun F' H' σ' s' r k' => h F' H' σ' (s.trans s') r (k.trans k')
  | ct ρ => exact fun F' H' σ' s' r k' => h F' H' σ' (s.trans s') r (k.trans k')
  | ex x ρ => exact fun F' H' σ' cls d s' r k' q => h F' H' σ' cls d (s.trans s') r (k.trans k') q
theorem PoS.px {G : Gd} {W : WX} {P : List Nat} {F : Hp} {σ : L2.St} {T : List (Cl × V)} {D : Ends} {x : Ex} {ρ : En} (h : PoS G W P F σ T D (.ex x ρ)) : PoX G W F σ T x ρ :=
  fun F' H' cls d s r q => h F' H' σ cls d s r (Kp.refl _) q

section
variable {ι : Type} {G : Gd} {X : ι → Cx} {W : WX} {P : List Nat} {e : Expr} {st : Stmt} {rest : List Stmt} {pos : Pos}
def sNil : FS := fun _ ρ => some (.nx ρ)
def sSeq (f g : FS) : FS := fun n ρ => match f n ρ with
  | some (.nx ρ1) => g n ρ1
  | o => o
theorem xss_nil : XSs G X W P [] sNil := ⟨_, fun _ => pss_nil, fun n ρ o e F H σ T D hR hP => by
  cases e
  exact hP F H σ (Same.refl _) hR (Kp.refl _)⟩
theorem xss_cons {f g : FS} (h1 : XS G X W P st f) (h2 : XSs G X W P rest g) : XSs G X W P (st :: rest) (sSeq f g) := by
  obtain ⟨t, a1, a2⟩ := h1
  obtain ⟨u, b1, b2⟩ := h2
  refine ⟨_, fun i => pss_cons (a1 i) (b1 i), fun n ρ o e F H σ T D hR hP => ?_⟩
  unfold sSeq at e
  cases q : f n ρ with
  | none => rw [q] at e; cases e
  | some o1 =>
    rw [q] at e
    refine a2 n ρ o1 q F H σ T _ hR ?_
    cases o1 with
    | nx ρ1 => exact fun F1 H1 σ1 s1 R1 k1 => b2 n ρ1 o e F1 H1 σ1 T D R1 (hP.mono s1 k1)
    | rt c ρ1 => cases e; exact hP
    | bk ρ1 => cases e; exact hP
    | ct ρ1 => cases e; exact hP
    | ex x ρ1 => cases e; exact hP
theorem xss_one {f : FS} (h1 : XS G X W P st f) : XSs G X W P [st] f := by
  obtain ⟨t, a1, a2⟩ := h1
  exact ⟨_, fun i => pss_one (a1 i), a2⟩
def sPass : FS := sNil
theorem xs_pass : XS G X W P (.Pass pos) sNil := ⟨_, fun _ => ps_pass, fun n ρ o e F H σ T D hR hP => by
  cases e
  exact hP F H σ (Same.refl _) hR (Kp.refl _)⟩
theorem xs_break : XS G X W P (.Break pos) (fun _ ρ => some (.bk ρ)) := ⟨_, fun _ => ps_break, fun n ρ o e F H σ T D hR hP => by
  cases e
  exact hP F H σ (Same.refl _) hR (Kp.refl _)⟩
theorem xs_continue : XS G X W P (.Continue pos) (fun _ ρ => some (.ct ρ)) := ⟨_, fun _ => ps_continue, fun n ρ o e F H σ T D hR hP => by
  cases e
  exact hP F H σ (Same.refl _) hR (Kp.refl _)⟩
def sExpr (f : Fn Bv) : FS := fun n ρ => bS (f n ρ) fun _ ρ1 => some (.nx ρ1)
theorem xs_expr {f : Fn Bv} (h : XB G X W e f) (hs : ∀ i, swapsWith e none pos.line (X i).env = pure false) : XS G X W P (.Expr e pos) (sExpr f) := by
  obtain ⟨t, h1, h2⟩ := h
  refine ⟨_, fun i => ps_expr (h1 i) (hs i), fun n ρ o e F H σ T D hR hP => ?_⟩
  unfold sExpr at e
  cases q : f n ρ with
  | none => rw [q] at e; cases e
  | some r1 =>
    rw [q] at e
    refine h2 n ρ r1 q F H σ T _ hR ?_
    cases r1 with
    | ex x ρ' => cases e; exact hP.px
    | ok b ρ1 =>
      cases e
      exact fun F1 H1 v s1 R1 v1 => hP F1 H1 σ s1 (bvT_drop b v R1) (Kp.refl _)
def sRet (f : Fn Cl) : FS := fun n ρ => bS (f n ρ) fun c ρ1 => some (.rt c ρ1)
theorem xs_ret {f : Fn Cl} (h : XE G X W e f) : XS G X W P (.Return (some e) pos) (sRet f) := by
  obtain ⟨t, h1, h2⟩ := h
  refine ⟨_, fun i => ps_ret (h1 i), fun n ρ o e F H σ T D hR hP => ?_⟩
  unfold sRet at e
  cases q : f n ρ with
  | none => rw [q] at e; cases e
  | some r1 =>
    rw [q] at e
    refine h2 n ρ r1 q F H σ T _ hR ?_
    cases r1 with
    | ex x ρ' => cases e; exact hP.px
    | ok b ρ1 =>
      cases e
      exact fun F1 H1 v s1 R1 => hP F1 H1 σ v s1 R1 (Kp.refl _)
theorem xs_retN : XS G X W P (.Return none pos) (fun _ ρ => some (.rt (.fz .none) ρ)) := ⟨_, fun _ => ps_retN, fun n ρ o e F H σ T D hR hP => by
  cases e
  exact hP F H σ .non (Same.refl _) (hR.push .non) (Kp.refl _)⟩
def sIf (t : Fn Bool) (f g : FS) : FS := fun n ρ => bS (t n ρ) fun c ρ1 => if c = true then f n ρ1 else g n ρ1
theorem xs_if {c : Expr} {a b : List Stmt} {t : Fn Bool} {f g : FS} (hc : XT G X W c t) (ha : XSs G X W P a f) (hb : XSs G X W P b g) : XS G X W P (.If c a b pos) (sIf t f g) := by
  obtain ⟨t', h1, h2⟩ := hc
  obtain ⟨ta, h3, h4⟩ := ha
  obtain ⟨tb, h5, h6⟩ := hb
  refine ⟨_, fun i => ps_if (h1 i) (h3 i) (h5 i), fun n ρ o e F H σ T D hR hP => ?_⟩
  unfold sIf at e
  cases q : t n ρ with
  | none => rw [q] at e; cases e
  | some r1 =>
    rw [q] at e
    refine h2 n ρ r1 q F H σ T _ hR ?_
    cases r1 with
    | ex x ρ' => cases e; exact hP.px
    | ok b ρ1 =>
      rw [bS_ok] at e
      intro F1 H1 s1 R1
      cases b with
      | true =>
        rw [if_pos rfl] at e
        show if true = true then _ else _
        rw [if_pos rfl]
        exact h4 n ρ1 o e F1 H1 σ T D R1 (hP.mono s1 (Kp.refl _))
      | false =>
        rw [if_neg Bool.false_ne_true] at e
        show if false = true then _ else _
        rw [if_neg Bool.false_ne_true]
        exact h6 n ρ1 o e F1 H1 σ T D R1 (hP.mono s1 (Kp.refl _))

/-! ### stores -/
def sSet (i : Nat) (f : Fn Cl) : FS := fun n ρ => bS (f n ρ) fun c ρ1 => if i < ρ1.length then some (.nx (ρ1.set i (some c))) else none
theorem snd_set {i : Nat} {t : TE} {f : Fn Cl} (hi : i ∉ P) (h : SndE G W t f) : SndS G W P (tAsg t (gName i)) (sSet i f) := fun n ρ o e F H σ T D hR hP => by
  unfold sSet at e
  cases q : f n ρ with
  | none => rw [q] at e; cases e
  | some r1 =>
    rw [q] at e
    refine h n ρ r1 q F H σ T _ hR ?_
    cases r1 with
    | ex x ρ' => cases e; exact hP.px
    | ok b ρ1 =>
      rw [bS_ok] at e
      split at e
      · rename_i hl
        cases e
        exact fun F1 H1 v s1 R1 => hP F1 H1 _ s1 (R1.set hl) (Kp.set hi)
      · cases e
theorem xs_set {i : Nat} {x : Str} {pos' : Pos} {f : Fn Cl} (hi : i ∉ P) (hp : ∀ t, (∀ j, PE (X j) e t) → ∀ j, PS (X j) (.Assign [.Name x pos'] e pos) (tAsg t (gName i))) (h : XE G X W e f) : XS G X W P (.Assign [.Name x pos'] e pos) (sSet i f) := by
  obtain ⟨t, h1, h2⟩ := h
  exact ⟨_, hp t h1, snd_set hi h2⟩
/-- a, b = e1, e2 into plain local names -/
def sPar (i j : Nat) (f g : Fn Cl) : FS := fun n ρ => bS (f n ρ) fun c ρ1 => bS (g n ρ1) fun d ρ2 => if i < ρ2.length ∧ j < ρ2.length then some (.nx ((ρ2.set i (some c)).set j (some d))) else none
theorem xs_par {i j : Nat} {a b : Expr} {f g : Fn Cl} {st : Stmt} (hi : i ∉ P) (hj : j ∉ P) (hp : ∀ t u, (∀ j, PE (X j) a t) → (∀ j, PE (X j) b u) → ∀ k, PS (X k) st (tPar i j (tCons t (tCons u tNil)))) (h : XE G X W a f) (h' : XE G X W b g) : XS G X W P st (sPar i j f g) := by
  obtain ⟨t, h1, h2⟩ := h
  obtain ⟨u, h3, h4⟩ := h'
  refine ⟨_, hp t u h1 h3, fun n ρ o e F H σ T D hR hP => ?_⟩
  unfold sPar at e
  cases q : f n ρ with
  | none => rw [q] at e; cases e
  | some r1 =>
    rw [q] at e
    refine h2 n ρ r1 q F H σ T _ hR ?_
    cases r1 with
    | ex x ρ' => cases e; exact hP.px
    | ok c ρ1 =>
      rw [bS_ok] at e
      intro F1 H1 v s1 R1
      cases q2 : g n ρ1 with
      | none => rw [q2] at e; cases e
      | some r2 =>
        rw [q2] at e
        refine h4 n ρ1 r2 q2 F1 H1 σ _ _ R1 ?_
        cases r2 with
        | ex x ρ' =>
          cases e
          exact fun F' H' cls d s r q => hP.px F' H' cls d (s1.trans s) r.tail q
        | ok d ρ2 =>
          rw [bS_ok] at e
          intro F2 H2 w s2 R2
          split at e
          · rename_i hl
            cases e
            refine ⟨v, w, rfl, hP F2 H2 _ (s1.trans s2) ?_ ((Kp.set hi).trans (Kp.set hj))⟩
            have R3 := R2.swap.set (i := i) hl.1
            exact R3.set (by rw [List.length_set]; exact hl.2)
          · cases e

/-! ### targets -/
abbrev FG := D → En → Option En
abbrev FGs := List D → En → Option En
def SndG (G : Gd) (P : List Nat) (t : TG) (f : FG) : Prop :=
  ∀ d ρ ρ', f d ρ = some ρ' → ∀ F H σ T v Q, G.R F H ρ σ T → Rp G.K F v d → (∀ σ', G.R F H ρ' σ' T → Kp P σ σ' → Q σ' H) → t v σ H Q
def SndGs (G : Gd) (P : List Nat) (t : TGs) (f : FGs) : Prop :=
  ∀ ds ρ ρ', f ds ρ = some ρ' → ∀ F H σ T vs Q, G.R F H ρ σ T → RpA G.K F vs ds → (∀ σ', G.R F H ρ' σ' T → Kp P σ σ' → Q σ' H) → t vs σ H Q
def XG (G : Gd) (X : ι → Cx) (P : List Nat) (tg : Expr) (f : FG) : Prop := ∃ t : TG, (∀ i, PG (X i) tg t) ∧ SndG G P t f
def XGs (G : Gd) (X : ι → Cx) (P : List Nat) (tg : List Expr) (f : FGs) : Prop := ∃ t : TGs, (∀ i, PGs (X i) tg t) ∧ SndGs G P t f
def gN (i : Nat) : FG := fun d ρ => if i < ρ.length then some (ρ.set i (some (.fz d))) else none
theorem snd_gn {i : Nat} (hi : i ∉ P) : SndG G P (gName i) (gN i) := fun d ρ ρ' e F H σ T v Q hR r hQ => by
  unfold gN at e
  split at e
  · rename_i hl
    cases e
    exact hQ _ ((hR.push r).set hl) (Kp.set hi)
  · cases e
theorem xg_name {i : Nat} {x : Str} (hi : i ∉ P) (h : ∀ j, PG (X j) (.Name x pos) (gName i)) : XG G X P (.Name x pos) (gN i) := ⟨_, h, snd_gn hi⟩
def gsNil : FGs := fun ds ρ => match ds with
  | [] => some ρ
  | _ => none
def gsCons (f : FG) (g : FGs) : FGs := fun ds ρ => match ds with
  | d :: ds => match f d ρ with
    | some ρ1 => g ds ρ1
    | none => none
  | [] => none
theorem snd_gsnil : SndGs G P gNil gsNil := fun ds ρ ρ' e F H σ T vs Q hR r hQ => by
  cases r with
  | nil => cases e; exact ⟨rfl, hQ σ hR (Kp.refl _)⟩
  | cons _ _ => cases e
theorem snd_gscons {t : TG} {u : TGs} {f : FG} {g : FGs} (h : SndG G P t f) (h' : SndGs G P u g) : SndGs G P (gCons t u) (gsCons f g) := fun ds ρ ρ' e F H σ T vs Q hR r hQ => by
  cases r with
  | nil => cases e
  | cons r1 r2 =>
    unfold gsCons at e
    dsimp only at e
    rename_i v vs' d ds'
    cases q : f d ρ with
    | none => rw [q] at e; cases e
    | some ρ1 =>
      rw [q] at e
      refine ⟨v, vs', rfl, h d ρ ρ1 q F H σ T v _ hR r1 fun σ1 R1 k1 => ?_⟩
      exact h' ds' ρ1 ρ' e F H σ1 T vs' Q R1 r2 fun σ2 R2 k2 => hQ σ2 R2 (k1.trans k2)
theorem xgs_nil : XGs G X P [] gsNil := ⟨_, fun _ => pgs_nil, snd_gsnil⟩
theorem xgs_cons {e : Expr} {es : List Expr} {f : FG} {g : FGs} (h : XG G X P e f) (h' : XGs G X P es g) (hs : ∀ i, (assignEach (e :: es) (X i).env).map (·.2) = assign e (X i).env :: (assignEach es (X i).env).map (·.2)) : XGs G X P (e :: es) (gsCons f g) := by
  obtain ⟨t, h1, h2⟩ := h
  obtain ⟨u, h3, h4⟩ := h'
  exact ⟨_, fun i => pgs_cons (h1 i) (h3 i) (hs i), snd_gscons h2 h4⟩
/-- (a, b, ..): the value a tuple -/
def gTp (n : Nat) (f : FGs) : FG := fun d ρ => match d with
  | .tuple ds => if ds.length = n then f ds ρ else none
  | _ => none
def gLs (n : Nat) (f : FGs) : FG := fun d ρ => match d with
  | .list ds => if ds.length = n then f ds ρ else none
  | _ => none
theorem snd_gtp {n : Nat} {t : TGs} {f : FGs} (h : SndGs G P t f) : SndG G P (gTup G.K n t) (gTp n f) := fun d ρ ρ' e F H σ T v Q hR r hQ => by
  unfold gTp at e
  split at e
  · split at e
    · rename_i hl
      cases r with
      | tup h1 r1 => exact ⟨_, _, rfl, sameT hR.sub h1, by rw [r1.length]; exact hl, h _ ρ ρ' e F H σ T _ Q hR r1 hQ⟩
    · cases e
  · cases e
theorem snd_gls {n : Nat} {t : TGs} {f : FGs} (h : SndGs G P t f) : SndG G P (gLst G.K n t) (gLs n f) := fun d ρ ρ' e F H σ T v Q hR r hQ => by
  unfold gLs at e
  split at e
  · split at e
    · rename_i hl
      cases r with
      | lst h1 r1 => exact ⟨_, _, rfl, hR.sub.seq h1, by rw [r1.length]; exact hl, h _ ρ ρ' e F H σ T _ Q hR r1 hQ⟩
    · cases e
  · cases e
theorem xg_tup {es : List Expr} {k n : Nat} {f : FGs} (hK : ∀ i, (X i).K = G.K) (hc : ∀ i, (X i).calm = true) (h : XGs G X P es f) (hn : ∀ i, (assignEach es (X i).env).length = n) (hst : ∀ i, (assignEach es (X i).env).findIdx? (·.1) = none) : XG G X P (.Tuple es k pos) (gTp n f) := by
  obtain ⟨t, h1, h2⟩ := h
  exact ⟨_, fun i => by have := pg_tup (k := k) (pos := pos) (hc i) (h1 i) (hn i) (hst i); rw [hK i] at this; exact this, snd_gtp h2⟩
theorem xg_lst {es : List Expr} {k n : Nat} {f : FGs} (hK : ∀ i, (X i).K = G.K) (hc : ∀ i, (X i).calm = true) (h : XGs G X P es f) (hn : ∀ i, (assignEach es (X i).env).length = n) (hst : ∀ i, (assignEach es (X i).env).findIdx? (·.1) = none) : XG G X P (.Tuple es k pos) (gLs n f) := by
  obtain ⟨t, h1, h2⟩ := h
  exact ⟨_, fun i => by have := pg_lst (k := k) (pos := pos) (hc i) (h1 i) (hn i) (hst i); rw [hK i] at this; exact this, snd_gls h2⟩
/-- target = value, by targets -/
def sAsg (g : FG) (f : Fn Bv) : FS := fun n ρ => bS (fFz f n ρ) fun c ρ1 => match c with
  | .fz d => match g d ρ1 with
    | some ρ2 => some (.nx ρ2)
    | none => none
  | _ => none
theorem xs_asg {tg : Expr} {f : Fn Bv} {g : FG} (h : XB G X W e f) (hg : XG G X P tg g) (hs : ∀ i, swapsWithSole [tg] e pos.line (X i).env = pure false) (hw : ∀ i, swappedStores [tg] e (X i).env = pure none)
    (h1 : ∀ i, (assignEach [tg] (X i).env).map (·.2) = [assign tg (X i).env]) : XS G X W P (.Assign [tg] e pos) (sAsg g f) := by
  obtain ⟨t, a1, a2⟩ := h
  obtain ⟨u, b1, b2⟩ := hg
  refine ⟨_, fun i => ps_asg (a1 i) (b1 i) (hs i) (hw i) (h1 i), fun n ρ o e F H σ T D hR hP => ?_⟩
  unfold sAsg at e
  cases q : fFz f n ρ with
  | none => rw [q] at e; cases e
  | some r1 =>
    rw [q] at e
    refine snd_fz a2 n ρ r1 q F H σ T _ hR ?_
    cases r1 with
    | ex x ρ' => cases e; exact hP.px
    | ok c ρ1 =>
      rw [bS_ok] at e
      intro F1 H1 v s1 R1
      split at e
      · rename_i d
        cases q2 : g d ρ1 with
        | none => rw [q2] at e; cases e
        | some ρ2 =>
          rw [q2] at e
          cases e
          exact b2 d ρ1 ρ2 q2 F1 H1 σ T v _ R1.tail R1.rp fun σ' R2 k => hP F1 H1 σ' s1 R2 k
      · cases e

/-! ### for -/
def forF (g : FG) (f : FS) (n : Nat) : List D → En → Option Ot
  | [], ρ => some (.nx ρ)
  | d :: ds, ρ => match g d ρ with
    | some ρ1 => match f n ρ1 with
      | some (.nx ρ2) => forF g f n ds ρ2
      | some (.ct ρ2) => forF g f n ds ρ2
      | some (.bk ρ2) => some (.nx ρ2)
      | some (.rt c ρ2) => some (.rt c ρ2)
      | some (.ex x ρ2) => some (.ex x ρ2)
      | none => none
    | none => none
def sFor (i : Fn (List D)) (g : FG) (f : FS) : FS := fun n ρ => bS (i n ρ) fun ds ρ1 => forF g f n ds ρ1
theorem snd_for {wi : TI} {tg : TG} {tb : TS} {i : Fn (List D)} {g : FG} {f : FS} (hi : SndI G W wi i) (hg : SndG G P tg g) (hb : SndS G W P tb f) : SndS G W P (tFor wi tg tb) (sFor i g f) := fun n ρ o e F H σ T D hR hP => by
  unfold sFor at e
  cases q : i n ρ with
  | none => rw [q] at e; cases e
  | some r1 =>
    rw [q] at e
    refine hi n ρ r1 q F H σ T _ hR ?_
    cases r1 with
    | ex x ρ' => cases e; exact hP.px
    | ok ds ρ1 =>
      rw [bS_ok] at e
      intro F1 H1 J s1 R1 ok
      have hP1 := hP.mono s1 (Kp.refl σ)
      refine ⟨fun k m σ' H' => ∃ ρ' F', m = ds.length - k ∧ k ≤ ds.length ∧ Same F1 F' ∧ G.R F' H' ρ' σ' T ∧ Kp P σ σ' ∧ forF g f n (ds.drop k) ρ' = some o, ⟨ds.length, ρ1, F1, by simp, Nat.zero_le _, Same.refl _, R1, Kp.refl _, by rw [List.drop_zero]; exact e⟩, ?_⟩
      rintro k m σ' H' ⟨ρ', F', rfl, hk, s', R', kp, eo⟩
      by_cases hlt : k < ds.length
      · rw [List.drop_eq_getElem_cons hlt] at eo
        unfold forF at eo
        cases q1 : g ds[k] ρ' with
        | none => rw [q1] at eo; cases eo
        | some ρ2 =>
          rw [q1] at eo
          dsimp only at eo
          refine .inr ⟨ok.go F' H' _ k s' R'.hr hlt, fun σ3 H3 => ∃ ρ3 F3, Same F1 F3 ∧ G.R F3 H3 ρ3 σ3 T ∧ Kp P σ σ3 ∧ forF g f n (ds.drop (k + 1)) ρ3 = some o, ?_, ?_⟩
          · rintro σ3 H3 ⟨ρ3, F3, s3, R3, k3, e3⟩
            exact ⟨ds.length - (k + 1), by omega, ρ3, F3, rfl, hlt, s3, R3, k3, e3⟩
          · intro x H2 hy
            obtain ⟨F2, s2, hr2, rx⟩ := ok.yld F' H' _ k x H2 ds[k] s' R'.hr (List.getElem?_eq_getElem hlt) hy
            refine hg ds[k] ρ' ρ2 q1 F2 H2 σ' T x _ ⟨hr2, R'.ok⟩ rx fun σ4 R4 k4 => ?_
            cases q2 : f n ρ2 with
            | none => rw [q2] at eo; cases eo
            | some o2 =>
              rw [q2] at eo
              refine hb n ρ2 o2 q2 F2 H2 σ4 T _ R4 ?_
              have s02 := s'.trans s2
              have k04 := kp.trans k4
              cases o2 with
              | nx ρ5 => exact fun F5 H5 σ5 s5 R5 k5 => ⟨ρ5, F5, s02.trans s5, R5, k04.trans k5, eo⟩
              | ct ρ5 => exact fun F5 H5 σ5 s5 R5 k5 => ⟨ρ5, F5, s02.trans s5, R5, k04.trans k5, eo⟩
              | bk ρ5 =>
                cases eo
                exact fun F5 H5 σ5 s5 R5 k5 => hP1 F5 H5 σ5 (s02.trans s5) R5 (k04.trans k5)
              | rt c ρ5 =>
                cases eo
                exact fun F5 H5 σ5 v s5 R5 k5 => hP1 F5 H5 σ5 v (s02.trans s5) R5 (k04.trans k5)
              | ex x ρ5 =>
                cases eo
                exact fun F5 H5 σ5 cls d s5 R5 k5 xr => hP1 F5 H5 σ5 cls d (s02.trans s5) R5 (k04.trans k5) xr
      · have ek : k = ds.length := by omega
        subst ek
        rw [List.drop_length] at eo
        cases eo
        exact .inl ⟨ok.stop F' H' _ _ s' R'.hr (Nat.le_refl _), hP1 F' H' σ' s' R' kp⟩
theorem xs_for {tg iter : Expr} {body : List Stmt} {i : Fn (List D)} {g : FG} {f : FS} (hp : ∀ j, PassesOwn (model (X j).prog (X j).w) (X j).A (X j).env (X j).xe) (hc : ∀ j, (X j).calm = true) (hi : XI G X W tg iter i) (hg : XG G X P tg g) (hb : XSs G X W P body f)
    (hs : ∀ j, ∀ x, foldedSetIterable iter (X j).env x = pure x) : XS G X W P (.For tg iter body [] pos) (sFor i g f) := by
  obtain ⟨wi, a1, a2⟩ := hi
  obtain ⟨tg', b1, b2⟩ := hg
  obtain ⟨tb, c1, c2⟩ := hb
  exact ⟨_, fun j => ps_for (hp j) (hc j) (a1 j) (b1 j) (c1 j) (hs j), snd_for a2 b2 c2⟩

/-! ### while -/
def whF (t : Fn Bool) (f : FS) (n : Nat) : Nat → En → Option Ot
  | 0, _ => none
  | m + 1, ρ => bS (t n ρ) fun c ρ1 => if c = true then (match f n ρ1 with
      | some (.nx ρ2) => whF t f n m ρ2
      | some (.ct ρ2) => whF t f n m ρ2
      | some (.bk ρ2) => some (.nx ρ2)
      | some (.rt c ρ2) => some (.rt c ρ2)
      | some (.ex x ρ2) => some (.ex x ρ2)
      | none => none) else some (.nx ρ1)
def sWh (t : Fn Bool) (f : FS) : FS := fun n ρ => whF t f n n ρ
theorem snd_wh {tc : TT} {tb : TS} {t : Fn Bool} {f : FS} (hc : SndT G W tc t) (hb : SndS G W P tb f) : SndS G W P (tWhile tc tb) (sWh t f) := fun n ρ o e F H σ T D hR hP => by
  refine ⟨fun m σ' H' => ∃ ρ' F', Same F F' ∧ G.R F' H' ρ' σ' T ∧ Kp P σ σ' ∧ whF t f n m ρ' = some o, ⟨n, ρ, F, Same.refl _, hR, Kp.refl _, e⟩, ?_⟩
  rintro m σ' H' ⟨ρ', F', s', R', kp, eo⟩
  cases m with
  | zero => cases eo
  | succ m =>
    unfold whF at eo
    cases q : t n ρ' with
    | none => rw [q] at eo; cases eo
    | some r1 =>
      rw [q] at eo
      refine hc n ρ' r1 q F' H' σ' T _ R' ?_
      cases r1 with
      | ex x ρ1 => cases eo; exact fun F1 H1 cls d s1 R1 xr => hP F1 H1 σ' cls d (s'.trans s1) R1 kp xr
      | ok c ρ1 =>
        rw [bS_ok] at eo
        intro F1 H1 s1 R1
        cases c with
        | false =>
          rw [if_neg Bool.false_ne_true] at eo
          rw [if_neg Bool.false_ne_true]
          cases eo
          exact hP F1 H1 σ' (s'.trans s1) R1 kp
        | true =>
          rw [if_pos rfl] at eo
          rw [if_pos rfl]
          refine ⟨fun σ3 H3 => ∃ ρ3 F3, Same F F3 ∧ G.R F3 H3 ρ3 σ3 T ∧ Kp P σ σ3 ∧ whF t f n m ρ3 = some o, fun σ3 H3 ⟨ρ3, F3, s3, R3, k3, e3⟩ => ⟨m, Nat.lt_succ_self _, ρ3, F3, s3, R3, k3, e3⟩, ?_⟩
          cases q2 : f n ρ1 with
          | none => rw [q2] at eo; cases eo
          | some o2 =>
            rw [q2] at eo
            refine hb n ρ1 o2 q2 F1 H1 σ' T _ R1 ?_
            have s01 := s'.trans s1
            cases o2 with
            | nx ρ5 => exact fun F5 H5 σ5 s5 R5 k5 => ⟨ρ5, F5, s01.trans s5, R5, kp.trans k5, eo⟩
            | ct ρ5 => exact fun F5 H5 σ5 s5 R5 k5 => ⟨ρ5, F5, s01.trans s5, R5, kp.trans k5, eo⟩
            | bk ρ5 =>
              cases eo
              exact fun F5 H5 σ5 s5 R5 k5 => hP F5 H5 σ5 (s01.trans s5) R5 (kp.trans k5)
            | rt c ρ5 =>
              cases eo
              exact fun F5 H5 σ5 v s5 R5 k5 => hP F5 H5 σ5 v (s01.trans s5) R5 (kp.trans k5)
            | ex x ρ5 =>
              cases eo
              exact fun F5 H5 σ5 cls d s5 R5 k5 xr => hP F5 H5 σ5 cls d (s01.trans s5) R5 (kp.trans k5) xr
theorem xs_wh {c : Expr} {body : List Stmt} {t : Fn Bool} {f : FS} (hp : ∀ j, PassesOwn (model (X j).prog (X j).w) (X j).A (X j).env (X j).xe) (hc : XT G X W c t) (hb : XSs G X W P body f) : XS G X W P (.While c body [] pos) (sWh t f) := by
  obtain ⟨tc, a1, a2⟩ := hc
  obtain ⟨tb, b1, b2⟩ := hb
  exact ⟨_, fun j => ps_while (hp j) (a1 j) (b1 j), snd_wh a2 b2⟩
end
end L3

namespace L3
open PySem PySem.Spec L2

/-! ### list comprehensions -/
theorem en_agree : ∀ {ρ : En} {σ σ' : L2.St}, EnOk ρ σ → σ'.length = σ.length → (∀ (i : Nat) (c : Cl), ρ[i]? = some (some c) → σ'[i]? = σ[i]?) → eL ρ σ' = eL ρ σ ∧ EnOk ρ σ'
  | [], [], [], _, _, _ => ⟨rfl, trivial⟩
  | [], [], _ :: _, _, hl, _ => by cases hl
  | some c :: ρ, some v :: σ, [], _, hl, _ => by cases hl
  | some c :: ρ, some v :: σ, o :: σ', h, hl, ha => by
    have h0 := ha 0 c rfl
    have e0 : o = some v := by simpa using h0
    subst e0
    obtain ⟨e1, e2⟩ := en_agree (ρ := ρ) (σ := σ) (σ' := σ') h (by simpa using hl) fun i c hc => by
      have := ha (i + 1) c (by rw [List.getElem?_cons_succ]; exact hc)
      simpa using this
    exact ⟨congrArg (fun z => (c, v) :: z) e1, e2⟩
  | none :: ρ, x :: σ, [], _, hl, _ => by cases hl
  | none :: ρ, x :: σ, o :: σ', h, hl, ha => by
    obtain ⟨e1, e2⟩ := en_agree (ρ := ρ) (σ := σ) (σ' := σ') h (by simpa using hl) fun i c hc => by
      have := ha (i + 1) c (by rw [List.getElem?_cons_succ]; exact hc)
      simpa using this
    exact ⟨e1, e2⟩
  | some _ :: _, none :: _, _, h, _, _ => h.elim
  | some _ :: _, [], _, h, _, _ => h.elim
  | none :: _, [], _, h, _, _ => h.elim
  | [], _ :: _, _, h, _, _ => h.elim
theorem R.agree {G : Gd} {F H : Hp} {ρ : En} {σ σ' : L2.St} {T : List (Cl × V)} (h : G.R F H ρ σ T) (hl : σ'.length = σ.length) (ha : ∀ (i : Nat) (c : Cl), ρ[i]? = some (some c) → σ'[i]? = σ[i]?) : G.R F H ρ σ' T := by
  obtain ⟨e1, e2⟩ := en_agree h.ok hl ha
  exact ⟨by rw [e1]; exact h.hr, e2⟩
/-- the slots vs emptied -/
def wipR (ρ : En) : List Nat → En
  | [] => ρ
  | v :: vs => (wipR ρ vs).set v none
def noneAt (ρ : En) (vs : List Nat) : Bool := vs.all fun j => match ρ[j]? with
  | some none => true
  | _ => false
theorem noneAt_ok {ρ : En} {vs : List Nat} (h : noneAt ρ vs = true) : ∀ j ∈ vs, ρ[j]? = some none := fun j hj => by
  have := List.all_eq_true.mp h j hj
  split at this
  · assumption
  · cases this
theorem wipR_len (ρ : En) : ∀ vs : List Nat, (wipR ρ vs).length = ρ.length
  | [] => rfl
  | v :: vs => by unfold wipR; rw [List.length_set, wipR_len ρ vs]
theorem wipR_at (ρ : En) : ∀ (vs : List Nat) (j : Nat), j ∈ vs → j < ρ.length → (wipR ρ vs)[j]? = some none
  | [], j, h, _ => by cases h
  | v :: vs, j, h, hl => by
    unfold wipR
    by_cases e : v = j
    · subst e
      rw [List.getElem?_set_self (by rw [wipR_len]; exact hl)]
    · rw [List.getElem?_set_ne e]
      exact wipR_at ρ vs j ((List.mem_cons.mp h).resolve_left fun z => e z.symm) hl
theorem R.wip {G : Gd} {F H : Hp} {ρ : En} {σ : L2.St} {T : List (Cl × V)} (h : G.R F H ρ σ T) : ∀ vs : List Nat, G.R F H (wipR ρ vs) (wipe σ vs) T
  | [] => h
  | v :: vs => (R.wip h vs).gone v none
theorem wipe_at (σ : L2.St) : ∀ (vs : List Nat) (j : Nat), j ∈ vs → j < σ.length → (wipe σ vs)[j]? = some none
  | [], j, h, _ => by cases h
  | v :: vs, j, h, hl => by
    unfold wipe
    by_cases e : v = j
    · subst e
      rw [List.getElem?_set_self (by rw [wipe_length]; exact hl)]
    · rw [List.getElem?_set_ne e]
      exact wipe_at σ vs j ((List.mem_cons.mp h).resolve_left fun z => e z.symm) hl
theorem wipe_eq {σ σ2 : L2.St} {vs : List Nat} (hl : σ2.length = σ.length) (h : ∀ j, j < σ.length → j ∉ vs → σ2[j]? = σ[j]?) : wipe σ2 vs = wipe σ vs := by
  refine List.ext_getElem? fun j => ?_
  by_cases hj : j < σ.length
  · by_cases m : j ∈ vs
    · rw [wipe_at σ2 vs j m (by rw [hl]; exact hj), wipe_at σ vs j m hj]
    · rw [wipe_out m, wipe_out m]
      exact h j hj m
  · rw [List.getElem?_eq_none (by rw [wipe_length, hl]; omega), List.getElem?_eq_none (by rw [wipe_length]; omega)]
def lcF (N : Nat) (g : FG) (t : Fn Bool) (e : Fn Bv) (vs : List Nat) (n : Nat) : List D → En → List D → Option (Rz Cl)
  | [], ρ, acc => some (.ok (.lst acc) ρ)
  | d :: ds, ρ, acc => match g d ρ with
    | some ρ2 => if ρ2.length = N then (match t n ρ2 with
      | some (.ok true ρ3) => match fFz e n ρ3 with
        | some (.ok (.fz y) ρ4) => lcF N g t e vs n ds (wipR ρ4 vs) (acc ++ [y])
        | _ => none
      | some (.ok false ρ3) => lcF N g t e vs n ds (wipR ρ3 vs) acc
      | _ => none) else none
    | none => none
def fLc (N : Nat) (vs : List Nat) (i : Fn (List D)) (g : FG) (t : Fn Bool) (e : Fn Bv) : Fn Cl := fun n ρ => bnd (i n ρ) fun ds ρ1 =>
  if (vs.all (fun j => decide (j < N)) && decide (ρ1.length = N) && decide (ds.length ≤ 1000000)) = true then lcF N g t e vs n ds (wipR ρ1 vs) [] else none
abbrev W0 : WX := fun _ _ _ _ => False
def outP (N : Nat) (vs : List Nat) : List Nat := (List.range N).filter fun j => !(vs.contains j)
theorem tM : (1000000 : Nat) < sizeLine := by rw [sizeLine_eq]; decide
section
variable {ι : Type} {G : Gd} {X : ι → Cx} {W : WX}
theorem snd_lc {N : Nat} {vs : List Nat} {wi : TI} {tg : TG} {tt : TT} {te : TE} {i : Fn (List D)} {g : FG} {t : Fn Bool} {e : Fn Bv} (hi : SndI G W wi i) (hg : SndG G (outP N vs) tg g) (ht : SndT G W0 tt t) (he : SndB G W0 te e) : SndE G W (tLc wi tg tt te vs) (fLc N vs i g t e) := fun n ρ r eq F H σ T Q hR hP => by
  unfold fLc at eq
  cases q : i n ρ with
  | none => rw [q] at eq; cases eq
  | some r1 =>
    rw [q] at eq
    refine hi n ρ r1 q F H σ T _ hR ?_
    cases r1 with
    | ex x ρ' => cases eq; exact hP
    | ok ds ρ1 =>
      rw [bnd_ok] at eq
      split at eq
      · rename_i hh
        rw [Bool.and_eq_true, Bool.and_eq_true] at hh
        obtain ⟨⟨hn, hN⟩, hz⟩ := hh
        have hN := of_decide_eq_true hN
        have hn : ∀ j ∈ vs, (wipR ρ1 vs)[j]? = some none := fun j hj => wipR_at ρ1 vs j hj (by
          have := of_decide_eq_true (List.all_eq_true.mp hn j hj)
          omega)
        have hz := of_decide_eq_true hz
        intro F1 H1 J s1 R1 ok Dn hD
        have lσ : ρ1.length = σ.length := R1.ok.len
        have Rw : G.R F1 H1 (wipR ρ1 vs) (wipe σ vs) T := R1.wip vs
        refine ⟨fun k m H' => ∃ ρ' F' acc, m = ds.length - k ∧ k ≤ ds.length ∧ acc.length ≤ k ∧ Same F1 F' ∧ G.R F' H' ρ' (wipe σ vs) ((.lst acc, .ref Dn) :: T) ∧ (∀ j ∈ vs, ρ'[j]? = some none) ∧ ρ'.length = N ∧ lcF N g t e vs n (ds.drop k) ρ' acc = some r,
          ⟨ds.length, wipR ρ1 vs, F1, [], by simp, Nat.zero_le _, Nat.le_refl _, Same.refl _, Rw.newLst hD .nil, hn, by rw [wipR_len]; exact hN, by rw [List.drop_zero]; exact eq⟩, ?_⟩
        rintro k m H' ⟨ρ', F', acc, rfl, hk, ha, s', R', hn', hN', eo⟩
        by_cases hlt : k < ds.length
        · rw [List.drop_eq_getElem_cons hlt] at eo
          unfold lcF at eo
          cases q1 : g ds[k] ρ' with
          | none => rw [q1] at eo; cases eo
          | some ρ2 =>
            rw [q1] at eo
            dsimp only at eo
            by_cases l2 : ρ2.length = N
            case neg => rw [if_neg l2] at eo; cases eo
            rw [if_pos l2] at eo
            refine .inr ⟨ok.go F' H' _ k s' R'.hr hlt, fun H3 => ∃ ρ3 F3 acc3, acc3.length ≤ k + 1 ∧ Same F1 F3 ∧ G.R F3 H3 ρ3 (wipe σ vs) ((.lst acc3, .ref Dn) :: T) ∧ (∀ j ∈ vs, ρ3[j]? = some none) ∧ ρ3.length = N ∧ lcF N g t e vs n (ds.drop (k + 1)) ρ3 acc3 = some r, ?_, ?_⟩
            · rintro H3 ⟨ρ3, F3, acc3, ha3, s3, R3, hn3, hN3, e3⟩
              exact ⟨ds.length - (k + 1), by omega, ρ3, F3, acc3, rfl, hlt, ha3, s3, R3, hn3, hN3, e3⟩
            · intro x H2 hy
              obtain ⟨F2, s2, hr2, rx⟩ := ok.yld F' H' _ k x H2 ds[k] s' R'.hr (List.getElem?_eq_getElem hlt) hy
              refine hg ds[k] ρ' ρ2 q1 F2 H2 (wipe σ vs) _ x _ ⟨hr2, R'.ok⟩ rx fun σ4 R4 k4 => ?_
              have l4 : σ4.length = σ.length := by
                have h1 := R4.ok.len
                have h2 := R'.ok.len
                rw [wipe_length] at h2
                omega
              have w4 : wipe σ4 vs = wipe σ vs := by
                have e1 : wipe σ4 vs = wipe (wipe σ vs) vs := wipe_eq (by rw [l4, wipe_length]) fun j hj m => by
                  refine k4 j (List.mem_filter.mpr ⟨List.mem_range.mpr ?_, by simp [m]⟩)
                  rw [wipe_length] at hj
                  omega
                rw [e1]
                exact wipe_eq (wipe_length _ _) fun j hj m => wipe_out m
              refine ⟨w4, ?_⟩
              have s02 := s'.trans s2
              cases q2 : t n ρ2 with
              | none => rw [q2] at eo; cases eo
              | some o2 =>
                rw [q2] at eo
                refine ht n ρ2 o2 q2 F2 H2 σ4 _ _ R4 ?_
                cases o2 with
                | ex x ρ3 => cases eo
                | ok b ρ3 =>
                  intro F3 H3 s3 R3
                  cases b with
                  | false =>
                    rw [if_neg Bool.false_ne_true]
                    dsimp only at eo
                    have Rn := R3.wip vs
                    rw [w4] at Rn
                    refine ⟨wipR ρ3 vs, F3, acc, Nat.le_succ_of_le ha, s02.trans s3, Rn, fun j hj => wipR_at ρ3 vs j hj ?_, ?_, eo⟩
                    · have := R3.ok.len
                      have hj' := hn' j hj
                      have := (List.getElem?_eq_some_iff.mp hj').1
                      omega
                    · have := R3.ok.len
                      rw [wipR_len]
                      omega
                  | true =>
                    rw [if_pos rfl]
                    dsimp only at eo
                    cases q3 : fFz e n ρ3 with
                    | none => rw [q3] at eo; cases eo
                    | some o3 =>
                      rw [q3] at eo
                      refine snd_fz he n ρ3 o3 q3 F3 H3 σ4 _ _ R3 ?_
                      cases o3 with
                      | ex x ρ4 => cases eo
                      | ok c ρ4 =>
                        intro F4 H4 y s4 R4'
                        cases c with
                        | fz dy =>
                          dsimp only at eo
                          have ry := R4'.rp
                          have R5 := R4'.tail
                          obtain ⟨A, cr⟩ := R5.cr
                          cases cr with
                          | lst h1 h2 r2 =>
                            refine ⟨_, h1, ?_, ?_⟩
                            · rw [r2.length]
                              exact Nat.lt_of_le_of_lt (Nat.le_trans ha (Nat.le_trans hk hz)) tM
                            · have R6 : G.R F4 (upd H4 Dn (.lst (_ ++ [y]))) ρ4 σ4 ((.lst (acc ++ [dy]), .ref Dn) :: T) :=
                                .mk' (R5.hr'.mut (fun A h => by cases h; rfl) (.lst upd_same h2 (r2.append (.cons ry .nil)))) R5.ok
                              have Rn := R6.wip vs
                              rw [w4] at Rn
                              refine ⟨wipR ρ4 vs, F4, acc ++ [dy], ?_, (s02.trans s3).trans s4, Rn, fun j hj => wipR_at ρ4 vs j hj ?_, ?_, eo⟩
                              · rw [List.length_append, List.length_singleton]; omega
                              · have := R6.ok.len
                                have hj' := hn' j hj
                                have := (List.getElem?_eq_some_iff.mp hj').1
                                omega
                              · have := R6.ok.len
                                rw [wipR_len]
                                omega
                        | lst _ => cases eo
                        | dct _ => cases eo
                        | dtt _ => cases eo
                        | dlk _ => cases eo
                        | bx _ _ => cases eo
                        | ins _ _ => cases eo
        · have ek : k = ds.length := by omega
          subst ek
          rw [List.drop_length] at eo
          cases eo
          refine .inl ⟨ok.stop F' H' _ _ s' R'.hr (Nat.le_refl _), hP F' H' _ (s1.trans s') (R'.agree (wipe_length _ _).symm fun j c hc => (wipe_out fun m => by rw [hn' j m] at hc; cases hc).symm)⟩
      · cases eq
end
end L3

namespace L3
open PySem PySem.Spec L2

/-! ### comprehensions in the text -/
structure Bi where
  s : Shared
  H : Hp
  C : Addr
  cl : List (Str × Addr)
  fp : List Addr
section
variable {ι : Type}
abbrev blkX (X : ι → Cx) (scope : Scope) : ι × Bi → Cx := fun p => (X p.1).blk p.2.s p.2.H scope (compEnvC scope p.2.cl p.2.C (X p.1).env) p.2.fp
def fYes : Fn Bool := fun _ ρ => some (.ok true ρ)
variable {G : Gd} {X : ι → Cx} {W : WX} {P : List Nat}
theorem xe_lc0 {elt tg iter : Expr} {scope : Scope} {own : List (Str × Nat)} {pos : Pos} {N : Nat} {i : Fn (List D)} {g : FG} {e : Fn Bv} (hc : ∀ j, (X j).calm = true) (hN : ∀ j, (X j).N.Nodup) (hi : XI G X W tg iter i) (ok : ∀ j, BlkOk (X j).N (X j).env.scope scope own)
    (hg : XG G (blkX X scope) (outP N (own.map (·.2))) tg g) (he : XB G (blkX X scope) W0 elt e) (hs : ∀ j, ∀ x, foldedSetIterable iter (X j).env x = pure x) :
    XE G X W (.ListComp elt [⟨tg, iter, [], 0⟩] scope pos) (fLc N (own.map (·.2)) i g fYes e) := by
  obtain ⟨wi, a1, a2⟩ := hi
  obtain ⟨tg', b1, b2⟩ := hg
  obtain ⟨te, c1, c2⟩ := he
  refine ⟨_, fun j => pe_lc (hc j) (hN j) (a1 j) (ok j) (fun s H C cl fp => b1 (j, ⟨s, H, C, cl, fp⟩)) (fun _ _ _ _ _ => pts_nil) (fun s H C cl fp => c1 (j, ⟨s, H, C, cl, fp⟩)) (hs j), snd_lc a2 b2 (fun n ρ r e F H σ T Q hR hP => ?_) c2⟩
  cases e
  exact hP F H (Same.refl _) hR
theorem xe_lc1 {elt tg iter c : Expr} {scope : Scope} {own : List (Str × Nat)} {pos : Pos} {N : Nat} {i : Fn (List D)} {g : FG} {t : Fn Bool} {e : Fn Bv} (hc : ∀ j, (X j).calm = true) (hN : ∀ j, (X j).N.Nodup) (hi : XI G X W tg iter i) (ok : ∀ j, BlkOk (X j).N (X j).env.scope scope own)
    (hg : XG G (blkX X scope) (outP N (own.map (·.2))) tg g) (ht : XT G (blkX X scope) W0 c t) (he : XB G (blkX X scope) W0 elt e) (hs : ∀ j, ∀ x, foldedSetIterable iter (X j).env x = pure x) :
    XE G X W (.ListComp elt [⟨tg, iter, [c], 0⟩] scope pos) (fLc N (own.map (·.2)) i g t e) := by
  obtain ⟨wi, a1, a2⟩ := hi
  obtain ⟨tg', b1, b2⟩ := hg
  obtain ⟨tt, d1, d2⟩ := ht
  obtain ⟨te, c1, c2⟩ := he
  exact ⟨_, fun j => pe_lc (hc j) (hN j) (a1 j) (ok j) (fun s H C cl fp => b1 (j, ⟨s, H, C, cl, fp⟩)) (fun s H C cl fp => pts_one (d1 (j, ⟨s, H, C, cl, fp⟩))) (fun s H C cl fp => c1 (j, ⟨s, H, C, cl, fp⟩)) (hs j), snd_lc a2 b2 d2 c2⟩
theorem xs_setLc0 {k : Nat} {y : Str} {py : Pos} {elt tg iter : Expr} {scope : Scope} {own : List (Str × Nat)} {pos spos : Pos} {N : Nat} {i : Fn (List D)} {g : FG} {e : Fn Bv} (hk : k ∉ P) (hc : ∀ j, (X j).calm = true) (hN : ∀ j, (X j).N.Nodup) (hy : ∀ j, (X j).N[k]? = some y) (hyl : ∀ j, (X j).env.scope.names.lookup y = some .local)
    (hsw : ∀ j, swapsWith (.ListComp elt [⟨tg, iter, [], 0⟩] scope pos) (some (.Name y py)) spos.line (X j).env = pure true) (hi : XI G X W tg iter i) (ok : ∀ j, BlkOk (X j).N (X j).env.scope scope own)
    (hg : XG G (blkX X scope) (outP N (own.map (·.2))) tg g) (he : XB G (blkX X scope) W0 elt e) (hs : ∀ j, ∀ x, foldedSetIterable iter (X j).env x = pure x) :
    XS G X W P (.Assign [.Name y py] (.ListComp elt [⟨tg, iter, [], 0⟩] scope pos) spos) (sSet k (fLc N (own.map (·.2)) i g fYes e)) := by
  obtain ⟨wi, a1, a2⟩ := hi
  obtain ⟨tg', b1, b2⟩ := hg
  obtain ⟨te, c1, c2⟩ := he
  refine ⟨_, fun j => ps_setLc (hc j) (hN j) (hy j) (hyl j) (hsw j) (a1 j) (ok j) (fun s H C cl fp => b1 (j, ⟨s, H, C, cl, fp⟩)) (fun _ _ _ _ _ => pts_nil) (fun s H C cl fp => c1 (j, ⟨s, H, C, cl, fp⟩)) (hs j), snd_set hk (snd_lc a2 b2 (fun n ρ r e F H σ T Q hR hP => ?_) c2)⟩
  cases e
  exact hP F H (Same.refl _) hR
theorem xs_setLc1 {k : Nat} {y : Str} {py : Pos} {elt tg iter c : Expr} {scope : Scope} {own : List (Str × Nat)} {pos spos : Pos} {N : Nat} {i : Fn (List D)} {g : FG} {t : Fn Bool} {e : Fn Bv} (hk : k ∉ P) (hc : ∀ j, (X j).calm = true) (hN : ∀ j, (X j).N.Nodup) (hy : ∀ j, (X j).N[k]? = some y) (hyl : ∀ j, (X j).env.scope.names.lookup y = some .local)
    (hsw : ∀ j, swapsWith (.ListComp elt [⟨tg, iter, [c], 0⟩] scope pos) (some (.Name y py)) spos.line (X j).env = pure true) (hi : XI G X W tg iter i) (ok : ∀ j, BlkOk (X j).N (X j).env.scope scope own)
    (hg : XG G (blkX X scope) (outP N (own.map (·.2))) tg g) (ht : XT G (blkX X scope) W0 c t) (he : XB G (blkX X scope) W0 elt e) (hs : ∀ j, ∀ x, foldedSetIterable iter (X j).env x = pure x) :
    XS G X W P (.Assign [.Name y py] (.ListComp elt [⟨tg, iter, [c], 0⟩] scope pos) spos) (sSet k (fLc N (own.map (·.2)) i g t e)) := by
  obtain ⟨wi, a1, a2⟩ := hi
  obtain ⟨tg', b1, b2⟩ := hg
  obtain ⟨tt, d1, d2⟩ := ht
  obtain ⟨te, c1, c2⟩ := he
  exact ⟨_, fun j => ps_setLc (hc j) (hN j) (hy j) (hyl j) (hsw j) (a1 j) (ok j) (fun s H C cl fp => b1 (j, ⟨s, H, C, cl, fp⟩)) (fun s H C cl fp => pts_one (d1 (j, ⟨s, H, C, cl, fp⟩))) (fun s H C cl fp => c1 (j, ⟨s, H, C, cl, fp⟩)) (hs j), snd_set hk (snd_lc a2 b2 d2 c2)⟩
end

/-! ### calls of defs -/
inductive Mo where
  | ok (c : Cl) (outs : List (Option Cl))
  | ex (x : Ex) (outs : List (Option Cl))
abbrev Mr := List Cl → Option Mo
def backs : List (Option Cl) → List V → List (Cl × V)
  | some c :: os, v :: vs => (c, v) :: backs os vs
  | none :: os, _ :: vs => backs os vs
  | _, _ => []
def MoP (G : Gd) (F : Hp) (vs : List V) (L : List (Cl × V)) (Q : VK) (E : XK) : Mo → Prop
  | .ok c outs => ∀ F' H' v, Same F F' → G.HR F' H' ((c, v) :: (backs outs vs ++ L)) → Q v H'
  | .ex x outs => ∀ F' H' cls d, Same F F' → G.HR F' H' (backs outs vs ++ L) → XR G F' x cls d → E cls d H'
/-- the promise of a def: called with such cells it hands back what m says -/
def spM (G : Gd) (np : Nat) (m : Mr) : Sp := fun vs H Q E => vs.length = np ∧ ∃ cs F L o, cs.length = np ∧ G.HR F H (cs.zip vs ++ L) ∧ m cs = some o ∧ MoP G F vs L Q E o
def takeA (ρ : En) : List Bv → Option (List Cl × En)
  | [] => some ([], ρ)
  | b :: bs => match takeA ρ bs with
    | some (cs, ρ1) => match b with
      | .vl c => some (c :: cs, ρ1)
      | .pl i => match (ρ1[i]?).join with
        | some (.fz d) => some (.fz d :: cs, ρ1)
        | some c => some (c :: cs, ρ1.set i none)
        | none => none
    | none => none
def giveA : En → List Bv → List (Option Cl) → En
  | ρ, .pl i :: bs, some c :: os => giveA (match ρ[i]? with | some none => ρ.set i (some c) | _ => ρ) bs os
  | ρ, .pl _ :: bs, none :: os => giveA ρ bs os
  | ρ, .vl _ :: bs, _ :: os => giveA ρ bs os
  | ρ, _, _ => ρ
section
variable {G : Gd} {F H : Hp} {ρ : En} {σ : L2.St} {T : List (Cl × V)}
theorem take_many : ∀ {bs : List Bv} {vs : List V} {cs : List Cl} {T : List (Cl × V)} {ρ' : En}, G.R F H ρ σ (bvTs bs vs T) → bvVs σ bs vs → takeA ρ bs = some (cs, ρ') → G.HR F H (cs.zip vs ++ (eL ρ' σ ++ T)) ∧ EnOk ρ' σ ∧ cs.length = vs.length
  | [], [], cs, T, ρ', hR, _, e => by
    cases e
    exact ⟨hR.hr, hR.ok, rfl⟩
  | [], _ :: _, _, _, _, _, h, _ => h.elim
  | _ :: _, [], _, _, _, _, h, _ => h.elim
  | b :: bs, v :: vs, cs, T, ρ', hR, hv, e => by
    unfold takeA at e
    cases q : takeA ρ bs with
    | none => rw [q] at e; cases e
    | some p =>
      obtain ⟨cs1, ρ1⟩ := p
      rw [q] at e
      dsimp only at e
      obtain ⟨h1, ok1, l1⟩ := take_many (T := bvT b v T) hR hv.2 q
      cases b with
      | vl c =>
        cases e
        refine ⟨?_, ok1, congrArg (· + 1) l1⟩
        show G.HR F H ((c, v) :: (cs1.zip vs ++ (eL ρ' σ ++ T)))
        have p1 : (cs1.zip vs ++ (eL ρ' σ ++ (c, v) :: T)).Perm ((c, v) :: (cs1.zip vs ++ (eL ρ' σ ++ T))) :=
          (List.Perm.append_left _ (mid _ _ _)).trans (mid _ _ _)
        exact h1.perm p1
      | pl i =>
        dsimp only at e
        have h1 : G.HR F H (cs1.zip vs ++ (eL ρ1 σ ++ T)) := h1
        have hv1 : σ[i]? = some (some v) := hv.1
        cases q2 : (ρ1[i]?).join with
        | none => rw [q2] at e; cases e
        | some c =>
          rw [q2] at e
          obtain ⟨w, h2, p2, ok2⟩ := en_get ok1 (join_some q2)
          rw [hv1] at h2
          cases h2
          have p3 : (cs1.zip vs ++ (eL ρ1 σ ++ T)).Perm ((c, v) :: (cs1.zip vs ++ (eL (ρ1.set i none) σ ++ T))) :=
            (List.Perm.append_left _ (List.Perm.append_right T p2)).trans (mid _ _ _)
          cases c with
          | fz d =>
            cases e
            refine ⟨?_, ok1, congrArg (· + 1) l1⟩
            exact h1.push (h1.perm p3).rp
          | lst _ => cases e; exact ⟨h1.perm p3, ok2, congrArg (· + 1) l1⟩
          | dct _ => cases e; exact ⟨h1.perm p3, ok2, congrArg (· + 1) l1⟩
          | dtt _ => cases e; exact ⟨h1.perm p3, ok2, congrArg (· + 1) l1⟩
          | dlk _ => cases e; exact ⟨h1.perm p3, ok2, congrArg (· + 1) l1⟩
          | bx _ _ => cases e; exact ⟨h1.perm p3, ok2, congrArg (· + 1) l1⟩
          | ins _ _ => cases e; exact ⟨h1.perm p3, ok2, congrArg (· + 1) l1⟩
theorem give_many : ∀ {bs : List Bv} {vs : List V} {os : List (Option Cl)} {ρ : En}, G.HR F H (backs os vs ++ (eL ρ σ ++ T)) → EnOk ρ σ → bvVs σ bs vs → G.R F H (giveA ρ bs os) σ T
  | [], [], os, ρ, h, ok, _ => by
    have e1 : backs os [] = [] := by
      cases os with
      | nil => rfl
      | cons o os => cases o <;> rfl
    rw [e1] at h
    cases os <;> exact ⟨h, ok⟩
  | [], _ :: _, _, _, _, _, h => h.elim
  | _ :: _, [], _, _, _, _, h => h.elim
  | b :: bs, v :: vs, [], ρ, h, ok, hv => by
    cases b <;> exact ⟨h, ok⟩
  | .vl c :: bs, v :: vs, o :: os, ρ, h, ok, hv => by
    refine give_many (bs := bs) (vs := vs) (os := os) ?_ ok hv.2
    cases o with
    | none => exact h
    | some c' => exact HR.tail (x := (c', v)) h
  | .pl i :: bs, v :: vs, none :: os, ρ, h, ok, hv => give_many (bs := bs) (vs := vs) (os := os) h ok hv.2
  | .pl i :: bs, v :: vs, some c :: os, ρ, h, ok, hv => by
    have hv1 : σ[i]? = some (some v) := hv.1
    have h : G.HR F H ((c, v) :: (backs os vs ++ (eL ρ σ ++ T))) := h
    unfold giveA
    cases q : ρ[i]? with
    | none => exact give_many (vs := vs) h.tail ok hv.2
    | some r =>
      cases r with
      | some c' => exact give_many (vs := vs) h.tail ok hv.2
      | none =>
        obtain ⟨ok2, p2⟩ := en_put c ok q hv1
        refine give_many (vs := vs) (h.perm ?_) ok2 hv.2
        exact (mid _ _ _).symm.trans (List.Perm.append_left _ (List.Perm.append_right T p2))
end
def fCall (m : Mr) (f : Fn (List Bv)) : Fn Cl := fun n ρ => bnd (f n ρ) fun bs ρ1 => match takeA ρ1 bs with
  | some (cs, ρ2) => match m cs with
    | some (.ok c outs) => some (.ok c (giveA ρ2 bs outs))
    | some (.ex x outs) => some (.ex x (giveA ρ2 bs outs))
    | none => none
  | none => none
section
variable {ι : Type} {G : Gd} {X : ι → Cx} {W : WX} {e : Expr} {es : List Expr}
theorem HR.rot {K : PySem.W.Frag} {cl : Str → Addr → Prop} {F H : Hp} {x : Cl × V} {A B C : List (Cl × V)} (h : HR K cl F H (x :: (A ++ (B ++ C)))) : HR K cl F H (A ++ (B ++ x :: C)) :=
  h.perm (((List.Perm.append_left A (mid x B C)).trans (mid x A (B ++ C))).symm)
theorem snd_call {np : Nat} {m : Mr} {t : TA} {f : Fn (List Bv)} (ht : SndBs G W t f) (hl : ∀ n ρ bs ρ', f n ρ = some (.ok bs ρ') → bs.length = np) : SndE G W (tCallS (spM G np m) (WE W) t) (fCall m f) := fun n ρ r e F H σ T Q hR hP => by
  unfold fCall at e
  cases q : f n ρ with
  | none => rw [q] at e; cases e
  | some r1 =>
    rw [q] at e
    refine ht n ρ r1 q F H σ T _ hR ?_
    cases r1 with
    | ex x ρ' => cases e; exact hP
    | ok bs ρ1 =>
      rw [bnd_ok] at e
      intro F1 H1 vs s1 R1 v1
      cases q2 : takeA ρ1 bs with
      | none => rw [q2] at e; cases e
      | some p =>
        obtain ⟨cs, ρ2⟩ := p
        rw [q2] at e
        dsimp only at e
        obtain ⟨hh, ok2, lc⟩ := take_many R1 v1 q2
        have lb : vs.length = np := by
          rw [← hl n ρ bs ρ1 q]
          have : ∀ {bs : List Bv} {vs : List V}, bvVs σ bs vs → vs.length = bs.length := by
            intro bs
            induction bs with
            | nil => intro vs h; cases vs with
              | nil => rfl
              | cons _ _ => exact h.elim
            | cons b bs ih => intro vs h; cases vs with
              | nil => exact h.elim
              | cons v vs => exact congrArg (· + 1) (ih h.2)
          exact this v1
        cases q3 : m cs with
        | none => rw [q3] at e; cases e
        | some o =>
          rw [q3] at e
          refine ⟨lb, cs, F1, eL ρ2 σ ++ T, o, lc.trans lb, hh, q3, ?_⟩
          cases o with
          | ok c outs =>
            cases e
            exact fun F' H' v s' h' => hP F' H' v (s1.trans s') (give_many (T := (c, v) :: T) h'.rot ok2 v1)
          | ex x outs =>
            cases e
            exact fun F' H' cls d s' h' xr => hP F' H' cls d (s1.trans s') (give_many h' ok2 v1) xr
theorem xe_call {np k : Nat} {m : Mr} {f : Fn (List Bv)} {x : Str} {p pos : Pos} {a : Addr} {fd : FuncData} {ps : List Str} (Fk : ∀ i, FnOk (X i).prog (X i).w (X i).K (X i).mg (X i).base (L2.CX (X i).prog (X i).w) k a fd ps (spM G np m)) (hr : ∀ i, Room k (X i).A) (hg : ∀ i, Gl (X i) x) (hm : ∀ i, (X i).mg x = some (.ref a))
    (hk : ∀ i, PySem.W.keepIn (X i).K (.ref a) = true) (hb : ∀ i, Binds (X i).K fd ps []) (tk : ∀ i, Takes (X i) W) (ha : XBs G X W (e :: es) f) (hl : ∀ n ρ bs ρ', f n ρ = some (.ok bs ρ') → bs.length = np) (hdb : (x == ("__debug__" : Str)) = false)
    (he : ∀ i, starEach (e :: es) (X i).env = (false, eval e (X i).env) :: starEach es (X i).env) (hpl : ∀ i, (backTo pos (starEach es (X i).env)).any (·.1) = false) : XE G X W (.Call (.Name x p) (e :: es) [] pos) (fCall m f) := by
  obtain ⟨t, h1, h2⟩ := ha
  exact ⟨_, fun i => pe_callS (E := WE W) (Fk i) (hr i) (hg i) (hm i) (hk i) (hb i) (fun σ => passAt (tk i) σ) (h1 i) hdb (he i) (hpl i), snd_call h2 hl⟩
def fCall0 (m : Mr) : Fn Cl := fun _ ρ => match m [] with
  | some (.ok c _) => some (.ok c ρ)
  | _ => none
theorem backs_nil (os : List (Option Cl)) : backs os [] = [] := by
  cases os with
  | nil => rfl
  | cons o os => cases o <;> rfl
theorem xe_call0 {k : Nat} {m : Mr} {x : Str} {p pos : Pos} {a : Addr} {fd : FuncData} (Fk : ∀ i, FnOk (X i).prog (X i).w (X i).K (X i).mg (X i).base (L2.CX (X i).prog (X i).w) k a fd [] (spM G 0 m)) (hr : ∀ i, Room k (X i).A) (hg : ∀ i, Gl (X i) x) (hm : ∀ i, (X i).mg x = some (.ref a))
    (hk : ∀ i, PySem.W.keepIn (X i).K (.ref a) = true) (hb : ∀ i, Binds (X i).K fd [] []) (hdb : (x == ("__debug__" : Str)) = false) : XE G X W (.Call (.Name x p) [] [] pos) (fCall0 m) :=
  ⟨_, fun i => pe_call0 (Fk i) (hr i) (hg i) (hm i) (hk i) (hb i) .nil passL hdb, fun n ρ r e F H σ T Q hR hP => by
    unfold fCall0 at e
    split at e
    · rename_i c outs q
      cases e
      refine ⟨rfl, [], F, eL ρ σ ++ T, _, rfl, hR.hr, q, fun F' H' v s' h' => ?_⟩
      have h' : G.HR F' H' ((c, v) :: (backs outs [] ++ (eL ρ σ ++ T))) := h'
      rw [backs_nil] at h'
      exact hP F' H' v s' (.mk' h' hR.ok)
    · cases e⟩
theorem len_nil {n : Nat} {ρ : En} {bs : List Bv} {ρ' : En} (h : fNil n ρ = some (.ok bs ρ')) : bs.length = 0 := by
  cases h
  rfl
theorem len_cons {f : Fn Bv} {g : Fn (List Bv)} {k : Nat} (hg : ∀ n ρ bs ρ', g n ρ = some (.ok bs ρ') → bs.length = k) : ∀ n ρ bs ρ', fCons f g n ρ = some (.ok bs ρ') → bs.length = k + 1 := fun n ρ bs ρ' h => by
  unfold fCons at h
  cases q : f n ρ with
  | none => rw [q] at h; cases h
  | some r1 =>
    rw [q] at h
    cases r1 with
    | ex x ρ1 => cases h
    | ok b ρ1 =>
      rw [bnd_ok] at h
      cases q2 : g n ρ1 with
      | none => rw [q2] at h; cases h
      | some r2 =>
        rw [q2] at h
        cases r2 with
        | ex x ρ2 => cases h
        | ok bs2 ρ2 =>
          cases h
          exact congrArg (· + 1) (hg n ρ1 bs2 _ q2)
end

/-! ### a def by its body -/
def outsOf (fl : List Bool) (ρ : En) : List (Option Cl) := List.zipWith (fun b r => if b = true then r else none) fl ρ
def fin (fl : List Bool) : Ot → Option Mo
  | .nx ρ => some (.ok (.fz .none) (outsOf fl ρ))
  | .rt c ρ => some (.ok c (outsOf fl ρ))
  | .ex x ρ => some (.ex x (outsOf fl ρ))
  | _ => none
def startR (N : Nat) (cs : List Cl) : En := cs.map some ++ List.replicate (N - cs.length) none
theorem start_ok : ∀ {cs : List Cl} {vs : List V} (k : Nat), cs.length = vs.length → EnOk (cs.map some ++ List.replicate k none) (vs.map some ++ List.replicate k none) ∧ eL (cs.map some ++ List.replicate k none) (vs.map some ++ List.replicate k none) = cs.zip vs
  | [], [], 0, _ => ⟨trivial, rfl⟩
  | [], [], k + 1, h => by
    obtain ⟨h1, h2⟩ := start_ok (cs := []) (vs := []) k rfl
    rw [List.replicate_succ]
    exact ⟨h1, h2⟩
  | c :: cs, v :: vs, k, h => by
    obtain ⟨h1, h2⟩ := start_ok (cs := cs) (vs := vs) k (by simpa using h)
    exact ⟨h1, congrArg (fun z => (c, v) :: z) h2⟩
  | [], _ :: _, _, h => by cases h
  | _ :: _, [], _, h => by cases h
theorem outs_ok : ∀ {ρ : En} {σ : L2.St} {vs : List V} {fl : List Bool}, EnOk ρ σ → (∀ (i : Nat) (v : V), fl[i]? = some true → vs[i]? = some v → σ[i]? = some (some v)) → ∃ M, (eL ρ σ).Perm (backs (outsOf fl ρ) vs ++ M)
  | [], [], vs, fl, _, _ => ⟨[], by cases fl <;> exact .refl _⟩
  | ρ, σ, [], fl, _, _ => ⟨eL ρ σ, by rw [backs_nil]; exact .refl _⟩
  | ρ, σ, _ :: _, [], _, _ => ⟨eL ρ σ, .refl _⟩
  | some c :: ρ, some w :: σ, v :: vs, b :: fl, ok, h => by
    obtain ⟨M, p⟩ := outs_ok (ρ := ρ) (σ := σ) (vs := vs) (fl := fl) ok fun i v' h1 h2 => by
      have := h (i + 1) v' (by rw [List.getElem?_cons_succ]; exact h1) (by rw [List.getElem?_cons_succ]; exact h2)
      simpa using this
    cases b with
    | true =>
      have e := h 0 v rfl rfl
      simp only [List.getElem?_cons_zero, Option.some.injEq] at e
      subst e
      exact ⟨M, List.Perm.cons _ p⟩
    | false => exact ⟨(c, w) :: M, (List.Perm.cons _ p).trans (mid _ _ _).symm⟩
  | none :: ρ, x :: σ, v :: vs, b :: fl, ok, h => by
    obtain ⟨M, p⟩ := outs_ok (ρ := ρ) (σ := σ) (vs := vs) (fl := fl) ok fun i v' h1 h2 => by
      have := h (i + 1) v' (by rw [List.getElem?_cons_succ]; exact h1) (by rw [List.getElem?_cons_succ]; exact h2)
      simpa using this
    cases b <;> exact ⟨M, p⟩
  | some _ :: _, none :: _, _, _, h, _ => h.elim
  | some _ :: _, [], _, _, h, _ => h.elim
  | none :: _, [], _, _, h, _ => h.elim
  | [], _ :: _, _, _, h, _ => h.elim
theorem start_get {N : List Str} {vs : List V} {i : Nat} {v : V} (h : vs[i]? = some v) : (L2.start N vs)[i]? = some (some v) := by
  unfold L2.start
  obtain ⟨hi, e⟩ := List.getElem?_eq_some_iff.mp h
  rw [List.getElem?_append_left (by rw [List.length_map]; exact hi), List.getElem?_map, h]
  rfl
section
variable {P : Program} {w : World} {K : PySem.W.Frag} {mg : Str → Option Value} {base : Heap}
theorem def_ok {x qual : Str} {st : Stmt} {f : Addr} {fd : FuncData} {N ps : List Str} {k np : Nat} {G : Gd} {fl : List Bool} {Pk : List Nat} {g : FS} {m : Mr} (F : Fun K x qual st f fd) (S : FnScope N ps (defScope st)) (hnp : ps.length = np) (hfl : ∀ i, fl[i]? = some true → i ∈ Pk) (hN : np ≤ N.length)
    (hbody : ∀ (cdv : Value) (A : Around) (outer : List Env) (s : Shared) (H : Hp) (E : XK), Room k (A.deeper (PyProof.Rows.envOfC qual (defScope st) s.heap.objs.size f cdv)) →
      XSs G (fun _ : Unit => cxOf (L2.CX P w) P w K mg base N qual (defScope st) f cdv A outer s H E) (fun cls d _ H => E cls d H) Pk (defBody st) g)
    (hm : ∀ cs o, m cs = some o → ∃ n out, g n (startR N.length cs) = some out ∧ fin fl out = some o) : FnOk P w K mg base (L2.CX P w) (k + 1) f fd ps (spM G np m) := by
  refine F.okX S (fun vs H Q E h => by rw [hnp]; exact h.1) fun cdv A outer s H vs Q E hr h => ?_
  obtain ⟨lv, cs, F0, L, o, lc, hh, q, hP⟩ := h
  obtain ⟨t, h1, h2⟩ := hbody cdv A outer s H E hr
  obtain ⟨n, out, e1, e2⟩ := hm cs o q
  refine ⟨t, h1 (), h2 n _ out e1 F0 H _ L _ ?_ ?_⟩
  · obtain ⟨a1, a2⟩ := start_ok (cs := cs) (vs := vs) (N.length - cs.length) (lc.trans lv.symm)
    unfold startR
    have e3 : L2.start N vs = vs.map some ++ List.replicate (N.length - cs.length) none := by unfold L2.start; rw [lc, lv]
    rw [e3]
    exact ⟨by rw [a2]; exact hh, a1⟩
  · have key : ∀ {F' H' : Hp} {ρ' : En} {σ' : L2.St} {T' : List (Cl × V)}, G.R F' H' ρ' σ' T' → Kp Pk (L2.start N vs) σ' → G.HR F' H' (backs (outsOf fl ρ') vs ++ T') := fun {F' H' ρ' σ' T'} R' kp => by
      obtain ⟨M, p⟩ := outs_ok (vs := vs) (fl := fl) R'.ok fun i v h3 h4 => by rw [kp i (hfl i h3)]; exact start_get h4
      refine ((R'.hr.perm (List.Perm.append_right T' p)).perm (L' := (backs (outsOf fl ρ') vs ++ T') ++ M) ?_).left
      rw [List.append_assoc, List.append_assoc]
      exact List.Perm.append_left _ List.perm_append_comm
    cases out with
    | nx ρ' =>
      cases e2
      intro F' H' σ' s' R' kp
      exact hP F' H' .non s' ((key R' kp).push .non)
    | rt c ρ' =>
      cases e2
      intro F' H' σ' v s' R' kp
      exact hP F' H' v s' ((key R' kp).perm (mid _ _ _))
    | ex x ρ' =>
      cases e2
      intro F' H' σ' cls d s' R' kp xr
      exact hP F' H' cls d s' (key R' kp) xr
    | bk ρ' => cases e2
    | ct ρ' => cases e2
end
end L3

namespace L3
open PySem PySem.Spec L2

/-! ### reading cells -/
section
variable {G : Gd} {F H : Hp} {c : Cl} {v : V} {A : List Addr}
theorem RpK.of {K : PySem.W.Frag} {F : Hp} : ∀ {kvs : List (Key × V)} {es : List (Key × D)}, RpKs K F kvs es → RpK K F kvs (es.map fun p => (kD p.1, p.2))
  | _, _, .nil => .nil
  | _, _, .cons h r => .cons h (RpK.of r)
theorem CR.rp {d : D} (s : Same F H) (h : G.CR F H c v A) (e : c.data = some d) : Rp G.K H v d := by
  cases h with
  | fz r => cases e; exact r.mono s
  | lst h1 h2 r => cases e; exact .lst (.inl (.inl h1)) (r.mono s)
  | dct h1 h2 r => cases e; exact .dct h1 (RpK.of (r.mono s))
  | dtt h1 h2 r => cases e
  | dlk h1 r => cases e
  | bx _ _ _ _ _ _ => cases e
  | ins hc h1 h2 h3 r => cases e
theorem CR.rpF {d : D} (h : G.CR F H c v A) (e : c = .fz d) : Rp G.K F v d := by
  subst e
  cases h with
  | fz r => exact r
theorem CR.seqL {ds : List D} (s : Same F H) (h : G.CR F H c v A) (e : c.data = some (.list ds)) : ∃ a vs, v = .ref a ∧ SqL G.K H a vs ∧ RpA G.K F vs ds := by
  cases h with
  | fz r =>
    cases e
    cases r with
    | lst h1 r => exact ⟨_, _, rfl, s.seq h1, r⟩
  | lst h1 h2 r => cases e; exact ⟨_, _, rfl, .inl (.inl h1), r⟩
  | dct h1 h2 r => cases e
  | dtt h1 h2 r => cases e
  | dlk h1 r => cases e
  | bx _ _ _ _ _ _ => cases e
  | ins hc h1 h2 h3 r => cases e
theorem CR.seqT {ds : List D} (s : Same F H) (h : G.CR F H c v A) (e : c.data = some (.tuple ds)) : ∃ a vs, v = .ref a ∧ SqT G.K F a vs ∧ RpA G.K F vs ds := by
  cases h with
  | fz r =>
    cases e
    cases r with
    | tup h1 r => exact ⟨_, _, rfl, h1, r⟩
  | lst h1 h2 r => cases e
  | dct h1 h2 r => cases e
  | dtt h1 h2 r => cases e
  | dlk h1 r => cases e
  | bx _ _ _ _ _ _ => cases e
  | ins hc h1 h2 h3 r => cases e
end
section
variable {G : Gd} {F H : Hp} {cs : List Cl} {vs : List V} {L : List (Cl × V)}
theorem crs2 {c1 c2 : Cl} (h : CRs G F H [c1, c2] vs) : ∃ v1 v2 A1 A2, vs = [v1, v2] ∧ G.CR F H c1 v1 A1 ∧ G.CR F H c2 v2 A2 := by
  cases h with
  | cons h1 r =>
    cases r with
    | cons h2 r =>
      cases r
      obtain ⟨A1, h1⟩ := h1
      obtain ⟨A2, h2⟩ := h2
      exact ⟨_, _, A1, A2, rfl, h1, h2⟩
theorem crs1 {c1 : Cl} (h : CRs G F H [c1] vs) : ∃ v1 A1, vs = [v1] ∧ G.CR F H c1 v1 A1 := by
  cases h with
  | cons h1 r =>
    cases r
    obtain ⟨A1, h1⟩ := h1
    exact ⟨_, A1, rfl, h1⟩
theorem cr_int {i : Int} {v : V} {A : List Addr} (h : G.CR F H (.fz (.int i)) v A) : v = .int i := by
  cases h with
  | fz r => cases r; rfl
theorem cr_str {i : Str} {v : V} {A : List Addr} (h : G.CR F H (.fz (.str i)) v A) : v = .str i := by
  cases h with
  | fz r => cases r; rfl
theorem cr_bool {i : Bool} {v : V} {A : List Addr} (h : G.CR F H (.fz (.bool i)) v A) : v = .bl i := by
  cases h with
  | fz r => cases r; rfl
theorem HR.tupN {p : Addr} {ws : List V} {ds : List D} (hr : G.HR F H L) (hp : H p = none) (r : RpA G.K F ws ds) : ∃ F', Same F F' ∧ G.HR F' (upd H p (.tup ws)) ((.fz (.tuple ds), .ref p) :: L) := by
  obtain ⟨s, q⟩ := hr.newF (o := .tup ws) hp
  exact ⟨_, s, q.push (.tup (.inl (.inl upd_same)) (r.mono s))⟩
theorem HR.lstN {p : Addr} {ws : List V} {ds : List D} (hr : G.HR F H L) (hp : H p = none) (r : RpA G.K F ws ds) : G.HR F (upd H p (.lst ws)) ((.lst ds, .ref p) :: L) :=
  hr.newO hp (.lst upd_same (hr.sub.free hp) r)
end

/-! ### + -/
def lsz (n : Nat) : Bool := decide (n ≤ 10000000)
theorem lsz_ok {n : Nat} (h : lsz n = true) : n ≤ sizeLine := by
  have := of_decide_eq_true h
  rw [sizeLine_eq]; omega
section
variable {X : Cx}
theorem op_catT0 : OpR X (binaryOp .Add) (fun x y H Q => ∃ a b ys, x = .ref a ∧ y = .ref b ∧ SqT X.K H a [] ∧ SqT X.K H b ys ∧ Q (.ref b) H) := by
  intro pins s σ H x y v u Q I rx ry h
  obtain ⟨a, b, ys, rfl, rfl, ha, hb, q⟩ := h
  cases rx
  cases ry
  obtain ⟨its, r1, p1, _⟩ := I.tuple ha
  obtain ⟨its2, r2, p2, _⟩ := I.tuple hb
  cases r1
  obtain ⟨⟨cls, dd, data, sl⟩, ho, hc, n, hd⟩ := id p1
  obtain ⟨⟨cls2, dd2, data2, sl2⟩, ho2, hc2, n2, hd2⟩ := id p2
  simp only at hc hd hc2 hd2
  subst hc hd hc2 hd2
  exact concat_meets ⟨_, ho, rfl⟩ ⟨_, ho2, rfl⟩ noFill_tuple_add seq_tuple_add PySem.F.slot_tuple_add PySem.F.entry_tuple_add (PySem.F.args_tuple_add_2 _ _)
    (PyProof.Rows.tuple_addW0 a b [].toArray its2.toArray n n2 dd dd2 sl sl2 rfl) ⟨ho, ho2, ⟨.ref b, H, I, rfl, q⟩⟩
end
def rAddA (K : PySem.W.Frag) : R2 := fun x y H Q => (rI0 (fun i j => .int (i + j)) x y H Q) ∨ ((fun x y H Q => ∃ i j, x = .str i ∧ y = .str j ∧ i.length + j.length ≤ sizeLine ∧ Q (.str (i ++ j)) H) : R2) x y H Q ∨ rCat x y H Q ∨ rCatT K x y H Q ∨
  ((fun x y H Q => ∃ a b ys, x = .ref a ∧ y = .ref b ∧ SqT K H a [] ∧ SqT K H b ys ∧ Q (.ref b) H) : R2) x y H Q
theorem op_addA {X : Cx} : OpR X (binaryOp .Add) (rAddA X.K) := op_add.or (op_add_str.or (op_cat.or (op_catT.or op_catT0)))
def gAdd : List Cl → Option Cl
  | [.fz (.int i), .fz (.int j)] => some (.fz (.int (i + j)))
  | [.fz (.str i), .fz (.str j)] => if lsz (i.length + j.length) = true then some (.fz (.str (i ++ j))) else none
  | [.lst xs, .lst ys] => if lsz (xs.length + ys.length) = true then some (.lst (xs ++ ys)) else none
  | [.fz (.tuple xs), .fz (.tuple ys)] => if lsz (xs.length + ys.length) = true then some (.fz (.tuple (xs ++ ys))) else none
  | _ => none
theorem prm_add {G : Gd} : Prm G (l2 (rAddA G.K)) gAdd := fun F H L cs vs c Q hr hc e hQ => by
  unfold gAdd at e
  split at e
  · obtain ⟨v1, v2, A1, A2, rfl, h1, h2⟩ := crs2 hc
    cases cr_int h1; cases cr_int h2; cases e
    exact .inl ⟨_, _, rfl, rfl, hQ F H _ (Same.refl _) (hr.push (.int _))⟩
  · obtain ⟨v1, v2, A1, A2, rfl, h1, h2⟩ := crs2 hc
    cases cr_str h1; cases cr_str h2
    split at e
    · rename_i hz
      cases e
      exact .inr (.inl ⟨_, _, rfl, rfl, lsz_ok hz, hQ F H _ (Same.refl _) (hr.push (.str _))⟩)
    · cases e
  · obtain ⟨v1, v2, A1, A2, rfl, h1, h2⟩ := crs2 hc
    split at e
    · rename_i hz
      cases e
      cases h1 with
      | lst a1 a2 a3 =>
        cases h2 with
        | lst b1 b2 b3 =>
          exact .inr (.inr (.inl ⟨_, _, _, _, rfl, rfl, a1, b1, by rw [a3.length, b3.length]; exact lsz_ok hz, fun p hp => hQ F _ _ (Same.refl _) (HR.lstN hr hp (a3.append b3))⟩))
    · cases e
  · rename_i xs ys
    obtain ⟨v1, v2, A1, A2, rfl, h1, h2⟩ := crs2 hc
    split at e
    · rename_i hz
      cases e
      obtain ⟨a, ws, rfl, q1, r1⟩ := h1.seqT hr.sub rfl
      obtain ⟨b, us, rfl, q2, r2⟩ := h2.seqT hr.sub rfl
      have r2' := h2.rpF rfl
      have r1' := h1.rpF rfl
      cases xs with
      | nil =>
        cases r1
        exact .inr (.inr (.inr (.inr ⟨_, _, _, rfl, rfl, sameT hr.sub q1, sameT hr.sub q2, hQ F H _ (Same.refl _) (hr.push r2')⟩)))
      | cons x xs =>
        refine .inr (.inr (.inr (.inl ⟨_, _, _, _, rfl, rfl, sameT hr.sub q1, sameT hr.sub q2, ?_, by rw [r1.length, r2.length]; exact lsz_ok hz, fun ez => ?_, fun _ p hp => ?_⟩)))
        · cases r1; exact fun z => nomatch z
        · subst ez
          cases r2
          rw [List.append_nil] at hQ
          exact hQ F H _ (Same.refl _) (hr.push r1')
        · obtain ⟨F', s, q⟩ := HR.tupN hr hp (r1.append r2)
          exact hQ F' _ _ s q
    · cases e
  · cases e
/-! ### - * // % -/
def gSub : List Cl → Option Cl
  | [.fz (.int i), .fz (.int j)] => some (.fz (.int (i - j)))
  | _ => none
theorem prm_sub {G : Gd} : Prm G (l2 (rI0 fun i j => .int (i - j))) gSub := fun F H L cs vs c Q hr hc e hQ => by
  unfold gSub at e
  split at e
  · obtain ⟨v1, v2, A1, A2, rfl, h1, h2⟩ := crs2 hc
    cases cr_int h1; cases cr_int h2; cases e
    exact ⟨_, _, rfl, rfl, hQ F H _ (Same.refl _) (hr.push (.int _))⟩
  · cases e
def mulBad (i j : Int) : Bool := decide (Builtin.Int.intBits i > shortFactorBits) && decide (Builtin.Int.intBits j > shortFactorBits) && Builtin.Int.intTooBig (Builtin.Int.intBits i + Builtin.Int.intBits j)
def CMulB (i j : Int) : Prop := mulBad i j = false
theorem op_mulB {X : Cx} : OpR X (binaryOp .Mult) (rI CMulB fun i j => .int (i * j)) := opI fun i j _ _ _ _ _ hc q => PyProof.Rows.mul_int q (by
  unfold IntMulOk
  have h : mulBad i j = false := hc
  unfold mulBad at h
  rw [h]
  exact Bool.false_ne_true)
/-- a tuple times an int that is no index too far: itself where it is empty or the int is 1, the empty tuple where the int is not positive -/
theorem tuple_mulB (l : Addr) (items : Array Value) (n : Nat) (dd : Option Addr) (sl : Array (Option Value)) (x : Int) (u : Tok) (far : (decide (x < -(2 ^ 63)) || decide (x ≥ 2 ^ 63)) = false) (neg : (items.isEmpty || x == 1) = false → x ≤ 0) :
    Meets (Builtin.«tuple.__mul__» ⟨[.ref l, .int x u], []⟩) (fun _ R s => s.heap.get? l = some { cls := .type "tuple", dict := dd, data := .seq items n, slots := sl } ∧
      if (items.isEmpty || x == 1) = true then R (.ok (.ret (.ref l))) s else R (.ok (.ret (.ref s.heap.objs.size))) { s with heap := s.heap.push { cls := .type "tuple", data := .seq #[] } }) :=
  .of_wp fun prog w A R s got => by
    have at_ := got.1
    have post := got.2
    have idx := AutoSeq1.idx_int
    have no : ∀ {b : Bool}, b = false → decide (b = true) = false := fun e => by rw [e]; rfl
    wp_walk using AutoSeq1.wpAny_loadPart' at_
    refine wpAny_ite_false (no far) ?_
    wp_walk using AutoSeq1.wpAny_loadPart' at_
    cases same : (items.isEmpty || x == 1) with
    | true =>
      rw [if_pos same] at post
      refine wpAny_ite_true (decide_eq_true rfl) ?_
      wp_walk using AutoSeq1.wpAny_loadPart' at_
      exact ⟨_, rfl, post⟩
    | false =>
      have low := neg same
      rw [if_neg (by rw [same]; exact Bool.false_ne_true)] at post
      refine wpAny_ite_false rfl ?_
      wp_walk using AutoSeq1.wpAny_loadPart' at_
      exact ⟨_, rfl, post⟩
theorem tuple_mulS (l : Addr) (items : Array Value) (n : Nat) (dd : Option Addr) (sl : Array (Option Value)) (x : Int) (u : Tok) (c0 : (decide (x < -(2 ^ 63)) || decide (x ≥ 2 ^ 63)) = false) (c1 : (items.isEmpty || x == 1) = true) :
    Meets (Builtin.«tuple.__mul__» ⟨[.ref l, .int x u], []⟩) (fun _ R s => s.heap.get? l = some { cls := .type "tuple", dict := dd, data := .seq items n, slots := sl } ∧ R (.ok (.ret (Value.ref l))) s) :=
  (tuple_mulB l items n dd sl x u c0 (by rw [c1]; exact nofun)).of_imp fun _ _ _ q => ⟨q.1, by rw [if_pos c1]; exact q.2⟩
theorem tuple_mul0 (l : Addr) (items : Array Value) (n : Nat) (dd : Option Addr) (sl : Array (Option Value)) (x : Int) (u : Tok) (c0 : (decide (x < -(2 ^ 63)) || decide (x ≥ 2 ^ 63)) = false) (c1 : (items.isEmpty || x == 1) = false) (c2 : x ≤ 0) :
    Meets (Builtin.«tuple.__mul__» ⟨[.ref l, .int x u], []⟩) (fun _ R s => s.heap.get? l = some { cls := .type "tuple", dict := dd, data := .seq items n, slots := sl } ∧
      R (.ok (.ret (Value.ref s.heap.objs.size))) { s with heap := s.heap.push { cls := Value.type "tuple", data := Data.seq #[] }, toks := s.toks }) :=
  (tuple_mulB l items n dd sl x u c0 fun _ => c2).of_imp fun _ _ _ q => ⟨q.1, by rw [if_neg (by rw [c1]; exact Bool.false_ne_true)]; exact q.2⟩

section
variable {X : Cx}
theorem c0_of {k : Int} (h1 : -(2 ^ 63) ≤ k) (h2 : k < 2 ^ 63) : (decide (k < -(2 ^ 63)) || decide (k ≥ 2 ^ 63)) = false := by
  rw [decide_eq_false (by omega), decide_eq_false (by omega)] <;> rfl
theorem op_repTS : OpR X (binaryOp .Mult) (fun x y H Q => ∃ l k xs, x = .ref l ∧ y = .int k ∧ SqT X.K H l xs ∧ (xs.isEmpty || k == 1) = true ∧ -(2 ^ 63) ≤ k ∧ k < 2 ^ 63 ∧ Q (.ref l) H) := by
  intro pins s σ H x y v u Q I rx ry h
  obtain ⟨l, k, xs, rfl, rfl, hT, hne, h1, h2, q⟩ := h
  cases rx
  obtain ⟨t, rfl⟩ := ry
  obtain ⟨its, r, ⟨⟨cls, dd, data, sl⟩, ho, hc, n, hd⟩, hs⟩ := I.tuple hT
  simp only at hc hd
  subst hc hd
  have e1 : (its.toArray.isEmpty || k == 1) = true := by
    have : its.toArray.isEmpty = xs.isEmpty := by cases r <;> simp
    rw [this]; exact hne
  exact wpAny_binaryOp_repeat_ref (T := "tuple") (U := "int") (by decide) ⟨_, ho, rfl⟩ (fun s' => typeIs_int s' k t) noFill_tuple_mul PySem.F.fills_int_mul PySem.F.slot_int_rmul repeat_tuple PySem.F.slot_int_index.lookup
    (call_meets PySem.F.slot_int_rmul (typeIs_int s k t) PySem.F.entry_int_rmul (PySem.F.args_int_rmul_2 _ _) (int_rmul_tuple k t l its.toArray n dd sl)
      ⟨ho, rfl, ⟨_, ho, rfl⟩, call_meets PySem.F.slot_tuple_mul ⟨_, ho, rfl⟩ PySem.F.entry_tuple_mul (PySem.F.args_tuple_mul_2 _ _) (tuple_mulS l its.toArray n dd sl k t (c0_of h1 h2) e1) ⟨ho, ⟨.ref l, H, I, rfl, q⟩⟩⟩)
theorem op_repT0 : OpR X (binaryOp .Mult) (fun x y H Q => ∃ l k xs, x = .ref l ∧ y = .int k ∧ SqT X.K H l xs ∧ xs ≠ [] ∧ -(2 ^ 63) ≤ k ∧ k ≤ 0 ∧ ∀ p, H p = none → Q (.ref p) (upd H p (.tup []))) := by
  intro pins s σ H x y v u Q I rx ry h
  obtain ⟨l, k, xs, rfl, rfl, hT, hne, h1, h2, q⟩ := h
  cases rx
  obtain ⟨t, rfl⟩ := ry
  obtain ⟨its, r, ⟨⟨cls, dd, data, sl⟩, ho, hc, n, hd⟩, hs⟩ := I.tuple hT
  simp only at hc hd
  subst hc hd
  have e0 : its.toArray.isEmpty = false := by
    cases r with
    | nil => exact absurd rfl hne
    | cons _ _ => rfl
  have e1 : (its.toArray.isEmpty || k == 1) = false := by
    rw [e0, Bool.false_or]
    exact beq_eq_false_iff_ne.mpr (by omega)
  refine wpAny_binaryOp_repeat_ref (T := "tuple") (U := "int") (by decide) ⟨_, ho, rfl⟩ (fun s' => typeIs_int s' k t) noFill_tuple_mul PySem.F.fills_int_mul PySem.F.slot_int_rmul repeat_tuple PySem.F.slot_int_index.lookup
    (call_meets PySem.F.slot_int_rmul (typeIs_int s k t) PySem.F.entry_int_rmul (PySem.F.args_int_rmul_2 _ _) (int_rmul_tuple k t l its.toArray n dd sl)
      ⟨ho, rfl, ⟨_, ho, rfl⟩, call_meets PySem.F.slot_tuple_mul ⟨_, ho, rfl⟩ PySem.F.entry_tuple_mul (PySem.F.args_tuple_mul_2 _ _) (tuple_mul0 l its.toArray n dd sl k t (c0_of h1 (by omega)) e1 h2) ⟨ho, ?_⟩⟩)
  exact ⟨.ref s.heap.objs.size, _, I.laid (t' := s.toks) (o := .tup []) (fun b ob q => Heap.get?_push_of_some _ q) (Nat.le_refl _) ⟨Nat.zero_le _, [], .nil, PyProof.Rows.IsTup.new s.heap _⟩, rfl, q _ (I.hok.fresh (Nat.le_refl _))⟩
end
def rMulA (K : PySem.W.Frag) : R2 := fun x y H Q => (rI CMulB (fun i j => .int (i * j)) x y H Q) ∨ rRep x y H Q ∨ rRepT K x y H Q ∨
  ((fun x y H Q => ∃ l k xs, x = .ref l ∧ y = .int k ∧ SqT K H l xs ∧ (xs.isEmpty || k == 1) = true ∧ -(2 ^ 63) ≤ k ∧ k < 2 ^ 63 ∧ Q (.ref l) H) : R2) x y H Q ∨
  ((fun x y H Q => ∃ l k xs, x = .ref l ∧ y = .int k ∧ SqT K H l xs ∧ xs ≠ [] ∧ -(2 ^ 63) ≤ k ∧ k ≤ 0 ∧ ∀ p, H p = none → Q (.ref p) (upd H p (.tup []))) : R2) x y H Q
theorem op_mulA {X : Cx} : OpR X (binaryOp .Mult) (rMulA X.K) := op_mulB.or (op_rep.or (op_repT.or (op_repTS.or op_repT0)))
def gMul : List Cl → Option Cl
  | [.fz (.int i), .fz (.int j)] => if mulBad i j = true then none else some (.fz (.int (i * j)))
  | [.lst xs, .fz (.int k)] => if (Nat.ble k.natAbs 10000000 && lsz (xs.length * k.toNat)) = true then some (.lst (List.replicate k.toNat xs).flatten) else none
  | [.fz (.tuple xs), .fz (.int k)] => if (Nat.ble k.natAbs 1000 && Nat.ble xs.length 1000) = true then some (.fz (.tuple (List.replicate k.toNat xs).flatten)) else none
  | _ => none
theorem prm_mul {G : Gd} : Prm G (l2 (rMulA G.K)) gMul := fun F H L cs vs c Q hr hc e hQ => by
  unfold gMul at e
  split at e
  · obtain ⟨v1, v2, A1, A2, rfl, h1, h2⟩ := crs2 hc
    cases cr_int h1; cases cr_int h2
    split at e
    · cases e
    · rename_i hz
      cases e
      exact .inl ⟨_, _, rfl, rfl, by unfold CMulB; simpa using hz, hQ F H _ (Same.refl _) (hr.push (.int _))⟩
  · rename_i xs k
    obtain ⟨v1, v2, A1, A2, rfl, h1, h2⟩ := crs2 hc
    cases cr_int h2
    split at e
    · rename_i hz
      cases e
      rw [Bool.and_eq_true] at hz
      have hk : k.natAbs ≤ 10000000 := Nat.le_of_ble_eq_true hz.1
      cases h1 with
      | lst a1 a2 a3 =>
        exact .inr (.inl ⟨_, _, _, rfl, rfl, a1, by omega, by omega, by rw [a3.length]; exact lsz_ok hz.2, fun p hp => hQ F _ _ (Same.refl _) (HR.lstN hr hp (a3.rep _))⟩)
    · cases e
  · rename_i xs k
    obtain ⟨v1, v2, A1, A2, rfl, h1, h2⟩ := crs2 hc
    cases cr_int h2
    split at e
    · rename_i hz
      cases e
      rw [Bool.and_eq_true] at hz
      have hk : k.natAbs ≤ 1000 := Nat.le_of_ble_eq_true hz.1
      have k1 : -1000 ≤ k := by omega
      have k2 : k ≤ 1000 := by omega
      have k3 : xs.length ≤ 1000 := Nat.le_of_ble_eq_true hz.2
      obtain ⟨a, ws, rfl, q1, r1⟩ := h1.seqT hr.sub rfl
      have rp := h1.rpF rfl
      have lw := r1.length
      by_cases hb : (ws.isEmpty || k == 1) = true
      · refine .inr (.inr (.inr (.inl ⟨_, _, _, rfl, rfl, sameT hr.sub q1, hb, by omega, by omega, ?_⟩)))
        have ex : (List.replicate k.toNat xs).flatten = xs := by
          rcases Bool.or_eq_true_iff.mp hb with z | z
          · cases r1 with
            | nil => simp
            | cons _ _ => cases z
          · have z' : k = 1 := by simpa using z
            subst z'
            simp
        rw [ex] at hQ
        exact hQ F H _ (Same.refl _) (hr.push rp)
      · have hb' : ws ≠ [] ∧ k ≠ 1 := by
          constructor
          · intro z; rw [z] at hb; exact hb rfl
          · intro z; rw [z] at hb; exact hb (by simp)
        by_cases hk : k ≤ 0
        · refine .inr (.inr (.inr (.inr ⟨_, _, _, rfl, rfl, sameT hr.sub q1, hb'.1, by omega, hk, fun p hp => ?_⟩)))
          have ek : k.toNat = 0 := by omega
          rw [ek] at hQ
          obtain ⟨F', s, q⟩ := HR.tupN hr hp (.nil)
          exact hQ F' _ _ s q
        · refine .inr (.inr (.inl ⟨_, _, _, rfl, rfl, sameT hr.sub q1, hb'.1, by omega, k2, by omega, fun p hp => ?_⟩))
          obtain ⟨F', s, q⟩ := HR.tupN hr hp (r1.rep k.toNat)
          exact hQ F' _ _ s q
    · cases e
  · cases e
def CDivB (i j : Int) : Prop := j ≠ 0 ∧ Builtin.divisionGoesByPylong i j = false
theorem op_fdivB {X : Cx} : OpR X (binaryOp .FloorDiv) (rI CDivB fun i j => .int (i.fdiv j)) := opI fun i j _ _ _ _ _ hc q => PyProof.Rows.floordiv_int hc.1 q (.inl hc.2)
def gFdiv : List Cl → Option Cl
  | [.fz (.int i), .fz (.int j)] => if (decide (j ≠ 0) && !Builtin.divisionGoesByPylong i j) = true then some (.fz (.int (i.fdiv j))) else none
  | _ => none
theorem prm_fdiv {G : Gd} : Prm G (l2 (rI CDivB fun i j => .int (i.fdiv j))) gFdiv := fun F H L cs vs c Q hr hc e hQ => by
  unfold gFdiv at e
  split at e
  · obtain ⟨v1, v2, A1, A2, rfl, h1, h2⟩ := crs2 hc
    cases cr_int h1; cases cr_int h2
    split at e
    · rename_i hz
      cases e
      rw [Bool.and_eq_true] at hz
      exact ⟨_, _, rfl, rfl, ⟨of_decide_eq_true hz.1, by simpa using hz.2⟩, hQ F H _ (Same.refl _) (hr.push (.int _))⟩
    · cases e
  · cases e
def gMod : List Cl → Option Cl
  | [.fz (.int i), .fz (.int j)] => if j = 0 then none else some (.fz (.int (i.fmod j)))
  | _ => none
theorem prm_mod {G : Gd} : Prm G (l2 (rI (fun _ j => j ≠ 0) fun i j => .int (i.fmod j))) gMod := fun F H L cs vs c Q hr hc e hQ => by
  unfold gMod at e
  split at e
  · obtain ⟨v1, v2, A1, A2, rfl, h1, h2⟩ := crs2 hc
    cases cr_int h1; cases cr_int h2
    split at e
    · cases e
    · rename_i hz
      cases e
      exact ⟨_, _, rfl, rfl, hz, hQ F H _ (Same.refl _) (hr.push (.int _))⟩
  · cases e
def gPow : List Cl → Option Cl
  | [.fz (.int i), .fz (.int j)] => if (decide (0 ≤ j) && decide (j ≤ 1000000) && decide (i.natAbs < 2 ^ 64)) = true then some (.fz (.int (i ^ j.toNat))) else none
  | _ => none
theorem prm_pow {G : Gd} : Prm G (l2 (rI CPow fun i j => .int (i ^ j.toNat))) gPow := fun F H L cs vs c Q hr hc e hQ => by
  unfold gPow at e
  split at e
  · obtain ⟨v1, v2, A1, A2, rfl, h1, h2⟩ := crs2 hc
    cases cr_int h1; cases cr_int h2
    split at e
    · rename_i hz
      cases e
      rw [Bool.and_eq_true, Bool.and_eq_true] at hz
      exact ⟨_, _, rfl, rfl, ⟨of_decide_eq_true hz.1.1, of_decide_eq_true hz.1.2, of_decide_eq_true hz.2⟩, hQ F H _ (Same.refl _) (hr.push (.int _))⟩
    · cases e
  · cases e
def gNeg : List Cl → Option Cl
  | [.fz (.int i)] => some (.fz (.int (-i)))
  | _ => none
theorem prm_neg {G : Gd} : Prm G (l1 (rU fun i => .int (-i))) gNeg := fun F H L cs vs c Q hr hc e hQ => by
  unfold gNeg at e
  split at e
  · obtain ⟨v1, A1, rfl, h1⟩ := crs1 hc
    cases cr_int h1
    cases e
    exact ⟨_, rfl, hQ F H _ (Same.refl _) (hr.push (.int _))⟩
  · cases e
/-! ### comparisons -/
def gI (p : Int → Int → Bool) : List Cl → Option Cl
  | [.fz (.int i), .fz (.int j)] => some (.fz (.bool (p i j)))
  | _ => none
theorem prm_i {G : Gd} {p : Int → Int → Bool} : Prm G (l2 (rI0 fun i j => .bl (p i j))) (gI p) := fun F H L cs vs c Q hr hc e hQ => by
  unfold gI at e
  split at e
  · obtain ⟨v1, v2, A1, A2, rfl, h1, h2⟩ := crs2 hc
    cases cr_int h1; cases cr_int h2
    cases e
    exact ⟨_, _, rfl, rfl, hQ F H _ (Same.refl _) (hr.push (.bl _))⟩
  · cases e
abbrev gLt := gI fun i j => decide (i < j)
abbrev gLe := gI fun i j => decide (i ≤ j)
abbrev gGt := gI fun i j => decide (j < i)
abbrev gGe := gI fun i j => decide (j ≤ i)
def gEq : List Cl → Option Cl
  | [a, b] => match a.data, b.data with
    | some d, some e => if (SeqAt.shaped d && SeqAt.shaped e) = true then some (.fz (.bool (PyData.eqv d e))) else none
    | _, _ => none
  | _ => none
def gNe : List Cl → Option Cl
  | [a, b] => match a.data, b.data with
    | some d, some e => if (SeqAt.shaped d && SeqAt.shaped e) = true then some (.fz (.bool (!PyData.eqv d e))) else none
    | _, _ => none
  | _ => none
theorem prm_eq {G : Gd} : Prm G (l2 (rEqD G.K)) gEq := fun F H L cs vs c Q hr hc e hQ => by
  unfold gEq at e
  split at e
  · split at e
    · rename_i d d' q1 q2
      split at e
      · rename_i hz
        rw [Bool.and_eq_true] at hz
        obtain ⟨v1, v2, A1, A2, rfl, h1, h2⟩ := crs2 hc
        cases e
        exact ⟨d, d', (h1.rp hr.sub q1).dp (SeqAt.canLay_of_shaped hz.1), (h2.rp hr.sub q2).dp (SeqAt.canLay_of_shaped hz.2), hz.1, hz.2, hQ F H _ (Same.refl _) (hr.push (.bl _))⟩
      · cases e
    · cases e
  · cases e
theorem prm_ne {G : Gd} : Prm G (l2 (rNeD G.K)) gNe := fun F H L cs vs c Q hr hc e hQ => by
  unfold gNe at e
  split at e
  · split at e
    · rename_i d d' q1 q2
      split at e
      · rename_i hz
        rw [Bool.and_eq_true] at hz
        obtain ⟨v1, v2, A1, A2, rfl, h1, h2⟩ := crs2 hc
        cases e
        exact ⟨d, d', (h1.rp hr.sub q1).dp (SeqAt.canLay_of_shaped hz.1), (h2.rp hr.sub q2).dp (SeqAt.canLay_of_shaped hz.2), hz.1, hz.2, hQ F H _ (Same.refl _) (hr.push (.bl _))⟩
      · cases e
    · cases e
  · cases e
/-! ### is None -/
def isNoD : D → Bool
  | .none => true
  | _ => false
def gIsN : List Cl → Option Cl
  | [.fz d, .fz .none] => some (.fz (.bool (isNoD d)))
  | _ => none
def gNotN : List Cl → Option Cl
  | [.fz d, .fz .none] => some (.fz (.bool (!(isNoD d))))
  | _ => none
theorem rp_non {K : PySem.W.Frag} {F : Hp} {v : V} {d : D} (h : Rp K F v d) : decide (v = .non) = (isNoD d) := by
  cases h <;> rfl
theorem cr_non {G : Gd} {F H : Hp} {v : V} {A : List Addr} (h : G.CR F H (.fz .none) v A) : v = .non := by
  cases h with
  | fz r => cases r; rfl
theorem prm_isN {G : Gd} : Prm G (l2 fun x y H Q => y = .non ∧ Q (.bl (decide (x = .non))) H) gIsN := fun F H L cs vs c Q hr hc e hQ => by
  unfold gIsN at e
  split at e
  · obtain ⟨v1, v2, A1, A2, rfl, h1, h2⟩ := crs2 hc
    cases cr_non h2
    cases e
    refine ⟨rfl, ?_⟩
    rw [rp_non (h1.rpF rfl)]
    exact hQ F H _ (Same.refl _) (hr.push (.bl _))
  · cases e
theorem prm_notN {G : Gd} : Prm G (l2 fun x y H Q => y = .non ∧ Q (.bl (!decide (x = .non))) H) gNotN := fun F H L cs vs c Q hr hc e hQ => by
  unfold gNotN at e
  split at e
  · obtain ⟨v1, v2, A1, A2, rfl, h1, h2⟩ := crs2 hc
    cases cr_non h2
    cases e
    refine ⟨rfl, ?_⟩
    rw [rp_non (h1.rpF rfl)]
    exact hQ F H _ (Same.refl _) (hr.push (.bl _))
  · cases e
/-! ### subscripts -/
def gIx : List Cl → Option Cl
  | [c, .fz (.int i)] => match c.data with
    | some (.list ds) => (atI ds i).map .fz
    | some (.tuple ds) => (atI ds i).map .fz
    | some (.str z) => if z.length ≤ 10000000 then (atI z.cps.toList i).map fun c => .fz (.str ⟨#[c]⟩) else none
    | _ => none
  | _ => none
theorem atI_rp {K : PySem.W.Frag} {F : Hp} {vs : List V} {ds : List D} {i : Int} {d : D} (r : RpA K F vs ds) (h : atI ds i = some d) : ∃ v, atI vs i = some v ∧ Rp K F v d := by
  unfold atI at h ⊢
  rw [r.length]
  cases q : ixN ds.length i with
  | none => rw [q] at h; cases h
  | some j =>
    rw [q] at h
    exact r.get h
theorem prm_ix {G : Gd} : Prm G (l2 (rIx G.K)) gIx := fun F H L cs vs c Q hr hc e hQ => by
  unfold gIx at e
  split at e
  · obtain ⟨v1, v2, A1, A2, rfl, h1, h2⟩ := crs2 hc
    cases cr_int h2
    split at e
    · rename_i ds q
      obtain ⟨a, ws, rfl, q1, r1⟩ := h1.seqL hr.sub q
      rename_i i _
      cases q3 : atI ds i with
      | none => rw [q3] at e; cases e
      | some d =>
        rw [q3] at e
        cases e
        obtain ⟨v, q4, r4⟩ := atI_rp r1 q3
        exact .inl ⟨_, _, _, _, rfl, rfl, q1, q4, hQ F H _ (Same.refl _) (hr.push r4)⟩
    · rename_i ds q
      obtain ⟨a, ws, rfl, q1, r1⟩ := h1.seqT hr.sub q
      rename_i i _
      cases q3 : atI ds i with
      | none => rw [q3] at e; cases e
      | some d =>
        rw [q3] at e
        cases e
        obtain ⟨v, q4, r4⟩ := atI_rp r1 q3
        exact .inr (.inl ⟨_, _, _, _, rfl, rfl, sameT hr.sub q1, q4, hQ F H _ (Same.refl _) (hr.push r4)⟩)
    · rename_i z q
      have r := h1.rp hr.sub q
      cases r
      split at e
      · rename_i i hz
        have hz' : z.length ≤ 10000000 := by first | exact hz | exact i
        rename_i i2
        cases q3 : atI z.cps.toList i2 with
        | none => simp [q3] at e
        | some d =>
          simp only [q3, Option.map_some, Option.some.injEq] at e
          subst e
          exact .inr (.inr ⟨_, _, _, rfl, rfl, by rw [sizeLine_eq]; omega, q3, hQ F H _ (Same.refl _) (hr.push (.str _))⟩)
      · cases e
    · cases e
  · cases e
/-! ### built-in functions -/
def gLen : List Cl → Option Cl
  | [c] => match c.data with
    | some (.list ds) => some (.fz (.int ds.length))
    | some (.tuple ds) => some (.fz (.int ds.length))
    | some (.str z) => if z.length ≤ 10000000 then some (.fz (.int z.length)) else none
    | _ => none
  | _ => none
def rLenA (K : PySem.W.Frag) : List V → Hp → VK → Prop := fun xs H Q => (∃ p ys, xs = [.ref p] ∧ (SqL K H p ys ∨ SqT K H p ys) ∧ Q (.int ys.length) H) ∨ (∃ z, xs = [.str z] ∧ z.length ≤ sizeLine ∧ Q (.int z.length) H)
theorem call_lenA {X : Cx} : CallR X (.builtin "len") (rLenA X.K) := call_len_seq.or call_len_str
theorem prm_len {G : Gd} : Prm G (rLenA G.K) gLen := fun F H L cs vs c Q hr hc e hQ => by
  unfold gLen at e
  split at e
  · obtain ⟨v1, A1, rfl, h1⟩ := crs1 hc
    split at e
    · rename_i ds q
      cases e
      obtain ⟨a, ws, rfl, q1, r1⟩ := h1.seqL hr.sub q
      exact .inl ⟨_, _, rfl, .inl q1, by rw [r1.length]; exact hQ F H _ (Same.refl _) (hr.push (.int _))⟩
    · rename_i ds q
      cases e
      obtain ⟨a, ws, rfl, q1, r1⟩ := h1.seqT hr.sub q
      exact .inl ⟨_, _, rfl, .inr (sameT hr.sub q1), by rw [r1.length]; exact hQ F H _ (Same.refl _) (hr.push (.int _))⟩
    · rename_i z q
      have r := h1.rp hr.sub q
      cases r
      split at e
      · rename_i hz
        cases e
        exact .inr ⟨_, rfl, by rw [sizeLine_eq]; omega, hQ F H _ (Same.refl _) (hr.push (.int _))⟩
      · cases e
    · cases e
  · cases e
def gTuple : List Cl → Option Cl
  | [c] => match c.data with
    | some (.list ds) => some (.fz (.tuple ds))
    | some (.tuple ds) => some (.fz (.tuple ds))
    | _ => none
  | _ => none
def rTupA (K : PySem.W.Frag) : List V → Hp → VK → Prop := fun xs H Q => ∃ p ys, xs = [.ref p] ∧ ((SqL K H p ys ∧ ∀ l, H l = none → Q (.ref l) (upd H l (.tup ys))) ∨ (SqT K H p ys ∧ Q (.ref p) H))
theorem prm_tuple {G : Gd} : Prm G (rTupA G.K) gTuple := fun F H L cs vs c Q hr hc e hQ => by
  unfold gTuple at e
  split at e
  · obtain ⟨v1, A1, rfl, h1⟩ := crs1 hc
    split at e
    · rename_i ds q
      cases e
      obtain ⟨a, ws, rfl, q1, r1⟩ := h1.seqL hr.sub q
      refine ⟨_, _, rfl, .inl ⟨q1, fun p hp => ?_⟩⟩
      obtain ⟨F', s, q⟩ := HR.tupN hr hp r1
      exact hQ F' _ _ s q
    · rename_i ds q
      cases e
      obtain ⟨a, ws, rfl, q1, r1⟩ := h1.seqT hr.sub q
      exact ⟨_, _, rfl, .inr ⟨sameT hr.sub q1, hQ F H _ (Same.refl _) (hr.push (.tup q1 r1))⟩⟩
    · cases e
  · cases e
def gList : List Cl → Option Cl
  | [c] => match c.data with
    | some (.list ds) => some (.lst ds)
    | some (.tuple ds) => some (.lst ds)
    | _ => none
  | _ => none
def rListA (K : PySem.W.Frag) : List V → Hp → VK → Prop := fun xs H Q => ∃ p ys, xs = [.ref p] ∧ (SqL K H p ys ∨ SqT K H p ys) ∧ ∀ l, H l = none → Q (.ref l) (upd H l (.lst ys))
theorem prm_list {G : Gd} : Prm G (rListA G.K) gList := fun F H L cs vs c Q hr hc e hQ => by
  unfold gList at e
  split at e
  · obtain ⟨v1, A1, rfl, h1⟩ := crs1 hc
    split at e
    · rename_i ds q
      cases e
      obtain ⟨a, ws, rfl, q1, r1⟩ := h1.seqL hr.sub q
      exact ⟨_, _, rfl, .inl q1, fun p hp => hQ F _ _ (Same.refl _) (HR.lstN hr hp r1)⟩
    · rename_i ds q
      cases e
      obtain ⟨a, ws, rfl, q1, r1⟩ := h1.seqT hr.sub q
      exact ⟨_, _, rfl, .inr (sameT hr.sub q1), fun p hp => hQ F _ _ (Same.refl _) (HR.lstN hr hp r1)⟩
    · cases e
  · cases e
def gAbs : List Cl → Option Cl
  | [.fz (.int i)] => some (.fz (.int (if i < 0 then -i else i)))
  | _ => none
theorem prm_abs {G : Gd} : Prm G (fun xs H Q => ∃ i, xs = [.int i] ∧ Q (.int (if i < 0 then -i else i)) H) gAbs := fun F H L cs vs c Q hr hc e hQ => by
  unfold gAbs at e
  split at e
  · obtain ⟨v1, A1, rfl, h1⟩ := crs1 hc
    cases cr_int h1
    cases e
    exact ⟨_, rfl, hQ F H _ (Same.refl _) (hr.push (.int _))⟩
  · cases e
def gMax2 : List Cl → Option Cl
  | [.fz (.int i), .fz (.int j)] => some (.fz (.int (if j > i then j else i)))
  | _ => none
def gMin2 : List Cl → Option Cl
  | [.fz (.int i), .fz (.int j)] => some (.fz (.int (if j < i then j else i)))
  | _ => none
theorem prm_max2 {G : Gd} : Prm G (fun xs H Q => ∃ i j, xs = [.int i, .int j] ∧ Q (.int (if j > i then j else i)) H) gMax2 := fun F H L cs vs c Q hr hc e hQ => by
  unfold gMax2 at e
  split at e
  · obtain ⟨v1, v2, A1, A2, rfl, h1, h2⟩ := crs2 hc
    cases cr_int h1; cases cr_int h2
    cases e
    exact ⟨_, _, rfl, hQ F H _ (Same.refl _) (hr.push (.int _))⟩
  · cases e
theorem prm_min2 {G : Gd} : Prm G (fun xs H Q => ∃ i j, xs = [.int i, .int j] ∧ Q (.int (if j < i then j else i)) H) gMin2 := fun F H L cs vs c Q hr hc e hQ => by
  unfold gMin2 at e
  split at e
  · obtain ⟨v1, v2, A1, A2, rfl, h1, h2⟩ := crs2 hc
    cases cr_int h1; cases cr_int h2
    cases e
    exact ⟨_, _, rfl, hQ F H _ (Same.refl _) (hr.push (.int _))⟩
  · cases e
def gInt : List Cl → Option Cl
  | [.fz (.int i)] => some (.fz (.int i))
  | [.fz (.bool b)] => some (.fz (.int (if b then 1 else 0)))
  | _ => none
theorem prm_int {G : Gd} : Prm G (fun xs H Q => (∃ i, xs = [.int i] ∧ Q (.int i) H) ∨ ∃ k, xs = [.bl k] ∧ Q (.int (if k then 1 else 0)) H) gInt := fun F H L cs vs c Q hr hc e hQ => by
  unfold gInt at e
  split at e
  · obtain ⟨v1, A1, rfl, h1⟩ := crs1 hc
    cases cr_int h1
    cases e
    exact .inl ⟨_, rfl, hQ F H _ (Same.refl _) (hr.push (.int _))⟩
  · obtain ⟨v1, A1, rfl, h1⟩ := crs1 hc
    cases cr_bool h1
    cases e
    exact .inr ⟨_, rfl, hQ F H _ (Same.refl _) (hr.push (.int _))⟩
  · cases e
/-- the ints of a list -/
def intsD : List D → Option (List Int)
  | [] => some []
  | .int i :: ds => match intsD ds with
    | some ns => some (i :: ns)
    | none => none
  | _ :: _ => none
theorem intsD_ok : ∀ {ds : List D} {ns : List Int}, intsD ds = some ns → ds = ns.map PyData.int
  | [], ns, h => by cases h; rfl
  | .int i :: ds, ns, h => by
    unfold intsD at h
    cases q : intsD ds with
    | none => rw [q] at h; cases h
    | some ms =>
      rw [q] at h
      cases h
      rw [intsD_ok q]
      rfl
  | .none :: _, ns, h => by cases h
  | .bool _ :: _, ns, h => by cases h
  | .str _ :: _, ns, h => by cases h
  | .list _ :: _, ns, h => by cases h
  | .tuple _ :: _, ns, h => by cases h
  | .dict _ :: _, ns, h => by cases h
@[simp] theorem intsD_map : ∀ ns : List Int, intsD (ns.map PyData.int) = some ns
  | [] => rfl
  | n :: ns => by
    show (match intsD (ns.map PyData.int) with | some ms => some (n :: ms) | none => none) = _
    rw [intsD_map ns]
def boolsD : List D → Option (List Bool)
  | [] => some []
  | .bool i :: ds => match boolsD ds with
    | some ns => some (i :: ns)
    | none => none
  | _ :: _ => none
theorem boolsD_ok : ∀ {ds : List D} {ns : List Bool}, boolsD ds = some ns → ds = ns.map PyData.bool
  | [], ns, h => by cases h; rfl
  | .bool i :: ds, ns, h => by
    unfold boolsD at h
    cases q : boolsD ds with
    | none => rw [q] at h; cases h
    | some ms =>
      rw [q] at h
      cases h
      rw [boolsD_ok q]
      rfl
  | .none :: _, ns, h => by cases h
  | .int _ :: _, ns, h => by cases h
  | .str _ :: _, ns, h => by cases h
  | .list _ :: _, ns, h => by cases h
  | .tuple _ :: _, ns, h => by cases h
  | .dict _ :: _, ns, h => by cases h
@[simp] theorem boolsD_map : ∀ ns : List Bool, boolsD (ns.map PyData.bool) = some ns
  | [] => rfl
  | n :: ns => by
    show (match boolsD (ns.map PyData.bool) with | some ms => some (n :: ms) | none => none) = _
    rw [boolsD_map ns]
def gSum : List Cl → Option Cl
  | [c] => match c.data with
    | some (.list ds) => (intsD ds).map fun ns => .fz (.int ns.sum)
    | _ => none
  | _ => none
theorem prm_sum {G : Gd} : Prm G (rSum G.K) gSum := fun F H L cs vs c Q hr hc e hQ => by
  unfold gSum at e
  split at e
  · obtain ⟨v1, A1, rfl, h1⟩ := crs1 hc
    split at e
    · rename_i ds q
      obtain ⟨a, ws, rfl, q1, r1⟩ := h1.seqL hr.sub q
      cases q2 : intsD ds with
      | none => rw [q2] at e; cases e
      | some ns =>
        rw [q2] at e
        cases e
        have ed := intsD_ok q2
        subst ed
        have ew := r1.ints
        subst ew
        exact ⟨_, _, rfl, q1, hQ F H _ (Same.refl _) (hr.push (.int _))⟩
    · cases e
  · cases e
def gAll : List Cl → Option Cl
  | [c] => match c.data with
    | some (.list ds) => (boolsD ds).map fun ns => .fz (.bool (ns.all id))
    | _ => none
  | _ => none
def gAny : List Cl → Option Cl
  | [c] => match c.data with
    | some (.list ds) => (boolsD ds).map fun ns => .fz (.bool (ns.any id))
    | _ => none
  | _ => none
theorem prm_all {G : Gd} : Prm G (fun vs H Q => ∃ (a : Addr) (bs : List Bool), vs = [V.ref a] ∧ SqL G.K H a (bs.map V.bl) ∧ Q (.bl (bs.all id)) H) gAll := fun F H L cs vs c Q hr hc e hQ => by
  unfold gAll at e
  split at e
  · obtain ⟨v1, A1, rfl, h1⟩ := crs1 hc
    split at e
    · rename_i ds q
      obtain ⟨a, ws, rfl, q1, r1⟩ := h1.seqL hr.sub q
      cases q2 : boolsD ds with
      | none => rw [q2] at e; cases e
      | some ns =>
        rw [q2] at e
        cases e
        have ed := boolsD_ok q2
        subst ed
        have ew := r1.bools
        subst ew
        exact ⟨_, _, rfl, q1, hQ F H _ (Same.refl _) (hr.push (.bl _))⟩
    · cases e
  · cases e
theorem prm_any {G : Gd} : Prm G (fun vs H Q => ∃ (a : Addr) (bs : List Bool), vs = [V.ref a] ∧ SqL G.K H a (bs.map V.bl) ∧ Q (.bl (bs.any id)) H) gAny := fun F H L cs vs c Q hr hc e hQ => by
  unfold gAny at e
  split at e
  · obtain ⟨v1, A1, rfl, h1⟩ := crs1 hc
    split at e
    · rename_i ds q
      obtain ⟨a, ws, rfl, q1, r1⟩ := h1.seqL hr.sub q
      cases q2 : boolsD ds with
      | none => rw [q2] at e; cases e
      | some ns =>
        rw [q2] at e
        cases e
        have ed := boolsD_ok q2
        subst ed
        have ew := r1.bools
        subst ew
        exact ⟨_, _, rfl, q1, hQ F H _ (Same.refl _) (hr.push (.bl _))⟩
    · cases e
  · cases e
end L3

namespace L3
open PySem PySem.Spec L2

/-! ### error classes -/
/-- what the written part says of the error class at C -/
structure EcK (K : PySem.W.Frag) (C : Addr) : Prop where
  kp : PySem.W.keepIn K (.ref C) = true
  sub : PySem.W.subIn K (.ref C) (.type "BaseException") = some true
  ty : PySem.W.typeIn K (.ref C) = some (.type "type")
  cl : (PySem.W.clsIn K C).isSome = true
  hd : PySem.W.hasDictIn K C = true
  ga : PySem.W.findIn K (.ref C) "__getattribute__" = some (some (.builtin "BaseException.__getattribute__"))
  gg : PySem.W.findIn K (.ref C) "__getattr__" = some none
  ac : PySem.W.findIn K (.ref C) "__class__" = some (some (.builtin "object.__class__"))
  sp : PySem.W.specialIn K (.builtin "object.__class__") "__get__" = some (some (.builtin "getset_descriptor.__get__"))
  tk : PySem.W.takesIn K (.builtin "object.__class__") = some true
  mr : PySem.W.mroIn K C (.type "object") = some true
/-- one without an __init__ of its own -/
structure EcN (K : PySem.W.Frag) (C : Addr) : Prop extends EcK K C where
  ex : PySem.W.excIn K C [.type "ValueError", .type "Exception", .type "BaseException", .type "object"] "ValueError.__new__" = true
section
variable {X : Cx} {C : Addr}
theorem pmk_own0 {x : Str} {p pos : Pos} (T : EcN X.K C) (gC : X.mg x = some (.ref C)) (hg : Gl X x) (hdb : (x == ("__debug__" : Str)) = false) : PMk X (.Call (.Name x p) [] [] pos) (fun _ H Q => Q (.ref C) none H) := by
  intro pins s σ H Q I h
  refine wpAny_Call_Name_kw (ld_glob I hg gC ?_ hdb)
  refine PySem.W.callWith_K0 I.kIn T.kp ?_
  show wpAny _ _ (call (.ref C) []) _ _ _
  obtain ⟨bm, N, nm, qn, bs, hdct, sn, sub, ab, col, dd, k0, k1, k2, k3, k5, mN, hC, hN, hni, T'⟩ := exc_obj I.kIn T.ex
  refine wpAny_call_exc_subT PySem.F.excBase_ValueError T' hC hN hni (fun h' e hm => ?_) (by show 0 ≤ sizeLine; omega)
  exact mk_of I hm (raises_own T.sub T.ty) h (I.hok.gone hm.new)
end
section
variable {ι : Type} {G : Gd} {X : ι → Cx} {W : WX} {P : List Nat} {e : Expr} {es : List Expr} {pos : Pos}
def sRaise (c : Str) : FS := fun _ ρ => some (.ex ⟨c, []⟩ ρ)
theorem xs_raise0 {x : Str} {p p2 : Pos} {C : Addr} (hK : ∀ i, (X i).K = G.K) (hM : ∀ i, (X i).mg = G.mg) (hc : ∀ i, (X i).calm = true) (tk : ∀ i, Takes (X i) W) (T : EcN G.K C) (gC : G.mg x = some (.ref C)) (hg : ∀ i, Gl (X i) x) (hdb : (x == ("__debug__" : Str)) = false) :
    XS G X W P (.Raise (some (.Call (.Name x p) [] [] p2)) none pos) (sRaise x) :=
  ⟨_, fun i => ps_raise (hc i) (tk i) (pmk_own0 (by rw [hK i]; exact T) (by rw [hM i]; exact gC) (hg i) hdb), fun n ρ o eq F H σ T' D hR hP => by
    cases eq
    exact hP F H σ (.ref C) none (Same.refl _) hR (Kp.refl _) ⟨C, gC, rfl, .inl ⟨rfl, rfl⟩⟩⟩
/-- the promise of an __init__ that stores its arguments -/
def mkFs : List Str → List V → List (Str × V)
  | f :: fs, v :: vs => mkFs fs vs ++ [(f, v)]
  | _, _ => []
def mkFsD : List Str → List D → List (Str × D)
  | f :: fs, v :: vs => mkFsD fs vs ++ [(f, v)]
  | _, _ => []
theorem RpKs.append {K : PySem.W.Frag} {F : Hp} {κ : Type} : ∀ {a b : List (κ × V)} {c d : List (κ × D)}, RpKs K F a c → RpKs K F b d → RpKs K F (a ++ b) (c ++ d)
  | _, _, _, _, .nil, h => h
  | _, _, _, _, .cons h r, h' => .cons h (RpKs.append r h')
theorem mkFs_rp {K : PySem.W.Frag} {F : Hp} : ∀ (fs : List Str) {vs : List V} {ds : List D}, RpA K F vs ds → RpKs K F (mkFs fs vs) (mkFsD fs ds)
  | [], vs, ds, h => by cases h <;> exact .nil
  | f :: fs, _, _, .nil => .nil
  | f :: fs, _, _, .cons h r => RpKs.append (mkFs_rp fs r) (.cons h .nil)
def spInit (K : PySem.W.Frag) (fs : List Str) : Sp := fun vs H Q _ => ∃ (a C : Addr) (ws : List V), vs = .ref a :: ws ∧ ws.length = fs.length ∧ OexC K C ∧ (∀ f ∈ fs, PySem.W.findIn K (.ref C) f = some none) ∧ H a = some (exo a C none) ∧
  ∀ dx, H dx = none → dx ≠ a → Q .non (upd (upd H dx (exd dx (mkFs fs ws))) a (exo a C (some dx)))
/-- the class and its __init__ -/
structure EcI (P : Program) (w : World) (K : PySem.W.Frag) (mg : Str → Option Value) (base : Heap) (k : Nat) (C fI : Addr) (fd : FuncData) (fs : List Str) : Prop where
  ox : OexC K C
  ec : EcK K C
  noF : ∀ f ∈ fs, PySem.W.findIn K (.ref C) f = some none
  iC : PySem.W.findIn K (.ref C) "__init__" = some (some (.ref fI))
  tI : PySem.W.typeIn K (.ref fI) = some (.type "function")
  fn : FnOk P w K mg base (L2.CX P w) k fI fd ("self" :: fs) (spInit K fs)
  bi : Binds K fd ("self" :: fs) []
def sRaiseI (c : Str) (fs : List Str) (f : Fn (List Bv)) : FS := fun n ρ => bS (fFzs f n ρ) fun ds ρ1 => if ds.length = fs.length ∧ ds.length ≤ 100 then some (.ex ⟨c, mkFsD fs ds⟩ ρ1) else none
theorem xs_raiseI {x : Str} {p p2 : Pos} {C fI : Addr} {fd : FuncData} {k : Nat} {fs : List Str} {f : Fn (List Bv)} (hK : ∀ i, (X i).K = G.K) (hM : ∀ i, (X i).mg = G.mg) (hc : ∀ i, (X i).calm = true) (tk : ∀ i, Takes (X i) W) (T : ∀ i, EcI (X i).prog (X i).w (X i).K (X i).mg (X i).base k C fI fd fs) (hr : ∀ i, Room (k + 1) (X i).A)
    (gC : G.mg x = some (.ref C)) (hg : ∀ i, Gl (X i) x) (hdb : (x == ("__debug__" : Str)) = false) (ha : XBs G X W (e :: es) f) (he : ∀ i, starEach (e :: es) (X i).env = (false, eval e (X i).env) :: starEach es (X i).env) (hpl : ∀ i, (backTo p2 (starEach es (X i).env)).any (·.1) = false) :
    XS G X W P (.Raise (some (.Call (.Name x p) (e :: es) [] p2)) none pos) (sRaiseI x fs f) := by
  obtain ⟨t, h1, h2⟩ := ha
  by_cases hi : Nonempty ι
  case neg => exact ⟨fun _ _ _ => True, fun i => (hi ⟨i⟩).elim, fun _ _ _ _ _ _ _ _ _ _ _ => trivial⟩
  obtain ⟨i0⟩ := hi
  refine ⟨_, fun i => ps_raise (hc i) (tk i) (by
    have := pmk_oex (p := p) (sp := spInit (X i).K fs) (ds := []) (dvs := []) (T i).ox (T i).iC (T i).tI (T i).fn (hr i) (T i).bi .nil passL (hg i) (by rw [hM i]; exact gC) (h1 i) hdb (he i) (hpl i)
    rw [hK i] at this
    exact this), fun n ρ o eq F H σ T' D hR hP => ?_⟩
  have T0 := T i0
  unfold sRaiseI at eq
  cases q : fFzs f n ρ with
  | none => rw [q] at eq; cases eq
  | some r1 =>
    rw [q] at eq
    refine snd_fzs h2 n ρ r1 q F H σ T' _ hR ?_
    cases r1 with
    | ex x ρ' => cases eq; exact fun F' H' cls d s r xr => hP F' H' σ cls d s r (Kp.refl _) xr
    | ok ds ρ1 =>
      rw [bS_ok] at eq
      split at eq
      · rename_i hl
        cases eq
        intro F1 H1 vs s1 R1 r1
        have lv : vs.length = fs.length := by rw [r1.length]; exact hl.1
        refine ⟨by rw [r1.length]; exact Nat.le_trans hl.2 (by decide), fun a ha => ?_⟩
        rw [List.append_nil]
        refine ⟨a, C, vs, rfl, lv, by rw [← hK i0]; exact T0.ox, by rw [← hK i0]; exact T0.noF, upd_same, fun dx hd hne => ?_⟩
        have nda : H1 dx = none := by rw [upd_ne hne] at hd; exact hd
        refine ⟨rfl, dx, mkFs fs vs, upd_same, ?_, nda, ?_⟩
        · rw [upd_ne hne, upd_same]
        · have eH : upd (del (upd (upd (upd H1 a (exo a C none)) dx (exd dx (mkFs fs vs))) a (exo a C (some dx))) a) dx (.xd (mkFs fs vs)) = upd H1 dx (.xd (mkFs fs vs)) := by
            funext b
            by_cases hb : b = dx
            · subst hb; rw [upd_same, upd_same]
            · rw [upd_ne hb, upd_ne hb]
              by_cases hba : b = a
              · subst hba; rw [del_same]; exact ha.symm
              · rw [del_ne hba, upd_ne hba, upd_ne hb, upd_ne hba]
          rw [eH]
          obtain ⟨s2, q2⟩ := R1.hr.newF (o := .xd (mkFs fs vs)) nda
          exact hP _ _ σ (.ref C) (some dx) (s1.trans s2) ⟨q2, R1.ok⟩ (Kp.refl _) ⟨C, gC, rfl, .inr ⟨dx, _, rfl, upd_same, (mkFs_rp fs r1).mono s2⟩⟩
      · cases eq
end
/-! ### the __init__s -/
section
variable {P : Program} {w : World} {K : PySem.W.Frag} {mg : Str → Option Value} {base : Heap}
theorem init1_ok {qual : Str} {st : Stmt} {f : Addr} {fd : FuncData} {fn : Str} {p1 p2 p3 p4 : Pos} (F : Fun K "__init__" qual st f fd) (S : FnScope ["self", fn] ["self", fn] (defScope st)) (hb : defBody st = [.Assign [.Attribute (.Name "self" p1) fn p2] (.Name fn p3) p4])
    (v0 : Vis (defScope st) "self") (v1 : Vis (defScope st) fn) (hd : (fn == ("__debug__" : Str)) = false) (hcd : (fn == ("__classdict__" : Str)) = false) : FnOk P w K mg base (L2.CX P w) 1 f fd ["self", fn] (spInit K [fn]) := by
  refine F.okX S (fun vs H Q E h => ?_) fun cdv A outer s H vs Q E hr h => ?_
  · obtain ⟨a, C, ws, rfl, l, _⟩ := h
    exact congrArg (· + 1) l
  · obtain ⟨a, C, ws, rfl, l, T, no, ha, q⟩ := h
    obtain ⟨y, rfl⟩ : ∃ y, ws = [y] := by
      match ws, l with
      | [y], _ => exact ⟨y, rfl⟩
    rw [hb]
    refine ⟨_, pss_one (ps_ost (pe_var (i := 0) rfl v0) (pe_var (i := 1) rfl v1 hd hcd)), ?_⟩
    exact ⟨y, rfl, .ref a, rfl, a, C, rfl, T, no fn List.mem_cons_self, .inl ⟨ha, fun dx h1 h2 => q dx h1 h2⟩⟩
theorem init2_ok {qual : Str} {st : Stmt} {f : Addr} {fd : FuncData} {fn gn : Str} {p1 p2 p3 p4 q1 q2 q3 q4 : Pos} (F : Fun K "__init__" qual st f fd) (S : FnScope ["self", fn, gn] ["self", fn, gn] (defScope st)) (hb : defBody st = [.Assign [.Attribute (.Name "self" p1) fn p2] (.Name fn p3) p4, .Assign [.Attribute (.Name "self" q1) gn q2] (.Name gn q3) q4])
    (v0 : Vis (defScope st) "self") (v1 : Vis (defScope st) fn) (v2 : Vis (defScope st) gn) (hd : (fn == ("__debug__" : Str)) = false) (hcd : (fn == ("__classdict__" : Str)) = false) (hd2 : (gn == ("__debug__" : Str)) = false) (hcd2 : (gn == ("__classdict__" : Str)) = false) : FnOk P w K mg base (L2.CX P w) 1 f fd ["self", fn, gn] (spInit K [fn, gn]) := by
  refine F.okX S (fun vs H Q E h => ?_) fun cdv A outer s H vs Q E hr h => ?_
  · obtain ⟨a, C, ws, rfl, l, _⟩ := h
    exact congrArg (· + 1) l
  · obtain ⟨a, C, ws, rfl, l, T, no, ha, q⟩ := h
    obtain ⟨y, z, rfl⟩ : ∃ y z, ws = [y, z] := by
      match ws, l with
      | [y, z], _ => exact ⟨y, z, rfl⟩
    rw [hb]
    refine ⟨_, pss_cons (ps_ost (pe_var (i := 0) rfl v0) (pe_var (i := 1) rfl v1 hd hcd)) (pss_one (ps_ost (pe_var (i := 0) rfl v0) (pe_var (i := 2) rfl v2 hd2 hcd2))), ?_⟩
    refine ⟨y, rfl, .ref a, rfl, a, C, rfl, T, no fn List.mem_cons_self, .inl ⟨ha, fun dx h1 h2 => ?_⟩⟩
    refine ⟨z, rfl, .ref a, rfl, a, C, rfl, T, no gn (List.mem_cons_of_mem _ List.mem_cons_self), .inr ⟨dx, [(fn, y)], upd_same, ?_, (by show (1:Nat) ≤ 900; decide), ?_⟩⟩
    · rw [upd_ne h2, upd_same]
    · have eH : upd (upd (upd H dx (exd dx [(fn, y)])) a (exo a C (some dx))) dx (exd dx [(gn, z), (fn, y)]) = upd (upd H dx (exd dx (mkFs [fn, gn] [y, z]))) a (exo a C (some dx)) := by
        funext b
        by_cases hb : b = dx
        · subst hb; rw [upd_same, upd_ne h2, upd_same]; rfl
        · rw [upd_ne hb]
          by_cases hba : b = a
          · subst hba; rw [upd_same, upd_same]
          · rw [upd_ne hba, upd_ne hb, upd_ne hba, upd_ne hb]
      rw [eH]
      exact q dx h1 h2
end

/-! ### isinstance(x, T), T built-in -/
def tyD : D → Option String
  | .none => some "NoneType"
  | .bool _ => some "bool"
  | .int _ => some "int"
  | .str _ => some "str"
  | .list _ => some "list"
  | .tuple _ => some "tuple"
  | .dict _ => some "dict"
theorem ty_of {K : PySem.W.Frag} {H : Hp} {v : V} {d : D} (h : Rp K H v d) : ∃ T, tyD d = some T ∧ TyX K H v (.type T) := by
  cases h with
  | non => exact ⟨_, rfl, .base .non⟩
  | bl b => exact ⟨_, rfl, .base (.bl b)⟩
  | int b => exact ⟨_, rfl, .base (.int b)⟩
  | str b => exact ⟨_, rfl, .base (.str b)⟩
  | lst h r =>
    rcases h with (h | ⟨o, h⟩) | ⟨o, its, n, h1, h2, _⟩
    · exact ⟨_, rfl, .base (.lst h)⟩
    · exact ⟨_, rfl, .base (.frz h)⟩
    · exact ⟨_, rfl, .kList h1 h2⟩
  | tup h r =>
    rcases h with (h | ⟨o, h⟩) | ⟨o, its, n, h1, h2, _⟩
    · exact ⟨_, rfl, .base (.tup h)⟩
    · exact ⟨_, rfl, .fTuple h⟩
    · exact ⟨_, rfl, .kTuple h1 h2⟩
  | dct h r => exact ⟨_, rfl, .base (.dK h)⟩
def isiD (T : String) (d : D) : Option Bool := match tyD d with
  | some S => kitB S T
  | none => none
section
variable {ι : Type} {G : Gd} {X : ι → Cx} {W : WX} {e : Expr} {es : List Expr} {pos : Pos}
def fIsi (T : String) (f : Fn Bv) : Fn Cl := fun n ρ => bnd (fFz f n ρ) fun c ρ1 => match c with
  | .fz d => match isiD T d with
    | some b => some (.ok (.fz (.bool b)) ρ1)
    | none => none
  | _ => none
/-- the second argument is a built-in class by its name -/
theorem xe_isi {T : String} {x : Str} {p p2 : Pos} {f : Fn Bv} (hK : ∀ i, (X i).K = G.K) (hg : ∀ i, Gl (X i) "isinstance") (hm : ∀ i, (X i).mg "isinstance" = none) (hgT : ∀ i, Gl (X i) x) (hmT : ∀ i, (X i).mg x = none) (hv : bootBuiltins x = some (.type T)) (hx : x ≠ "__name__") (hxd : (x == ("__debug__" : Str)) = false) (ha : XB G X W e f)
    (hs1 : ∀ i, starEach [e, .Name x p2] (X i).env = (false, eval e (X i).env) :: starEach [.Name x p2] (X i).env) (hs2 : ∀ i, starEach [.Name x p2] (X i).env = (false, eval (.Name x p2) (X i).env) :: starEach [] (X i).env) (hpl : ∀ i, (backTo pos (starEach [.Name x p2] (X i).env)).any (·.1) = false) :
    XE G X W (.Call (.Name "isinstance" p) [e, .Name x p2] [] pos) (fIsi T f) := by
  obtain ⟨t, h1, h2⟩ := ha
  refine ⟨_, fun i => by
    have := pe_callB (x := "isinstance") (p := p) (pos := pos) call_isi (hg i) (hm i) (by decide +kernel) (pa_cons (h1 i) (pa_cons (pe_bltn (v := .ty T) (hgT i) (hmT i) hv rfl hx hxd) pa_nil (hs2 i)) (hs1 i)) (by decide) (by decide) (hs1 i) (hpl i)
    rw [hK i] at this
    exact this, fun n ρ r eq F H σ T' Q hR hP => ?_⟩
  unfold fIsi at eq
  cases q : fFz f n ρ with
  | none => rw [q] at eq; cases eq
  | some r1 =>
    rw [q] at eq
    refine snd_fz h2 n ρ r1 q F H σ T' _ hR ?_
    cases r1 with
    | ex x ρ' => cases eq; exact hP
    | ok c ρ1 =>
      rw [bnd_ok] at eq
      intro F1 H1 v s1 R1
      split at eq
      · rename_i d
        split at eq
        · rename_i b qb
          cases eq
          obtain ⟨S, q1, q2⟩ := ty_of (R1.rp.mono R1.sub)
          unfold isiD at qb
          rw [q1] at qb
          exact ⟨v, .ty T, _, _, b, rfl, .ty T, q2, kit_ty qb, hP F1 H1 _ s1 (R1.tail.push (.bl b))⟩
        · cases eq
      · cases eq
end

/-! ### slices -/
section
variable {X : Cx}
def cutD {α : Type} (xs : List α) (lo hi : Option Int) : List α := (xs.drop (HT.sIx xs.length 0 lo)).take (HT.sIx xs.length xs.length hi - HT.sIx xs.length 0 lo)
def rSlA (K : PySem.W.Frag) : V → Option Int → Option Int → Hp → VK → Prop := fun x lo hi H Q => rSlL K x lo hi H Q ∨ rSlT K x lo hi H Q ∨ rSlS x lo hi H Q
theorem sl_any : SlR X (rSlA X.K) := sl_list.or (sl_tup.or sl_str)
theorem cut_rp {K : PySem.W.Frag} {F : Hp} {vs : List V} {ds : List D} (r : RpA K F vs ds) (lo hi : Option Int) : RpA K F (cutV vs lo hi) (cutD ds lo hi) := by
  unfold cutV cutD
  rw [r.length]
  exact (r.drop _).take _
end
def asO (d : Option D) : Option (Option Int) := match d with
  | none => some none
  | some (.int i) => some (some i)
  | _ => none
def gSl (lo hi : Option Int) (c : Cl) : Option Cl := match c.data with
  | some (.list ds) => some (.lst (cutD ds lo hi))
  | some (.tuple ds) => if HT.sIx ds.length 0 lo = 0 ∧ HT.sIx ds.length ds.length hi = ds.length then none else some (.fz (.tuple (cutD ds lo hi)))
  | some (.str z) => if z.length ≤ 10000000 then some (.fz (.str (cutS z lo hi))) else none
  | _ => none
section
variable {ι : Type} {G : Gd} {X : ι → Cx} {W : WX} {e l u : Expr} {pos p2 : Pos}
theorem sl_go {F H : Hp} {L : List (Cl × V)} {c c' : Cl} {v : V} {lo hi : Option Int} {Q : VK} (hr : G.HR F H L) (hc : ∃ A, G.CR F H c v A) (e : gSl lo hi c = some c') (hQ : ∀ F' H' v, Same F F' → G.HR F' H' ((c', v) :: L) → Q v H') : rSlA G.K v lo hi H Q := by
  obtain ⟨A, h1⟩ := hc
  unfold gSl at e
  split at e
  · rename_i ds q
    cases e
    obtain ⟨a, ws, rfl, q1, r1⟩ := h1.seqL hr.sub q
    exact .inl ⟨_, _, rfl, q1, fun p hp => hQ F _ _ (Same.refl _) (HR.lstN hr hp (cut_rp r1 lo hi))⟩
  · rename_i ds q
    obtain ⟨a, ws, rfl, q1, r1⟩ := h1.seqT hr.sub q
    split at e
    · cases e
    · rename_i hn
      cases e
      refine .inr (.inl ⟨_, _, rfl, sameT hr.sub q1, by rw [r1.length]; exact hn, fun p hp => ?_⟩)
      obtain ⟨F', s, q⟩ := HR.tupN hr hp (cut_rp r1 lo hi)
      exact hQ F' _ _ s q
  · rename_i z q
    have r := h1.rp hr.sub q
    cases r
    split at e
    · rename_i hz
      cases e
      exact .inr (.inr ⟨_, rfl, by rw [sizeLine_eq]; omega, hQ F H _ (Same.refl _) (hr.push (.str _))⟩)
    · cases e
  · cases e
/-- e[l:] -/
def fSlL (f g : Fn Bv) : Fn Cl := fun n ρ => bnd (f n ρ) fun b ρ1 => bnd (fFz g n ρ1) fun c ρ2 => match c, lk ρ2 b with
  | .fz (.int i), some cb => match gSl (some i) none cb with
    | some c' => some (.ok c' ρ2)
    | none => none
  | _, _ => none
/-- e[:u] -/
def fSlU (f g : Fn Bv) : Fn Cl := fun n ρ => bnd (f n ρ) fun b ρ1 => bnd (fFz g n ρ1) fun c ρ2 => match c, lk ρ2 b with
  | .fz (.int i), some cb => match gSl none (some i) cb with
    | some c' => some (.ok c' ρ2)
    | none => none
  | _, _ => none
theorem sl_one {t tu : TE} {f g : Fn Bv} (h : SndB G W t f) (h' : SndB G W tu g) (n : Nat) (ρ : En) (r : Rz Cl) {k : Int → Option Int × Option Int}
    (eq : (bnd (f n ρ) fun b ρ1 => bnd (fFz g n ρ1) fun c ρ2 => match c, lk ρ2 b with
      | .fz (.int i), some cb => match gSl (k i).1 (k i).2 cb with
        | some c' => some (.ok c' ρ2)
        | none => none
      | _, _ => none) = some r) (F H : Hp) (σ : L2.St) (T : List (Cl × V)) (Q : VK) (hR : G.R F H ρ σ T) (hP : PoE G W F σ T Q r) :
    t σ H fun x H1 => tu σ H1 fun y H2 => ∃ i, y = .int i ∧ rSlA G.K x (k i).1 (k i).2 H2 Q := by
  cases q : f n ρ with
  | none => rw [q] at eq; cases eq
  | some r1 =>
    rw [q] at eq
    refine h n ρ r1 q F H σ T _ hR ?_
    cases r1 with
    | ex x ρ' => cases eq; exact hP
    | ok b ρ1 =>
      rw [bnd_ok] at eq
      intro F1 H1 v s1 R1 v1
      cases q2 : fFz g n ρ1 with
      | none => rw [q2] at eq; cases eq
      | some r2 =>
        rw [q2] at eq
        refine snd_fz h' n ρ1 r2 q2 F1 H1 σ _ _ R1 ?_
        cases r2 with
        | ex x ρ' => cases eq; exact PoX.dropT hP s1
        | ok c ρ2 =>
          rw [bnd_ok] at eq
          intro F2 H2 y s2 R2
          split at eq
          · rename_i i cb qb
            split at eq
            · rename_i c' qc
              cases eq
              have ry := R2.rp
              cases ry
              have cr := bv_cr (b := b) (v := v) R2.tail (fun x hx => by
                cases b with
                | pl j => cases hx
                | vl c0 => rw [List.mem_singleton.mp hx]; exact List.mem_cons_self) v1 qb
              have R3 : G.R F2 H2 ρ2 σ T := bvT_drop b v R2.tail
              exact ⟨i, rfl, sl_go R3.hr cr qc fun F' H' v' s' h' => hP F' H' v' ((s1.trans s2).trans s') (.mk' h' R3.ok)⟩
            · cases eq
          · cases eq
theorem xe_slL {f g : Fn Bv} (hK : ∀ i, (X i).K = G.K) (h : XB G X W e f) (h' : XB G X W l g) : XE G X W (.Subscript e (.Slice (some l) none none p2) pos) (fSlL f g) := by
  obtain ⟨t, a1, a2⟩ := h
  obtain ⟨tu, b1, b2⟩ := h'
  refine ⟨_, fun i => by have := pe_slice (X := X i) (pos := pos) (p2 := p2) sl_any (a1 i) (po_some (b1 i)) po_none; rw [hK i] at this; exact this, fun n ρ r eq F H σ T Q hR hP => ?_⟩
  exact sl_one a2 b2 n ρ r (k := fun i => (some i, none)) eq F H σ T Q hR hP
theorem xe_slU {f g : Fn Bv} (hK : ∀ i, (X i).K = G.K) (h : XB G X W e f) (h' : XB G X W u g) : XE G X W (.Subscript e (.Slice none (some u) none p2) pos) (fSlU f g) := by
  obtain ⟨t, a1, a2⟩ := h
  obtain ⟨tu, b1, b2⟩ := h'
  refine ⟨_, fun i => by have := pe_slice (X := X i) (pos := pos) (p2 := p2) sl_any (a1 i) po_none (po_some (b1 i)); rw [hK i] at this; exact this, fun n ρ r eq F H σ T Q hR hP => ?_⟩
  exact sl_one a2 b2 n ρ r (k := fun i => (none, some i)) eq F H σ T Q hR hP
end
/-! ### stars in displays -/
section
variable {ι : Type} {G : Gd} {X : ι → Cx} {W : WX} {e : Expr} {es : List Expr} {pos : Pos}
/-- display items: frozen data, a star's items spliced -/
def XDs (G : Gd) (X : ι → Cx) (W : WX) (es : List Expr) (f : Fn (List D)) : Prop := ∃ t : TA, (∀ i, PA (X i) es t) ∧ ∀ n ρ r, f n ρ = some r → ∀ F H σ T Q, G.R F H ρ σ T → PoFs G W F σ T Q r → t σ H Q
def dNil : Fn (List D) := fun _ ρ => some (.ok [] ρ)
def dCons (f : Fn Bv) (g : Fn (List D)) : Fn (List D) := fun n ρ => bnd (fFz f n ρ) fun c ρ1 => match c with
  | .fz d => bnd (g n ρ1) fun ds ρ2 => some (.ok (d :: ds) ρ2)
  | _ => none
def dStar (f : Fn Bv) (g : Fn (List D)) : Fn (List D) := fun n ρ => bnd (fFz f n ρ) fun c ρ1 => match c with
  | .fz d => match asSeq d with
    | some xs => bnd (g n ρ1) fun ds ρ2 => some (.ok (xs ++ ds) ρ2)
    | none => none
  | _ => none
theorem xds_nil : XDs G X W [] dNil := ⟨_, fun _ => pa_nil, fun n ρ r e F H σ T Q hR hP => by
  cases e
  exact hP F H [] (Same.refl _) hR .nil⟩
theorem xds_cons {f : Fn Bv} {g : Fn (List D)} (h : XB G X W e f) (h' : XDs G X W es g) (hs : ∀ i, starEach (e :: es) (X i).env = (false, eval e (X i).env) :: starEach es (X i).env) : XDs G X W (e :: es) (dCons f g) := by
  obtain ⟨t, a1, a2⟩ := h
  obtain ⟨u, b1, b2⟩ := h'
  refine ⟨_, fun i => pa_cons (a1 i) (b1 i) (hs i), fun n ρ r eq F H σ T Q hR hP => ?_⟩
  unfold dCons at eq
  cases q : fFz f n ρ with
  | none => rw [q] at eq; cases eq
  | some r1 =>
    rw [q] at eq
    refine snd_fz a2 n ρ r1 q F H σ T _ hR ?_
    cases r1 with
    | ex x ρ' => cases eq; exact hP
    | ok c ρ1 =>
      rw [bnd_ok] at eq
      intro F1 H1 v s1 R1
      split at eq
      · rename_i d
        have rv := R1.rp
        cases q2 : g n ρ1 with
        | none => rw [q2] at eq; cases eq
        | some r2 =>
          rw [q2] at eq
          refine b2 n ρ1 r2 q2 F1 H1 σ T _ R1.tail ?_
          cases r2 with
          | ex x ρ' => cases eq; exact PoX.mono hP s1
          | ok ds ρ2 =>
            cases eq
            exact fun F2 H2 vs s2 R2 r2 => hP F2 H2 _ (s1.trans s2) R2 (.cons (rv.mono s2) r2)
      · cases eq
theorem xds_star {f : Fn Bv} {g : Fn (List D)} {p : Pos} (hK : ∀ i, (X i).K = G.K) (h : XB G X W e f) (h' : XDs G X W es g) (hp : ∀ t u, (∀ i, PE (X i) e t) → (∀ i, PA (X i) es u) → ∀ i, PA (X i) (.Starred e p :: es) (fun σ H Q => t σ H fun x H1 => ∃ p xs, x = V.ref p ∧ (SqT (X i).K H1 p xs ∨ SqL (X i).K H1 p xs) ∧ u σ H1 fun ys H2 => Q (xs ++ ys) H2)) : XDs G X W (.Starred e p :: es) (dStar f g) := by
  obtain ⟨t, a1, a2⟩ := h
  obtain ⟨u, b1, b2⟩ := h'
  refine ⟨_, fun i => by have := hp t u a1 b1 i; rw [hK i] at this; exact this, fun n ρ r eq F H σ T Q hR hP => ?_⟩
  unfold dStar at eq
  cases q : fFz f n ρ with
  | none => rw [q] at eq; cases eq
  | some r1 =>
    rw [q] at eq
    refine snd_fz a2 n ρ r1 q F H σ T _ hR ?_
    cases r1 with
    | ex x ρ' => cases eq; exact hP
    | ok c ρ1 =>
      rw [bnd_ok] at eq
      intro F1 H1 v s1 R1
      split at eq
      · rename_i d
        have rv := R1.rp
        have fin : ∀ {xs : List D} {vs : List V} {a : Addr}, v = .ref a → (SqT G.K H1 a vs ∨ SqL G.K H1 a vs) → RpA G.K F1 vs xs → (bnd (g n ρ1) fun ds ρ2 => some (.ok (xs ++ ds) ρ2)) = some r → ∃ p ys, v = V.ref p ∧ (SqT G.K H1 p ys ∨ SqL G.K H1 p ys) ∧ u σ H1 fun zs H2 => Q (ys ++ zs) H2 := fun {xs vs a} ev hs rr eq => by
          refine ⟨a, vs, ev, hs, ?_⟩
          cases q2 : g n ρ1 with
          | none => rw [q2] at eq; cases eq
          | some r2 =>
            rw [q2] at eq
            refine b2 n ρ1 r2 q2 F1 H1 σ T _ R1.tail ?_
            cases r2 with
            | ex x ρ' => cases eq; exact PoX.mono hP s1
            | ok ds ρ2 =>
              cases eq
              exact fun F2 H2 vs s2 R2 r2 => hP F2 H2 _ (s1.trans s2) R2 ((rr.mono s2).append r2)
        cases rv with
        | lst h r => exact fin rfl (.inr (R1.sub.seq h)) r eq
        | tup h r => exact fin rfl (.inl (sameT R1.sub h)) r eq
        | _ => cases eq
      · cases eq
def fLstD (f : Fn (List D)) : Fn Cl := fun n ρ => bnd (f n ρ) fun ds ρ1 => if lsz ds.length = true then some (.ok (.lst ds) ρ1) else none
def fTupD (f : Fn (List D)) : Fn Cl := fun n ρ => bnd (f n ρ) fun ds ρ1 => if lsz ds.length = true then some (.ok (.fz (.tuple ds)) ρ1) else none
theorem xe_lstD {f : Fn (List D)} (h : XDs G X W es f) : XE G X W (.List es pos) (fLstD f) := by
  obtain ⟨t, a1, a2⟩ := h
  refine ⟨_, fun i => pe_lst (a1 i), fun n ρ r eq F H σ T Q hR hP => ?_⟩
  unfold fLstD at eq
  cases q : f n ρ with
  | none => rw [q] at eq; cases eq
  | some r1 =>
    rw [q] at eq
    refine a2 n ρ r1 q F H σ T _ hR ?_
    cases r1 with
    | ex x ρ' => cases eq; exact hP
    | ok ds ρ1 =>
      rw [bnd_ok] at eq
      split at eq
      · rename_i hz
        cases eq
        exact fun F1 H1 vs s1 R1 r1 => ⟨by rw [r1.length]; exact lsz_ok hz, fun p hp => hP _ _ _ s1 (R.newLst R1 hp r1)⟩
      · cases eq
theorem xe_tupD {f : Fn (List D)} {k : Nat} (h : XDs G X W es f) : XE G X W (.Tuple es k pos) (fTupD f) := by
  obtain ⟨t, a1, a2⟩ := h
  refine ⟨_, fun i => pe_tup (a1 i), fun n ρ r eq F H σ T Q hR hP => ?_⟩
  unfold fTupD at eq
  cases q : f n ρ with
  | none => rw [q] at eq; cases eq
  | some r1 =>
    rw [q] at eq
    refine a2 n ρ r1 q F H σ T _ hR ?_
    cases r1 with
    | ex x ρ' => cases eq; exact hP
    | ok ds ρ1 =>
      rw [bnd_ok] at eq
      split at eq
      · rename_i hz
        cases eq
        exact fun F1 H1 vs s1 R1 r1 => ⟨by rw [r1.length]; exact lsz_ok hz, fun p hp => let ⟨s2, R2⟩ := R.newTup R1 hp r1; hP _ _ _ (s1.trans s2) R2⟩
      · cases eq
end
end L3

set_option maxHeartbeats 1000000
namespace L2
open PySem PySem.Spec PyProof.Rows
/-- isinstance(e, c), e the exception that the suite holds; its dict may stand -/
def rIsF (K : PySem.W.Frag) (D : Addr) (d : Option Addr) (a : Addr) : List V → Hp → VK → Prop := fun xs H Q => ∃ (c : V) (cv : Value) (b : Bool), xs = [.ref a, c] ∧ (∀ u, RelV c u → u = cv) ∧ PySem.W.kitOne K (.ref D) cv = some b ∧ (d = none ∨ ∃ dd fs, d = some dd ∧ H dd = some (.xd fs)) ∧ Q (.bl b) H
/-! ### an exception of the body that has come to the handlers of this frame -/
/-- it flies over B; here the invariant holds, and it is no object of ours -/
structure Cau (X : Cx) (B : Heap) (pins : List (Addr × Obj)) (σ : St) (H : Hp) (a : Addr) (cls : Value) (d : Option Addr) (t : Shared) : Prop where
  inv : Inv X pins σ H t
  fly : HandSPX.FlyingZ B (X.env :: X.outer) a (Zc cls d) t.heap
  na : H a = none
section
variable {X : Cx} {B : Heap} {pins : List (Addr × Obj)} {σ : St} {H : Hp} {a : Addr} {cls : Value} {d : Option Addr} {t : Shared}
/-- it is none of the frames that stand -/
theorem Cau.off (C : Cau X B pins σ H a cls d t) : a ∉ frs (X.env :: X.outer) := fun hm => by
  have ⟨_, _, e, _, dd⟩ := C.fly.there
  have ⟨_, _, e', no⟩ := C.fly.2.2.1.mem hm
  cases e.symm.trans e'
  exact no _ dd
theorem Cau.offL (C : Cau X B pins σ H a cls d t) (hf : X.env.frame = some X.env.locals) : a ≠ X.env.locals := fun z =>
  C.off (by rw [z]; unfold frs; rw [List.filterMap_cons, hf]; exact List.mem_cons_self)
theorem Cau.offF (C : Cau X B pins σ H a cls d t) : a ∉ X.fs := fun hm => C.off (by unfold Cx.fs at hm; unfold frs at hm ⊢; cases q : X.env.frame with | none => rw [List.filterMap_cons, q]; exact hm | some f => rw [List.filterMap_cons, q]; exact List.mem_cons_of_mem _ hm)
/-- inside the suite of a clause that takes it -/
theorem Cau.open_ (C : Cau X B pins σ H a cls d t) (hf : X.env.frame = some X.env.locals) : ∃ oe, t.heap.get? a = some oe ∧ Zc cls d oe ∧ (∃ vs, oe.data = .fields vs) ∧ Inv (X.suite a ((a, oe) :: (X.pn ++ pins))) [] σ H t := by
  have ⟨oe, vs, e, z, dd⟩ := C.fly.there
  exact ⟨oe, e, z, ⟨vs, dd⟩, C.inv.suite e dd C.na (C.offL hf) C.offF⟩
end
theorem call_isF {X : Cx} {a D : Addr} {d : Option Addr} {oe : Obj} {pn : List (Addr × Obj)} (C : L3.EcK X.K D) (hz : Zc (.ref D) d oe) (hf : ∃ vs, oe.data = .fields vs) : CallR (X.suite a ((a, oe) :: pn)) (.builtin "isinstance") (rIsF X.K D d a) := by
  rintro pins s σ H _ us Q I rel ⟨c, cv, b, rfl, only, kit, d0, q⟩
  cases rel with | cons rx rel => ?_
  cases rel with | cons rt rel => ?_
  cases rel; cases rx
  cases only _ rt
  have at_ := (I.pin (a, oe) (.head _)).1
  have nc : PySem.W.notCls oe := hf.elim fun _ e => by unfold PySem.W.notCls; rw [e] <;> rfl
  have ⟨_, J⟩ : ∃ od, PySem.W.InstAt s.heap a oe D od := by
    rcases d0 with e | ⟨dx, fs, e, xd⟩
    · exact ⟨none, at_, hz.1, nc, by rw [hz.2, e]; trivial⟩
    · have ⟨m, ns, _⟩ : ObjOk X.prog X.w H s.heap dx (.xd fs) := I.hok dx _ xd
      exact (lookIn_ns ns).imp' some fun od w => ⟨at_, hz.1, nc, by rw [hz.2, e]; exact w.1⟩
  exact PySem.W.kia_one (PySem.W.kitx_exc C.cl C.ga C.gg C.sub C.ac C.sp C.tk C.mr) I.kIn J kit (fun z => nomatch z) fun tk => ⟨.bl b, H, I.kept (t' := tk) fun _ _ z => z, rfl, q⟩
/-! ### several clauses, each 'except c as n' -/
/-- the ends seen through the going of slot i -/
def Ends.gone (D : Ends) (i : Nat) : Ends := { nx := fun σ' H' => D.nx (σ'.set i none) H', rt := D.rt, bk := fun σ' H' => D.bk (σ'.set i none) H', ct := fun σ' H' => D.ct (σ'.set i none) H' }
def wManyAs (K : PySem.W.Frag) (i : Nat) (Wout : WX) (D : Ends) : List (Value × (Addr → Value → Option Addr → TS)) → WX
  | [] => Wout
  | (c, ts) :: r => fun cls d σ H => ∃ b, PySem.W.exmOne K cls c = some b ∧ (b = true → ∀ a, H a = none → ts a cls d (D.gone i) (σ.set i (some (.ref a))) H) ∧ (b = false → wManyAs K i Wout D r cls d σ H)
inductive HdsAs (X : Cx) (n : Str) : List ExceptHandler → List (Value × (Addr → Value → Option Addr → TS)) → Prop
  | nil : HdsAs X n [] []
  | cons {x : Str} {c : Value} {ts : Addr → Value → Option Addr → TS} {b₀ : Stmt} {suite : List Stmt} {np pos' : Pos} {hds : List ExceptHandler} {l : List (Value × (Addr → Value → Option Addr → TS))} (hc : Names X x c)
      (hsu : ∀ (a : Addr) (oe : Obj) (cls : Value) (d : Option Addr) (pn : List (Addr × Obj)), Zc cls d oe → (∃ vs, oe.data = .fields vs) → PSs (X.suite a ((a, oe) :: pn)) (b₀ :: suite) (ts a cls d)) (r : HdsAs X n hds l) :
      HdsAs X n (.ExceptHandler (some (.Name x np)) (some n) (b₀ :: suite) pos' :: hds) ((c, ts) :: l)
section
variable {X : Cx} {n : Str} {i : Nat} {body : List Stmt} {h₀ : ExceptHandler} {hds : List ExceptHandler} {l : List (Value × (Addr → Value → Option Addr → TS))} {pos : Pos} {tb : WX → TS} {Wout : WX}
/-- the clauses, one after the other, at a caught one: each is one of the library's clause rules -/
theorem clauses_ok {B : Heap} {pins : List (Addr × Obj)} {σ : St} {H : Hp} {a : Addr} {cls : Value} {d : Option Addr} {D : Ends} (hf : X.env.frame = some X.env.locals) (hN : X.N.Nodup) (hi : X.N[i]? = some n) (hln : X.env.kindOf n = some .local)
    {hds : List ExceptHandler} {l : List (Value × (Addr → Value → Option Addr → TS))} (hk : HdsAs X n hds l) :
    ∀ {t : Shared}, Cau X B pins σ H a cls d t → (∀ h', HandSPX.FlyingZ B (X.env :: X.outer) a (Zc cls d) h' → t.heap.UpToSlots h' → Cau X B pins σ H a cls d { t with heap := h' }) →
      (∀ h', HandSPX.HeldZ B (X.env :: X.outer) a (Zc cls d) X.env.locals h' → t.heap.UpToSlots h' → Wout cls d σ H → X.xe (.ref a) { t with heap := h' }) →
      wManyAs X.K i Wout D l cls d σ H → wpAny (model X.prog X.w) X.A (handleBy (.ref a) X.env hds) (SP X pins D) X.xe t := by
  induction hk with
  | nil => exact fun C _ out w => PX.no_clauseZ hf C.fly fun h' hh up => out h' hh up w
  | @cons x c ts b₀ suite np pos' hds2 l2 hc hsu _ ih =>
    intro t C again out ⟨b, hm, yes, no⟩
    have ⟨oe, _, _, _, S⟩ := C.open_ hf
    have test : ∀ {Q : Value → Shared → Prop} {E : Value → Shared → Prop}, Q c t → wpAny (model X.prog X.w) (X.A.mark (some (.ref a))) (eval (.Name x np) X.env) Q E t := fun q => by
      rcases hc with ⟨hg, hdb, hm | ⟨hm, hv, hn⟩⟩
      · exact ld_glob S hg hm q hdb
      · exact ld_blt S hg hm hv q hn hdb
    cases b with
    | false => exact PX.clause_passZ C.inv.kIn (fun _ z => z.1) C.fly hm test (ih C again out (no rfl))
    | true =>
      refine PX.clause_asZ C.inv.kIn (fun _ z => z.1) C.fly hm test fun h' fl up => ?_
      have ⟨oe, _, z, dd, S⟩ := (again h' fl up).open_ hf
      refine store_ok (X := X.suite a ((a, oe) :: (X.pn ++ pins))) S hN hi (.inl hln) (v := .ref a) rfl (fun s5 S5 => wpAny_mono ((hsu a oe cls d _ z dd).run [] s5 _ H _ S5 (yes rfl a C.na)) (fun f s6 e => ?_) fun _ _ z => z.elim) (.inr hln)
      cases f with
      | ret u => have ⟨v, σ', H', S6, r, q⟩ := e; exact gone_ok (S6.unsuite C.inv.ok) hN hi hln fun _ J => ⟨v, _, _, J, r, q⟩
      | next => have ⟨σ', H', S6, q⟩ := e; exact gone_ok (S6.unsuite C.inv.ok) hN hi hln fun _ J => ⟨_, _, J, q⟩
      | brk => have ⟨σ', H', S6, q⟩ := e; exact gone_ok (S6.unsuite C.inv.ok) hN hi hln fun _ J => ⟨_, _, J, q⟩
      | cont => have ⟨σ', H', S6, q⟩ := e; exact gone_ok (S6.unsuite C.inv.ok) hN hi hln fun _ J => ⟨_, _, J, q⟩
theorem ps_try_manyAs (hs : X.stack = X.env :: X.outer) (hf : X.env.frame = some X.env.locals) (hN : X.N.Nodup) (hi : X.N[i]? = some n) (hln : X.env.kindOf n = some .local) (tk : Takes X Wout)
    (hb : ∀ (W : WX) (pn : List (Addr × Obj)) (xe : Value → Shared → Prop), Takes (X.tr pn xe) W → PassesOwn (model X.prog X.w) X.A X.env xe → PSs (X.tr pn xe) body (tb W))
    (hh : HdsAs X n (h₀ :: hds) l) : PS X (.Try body (h₀ :: hds) [] [] pos) (fun D σ H => tb (wManyAs X.K i Wout D l) D σ H) where
  run pins s σ H D I h := by
    have ok := I.ok
    have fr : X.A.frames = some (X.env :: X.outer) := ok.frames.trans (congrArg some hs)
    refine wpAny_Try_except (wpAny_mono ((hb (wManyAs X.K i Wout D l) (X.pn ++ pins) _ ?_ PassesOwn.looking).run [] s σ H D (I.toTry _) h) ?_ fun _ _ he => he)
    · rintro u st ⟨a, B, sI, _, σ', H', cls, d, rfl, J, nb, up, sky, na, os, ag, w⟩
      have J := Inv.ofTry (pins := pins) J ok
      refine Sky.land Zc.steady fr hf (hs ▸ sky) fun h3 fl up3 => ?_
      have land : ∀ h', HandSPX.FlyingZ B (X.env :: X.outer) a (Zc cls d) h' → st.heap.UpToSlots h' → Cau X B pins σ' H' a cls d { st with heap := h' } := fun h' f u => ⟨J.landed nb f.1 (up.trans u) os ag, f, na⟩
      exact clauses_ok hf hN hi hln hh (land h3 fl up3) (fun h' f u => land h' f (up3.trans u)) (fun h' hd u w => tk _ _ ⟨a, B, sI, pins, σ', H', cls, d, rfl, J, nb, up.trans (up3.trans u), .inr (.inr (hs ▸ hd)), na, os, ag, w⟩) w
    · intro f st e
      cases f with
      | ret u => have ⟨v, σ', H', J, r, q⟩ := e; exact ⟨v, σ', H', J.ofTry ok, r, q⟩
      | next => have ⟨σ', H', J, q⟩ := e; exact wpAny_execs_nil ⟨σ', H', J.ofTry ok, q⟩
      | brk => have ⟨σ', H', J, q⟩ := e; exact ⟨σ', H', J.ofTry ok, q⟩
      | cont => have ⟨σ', H', J, q⟩ := e; exact ⟨σ', H', J.ofTry ok, q⟩
end
end L2
namespace L3
open PySem PySem.Spec L2
/-! ### an expression in an except suite: of the error x, e in slot i -/
section
variable {ι : Type} {G : Gd} {X : ι → Cx} {i : Nat} {n : Str}
def SE (G : Gd) (X : ι → Cx) (i : Nat) (e : Expr) (f : Ex → Option Cl) : Prop :=
  ∃ t : Addr → Value → Option Addr → TE, (∀ j a oe cls d pn, Zc cls d oe → (∃ vs, oe.data = .fields vs) → PE ((X j).suite a ((a, oe) :: pn)) e (t a cls d)) ∧
    ∀ a cls d x c F H ρ σ T (Q : VK), f x = some c → XR G F x cls d → σ[i]? = some (some (.ref a)) → G.R F H ρ σ T → (∀ F' H' v, Same F F' → G.R F' H' ρ σ ((c, v) :: T) → Q v H') → t a cls d σ H Q
/-- elements of a display: data, frozen -/
def SEs (G : Gd) (X : ι → Cx) (i : Nat) (es : List Expr) (f : Ex → Option (List D)) : Prop :=
  ∃ t : Addr → Value → Option Addr → TA, (∀ j a oe cls d pn, Zc cls d oe → (∃ vs, oe.data = .fields vs) → PA ((X j).suite a ((a, oe) :: pn)) es (t a cls d)) ∧
    ∀ a cls d x ds F H ρ σ T (Q : List V → Hp → Prop), f x = some ds → XR G F x cls d → σ[i]? = some (some (.ref a)) → G.R F H ρ σ T → (∀ vs, RpA G.K F vs ds → Q vs H) → t a cls d σ H Q
theorem se_str {s : Str} {k : Nat} {pos : Pos} : SE G X i (.Constant (.str s) k pos) (fun _ => some (.fz (.str s))) :=
  ⟨fun _ _ _ => tC (.str s), fun _ _ _ _ _ _ _ _ => pe_str, fun a cls d x c F H ρ σ T Q e _ _ hR hP => by
    cases e
    exact hP F H _ (Same.refl _) (hR.push (.str s))⟩
theorem lookup_ks {K : PySem.W.Frag} {F : Hp} {f : Str} : ∀ {fvs : List (Str × V)} {fs : List (Str × D)} {d : D}, RpKs K F fvs fs → fs.lookup f = some d → ∃ v, fvs.lookup f = some v ∧ Rp K F v d
  | _, _, d, .nil, e => by cases e
  | _, _, d, .cons (k := k) h r, e => by
    unfold List.lookup at e ⊢
    split at e
    · rename_i q
      cases e
      exact ⟨_, rfl, h⟩
    · rename_i q
      obtain ⟨v, h1, h2⟩ := lookup_ks r e
      exact ⟨v, h1, h2⟩

theorem XR.mono {F F' : Hp} {x : Ex} {cls : Value} {d : Option Addr} (h : XR G F x cls d) (e : Same F F') : XR G F' x cls d := by
  obtain ⟨C, h1, h2, h3⟩ := h
  refine ⟨C, h1, h2, ?_⟩
  rcases h3 with h3 | ⟨dd, fvs, h4, h5, h6⟩
  · exact .inl h3
  · exact .inr ⟨dd, fvs, h4, e _ _ h5, h6.mono e⟩
/-- e.f : cs the classes that have it -/
def seF (cs : List Str) (f : Str) : Ex → Option D := fun x => if cs.contains x.cls = true then x.fs.lookup f else none
def tE0 : TE := fun _ _ _ => False
theorem pe_no {Y : Cx} {e : Expr} : PE Y e tE0 := ⟨fun _ _ _ _ _ _ h => h.elim⟩
open Classical in
noncomputable def tFld (K : PySem.W.Frag) (i : Nat) (f : Str) (a : Addr) (cls : Value) (d : Option Addr) : TE :=
  if h : ∃ C, cls = .ref C ∧ XfC K C ∧ PySem.W.findIn K (.ref C) f = some none then tXf a cls d h.choose f (tVar i) else tE0
theorem pe_fld {j : ι} {a : Addr} {oe : Obj} {cls : Value} {d : Option Addr} {pn : List (Addr × Obj)} {f : Str} {p pos : Pos} (hn : ∀ j a oe pn, PE ((X j).suite a ((a, oe) :: pn)) (.Name n p) (tVar i)) (hK : ∀ j, (X j).K = G.K) (hz : Zc cls d oe) (hf : ∃ vs, oe.data = .fields vs)
    (hb : ∀ j, attributeBase (.Name n p) f (X j).env (eval (.Name n p) (X j).env) = eval (.Name n p) (X j).env) : PE ((X j).suite a ((a, oe) :: pn)) (.Attribute (.Name n p) f pos) (tFld G.K i f a cls d) := by
  unfold tFld
  split
  · rename_i h
    obtain ⟨h1, h2, h3⟩ := h.choose_spec
    have h2 : XfC (X j).K h.choose := by rw [hK j]; exact h2
    have h3 : PySem.W.findIn (X j).K (.ref h.choose) f = some none := by rw [hK j]; exact h3
    exact pe_xf h2 h3 hz hf (hn j a oe pn) (hb j)
  · exact pe_no
theorem snd_fld {cs : List Str} {f : Str} {a : Addr} {cls : Value} {d : Option Addr} {x : Ex} {dv : D} {F H : Hp} {ρ : En} {σ : L2.St} {T : List (Cl × V)} {Q : VK} (hC : ∀ c C, cs.contains c = true → G.mg c = some (.ref C) → XfC G.K C ∧ PySem.W.findIn G.K (.ref C) f = some none)
    (e : seF cs f x = some dv) (xr : XR G F x cls d) (hi : σ[i]? = some (some (.ref a))) (hR : G.R F H ρ σ T) (hP : ∀ v, Rp G.K F v dv → Q v H) : tFld G.K i f a cls d σ H Q := by
  unfold seF at e
  split at e
  · rename_i hc
    obtain ⟨C, h1, h2, h3⟩ := xr
    obtain ⟨k1, k2⟩ := hC _ C hc h1
    have ex : ∃ C, cls = .ref C ∧ XfC G.K C ∧ PySem.W.findIn G.K (.ref C) f = some none := ⟨C, h2, k1, k2⟩
    unfold tFld
    rw [dif_pos ex]
    obtain ⟨m1, m2, m3⟩ := ex.choose_spec
    rcases h3 with ⟨h4, _⟩ | ⟨dd, fvs, h4, h5, h6⟩
    · rw [h4] at e; cases e
    · obtain ⟨v, l, r⟩ := lookup_ks h6 e
      exact ⟨.ref a, hi, rfl, m1, dd, fvs, v, h4, hR.sub _ _ h5, l, hP v r⟩
  · cases e
theorem se_fld {cs : List Str} {f : Str} {p pos : Pos} (hn : ∀ j a oe pn, PE ((X j).suite a ((a, oe) :: pn)) (.Name n p) (tVar i)) (hK : ∀ j, (X j).K = G.K) (hC : ∀ c C, cs.contains c = true → G.mg c = some (.ref C) → XfC G.K C ∧ PySem.W.findIn G.K (.ref C) f = some none)
    (hb : ∀ j, attributeBase (.Name n p) f (X j).env (eval (.Name n p) (X j).env) = eval (.Name n p) (X j).env) : SE G X i (.Attribute (.Name n p) f pos) (fun x => (seF cs f x).map .fz) :=
  ⟨fun a cls d => tFld G.K i f a cls d, fun j a oe cls d pn hz hf => pe_fld hn hK hz hf hb, fun a cls d x c F H ρ σ T Q e xr hi hR hP => by
    dsimp only at e
    cases q : seF cs f x with
    | none => rw [q] at e; cases e
    | some dv =>
      rw [q] at e
      cases e
      exact snd_fld hC q xr hi hR fun v r => hP F H v (Same.refl _) (hR.push r)⟩
theorem ses_nil : SEs G X i [] (fun _ => some []) := ⟨fun _ _ _ => tNil, fun _ _ _ _ _ _ _ _ => pa_nil, fun a cls d x ds F H ρ σ T Q e _ _ hR hP => by
  cases e
  exact hP [] .nil⟩
theorem ses_fld {cs : List Str} {f : Str} {p pos : Pos} {es : List Expr} {g : Ex → Option (List D)} (hn : ∀ j a oe pn, PE ((X j).suite a ((a, oe) :: pn)) (.Name n p) (tVar i)) (hK : ∀ j, (X j).K = G.K) (hC : ∀ c C, cs.contains c = true → G.mg c = some (.ref C) → XfC G.K C ∧ PySem.W.findIn G.K (.ref C) f = some none)
    (hb : ∀ j, attributeBase (.Name n p) f (X j).env (eval (.Name n p) (X j).env) = eval (.Name n p) (X j).env) (hs : ∀ j, starEach (.Attribute (.Name n p) f pos :: es) (X j).env = (false, eval (.Attribute (.Name n p) f pos) (X j).env) :: starEach es (X j).env) (hr : SEs G X i es g) :
    SEs G X i (.Attribute (.Name n p) f pos :: es) (fun x => (seF cs f x).bind fun d => (g x).map (d :: ·)) := by
  obtain ⟨t, h1, h2⟩ := hr
  refine ⟨fun a cls d => tCons (tFld G.K i f a cls d) (t a cls d), fun j a oe cls d pn hz hf => pa_cons (pe_fld hn hK hz hf hb) (h1 j a oe cls d pn hz hf) (hs j), fun a cls d x ds F H ρ σ T Q e xr hi hR hP => ?_⟩
  dsimp only at e
  cases q : seF cs f x with
  | none => rw [q] at e; cases e
  | some dv =>
    rw [q] at e
    cases q2 : g x with
    | none => rw [q2] at e; cases e
    | some ds2 =>
      rw [q2] at e
      cases e
      exact snd_fld hC q xr hi hR fun v r => h2 a cls d x ds2 F H ρ σ T _ q2 xr hi hR fun vs rs => hP _ (.cons r rs)
theorem ses_str {s : Str} {k : Nat} {pos : Pos} {es : List Expr} {g : Ex → Option (List D)} (hs : ∀ j, starEach (.Constant (.str s) k pos :: es) (X j).env = (false, eval (.Constant (.str s) k pos) (X j).env) :: starEach es (X j).env) (hr : SEs G X i es g) :
    SEs G X i (.Constant (.str s) k pos :: es) (fun x => (g x).map (.str s :: ·)) := by
  obtain ⟨t, h1, h2⟩ := hr
  refine ⟨fun a cls d => tCons (tC (.str s)) (t a cls d), fun j a oe cls d pn hz hf => pa_cons pe_str (h1 j a oe cls d pn hz hf) (hs j), fun a cls d x ds F H ρ σ T Q e xr hi hR hP => ?_⟩
  dsimp only at e
  cases q2 : g x with
  | none => rw [q2] at e; cases e
  | some ds2 =>
    rw [q2] at e
    cases e
    exact h2 a cls d x ds2 F H ρ σ T _ q2 xr hi hR fun vs rs => hP _ (.cons (.str s) rs)
theorem se_lst {es : List Expr} {pos : Pos} {g : Ex → Option (List D)} (h : SEs G X i es g) (hg : ∀ x ds, g x = some ds → ds.length ≤ 1000) : SE G X i (.List es pos) (fun x => (g x).map .lst) := by
  obtain ⟨t, h1, h2⟩ := h
  refine ⟨fun a cls d => tLst (t a cls d), fun j a oe cls d pn hz hf => pe_lst (h1 j a oe cls d pn hz hf), fun a cls d x c F H ρ σ T Q e xr hi hR hP => ?_⟩
  dsimp only at e
  cases q : g x with
  | none => rw [q] at e; cases e
  | some ds =>
    rw [q] at e
    cases e
    refine h2 a cls d x ds F H ρ σ T _ q xr hi hR fun vs rs => ⟨by rw [rs.length]; exact line1000 (hg x ds q), fun p hp => ?_⟩
    exact hP F _ (.ref p) (Same.refl _) (hR.newLst hp rs)

/-! ### the suite: t = EXPR if isinstance(e, C) else .. -/
def fSu (k : Nat) (sub : Ex → Bool) (f : Ex → Option Cl) : Ex → FS := fun x _ ρ => if sub x = true then match f x with
  | some c => if k < ρ.length then some (.nx (ρ.set k (some c))) else none
  | none => none
  else none
def SU (G : Gd) (X : ι → Cx) (P : List Nat) (i : Nat) (st : List Stmt) (f : Ex → FS) : Prop :=
  ∃ t : Addr → Value → Option Addr → TS, (∀ j a oe cls d pn, Zc cls d oe → (∃ vs, oe.data = .fields vs) → PSs ((X j).suite a ((a, oe) :: pn)) st (t a cls d)) ∧
    ∀ a cls d x n o F H ρ σ T (D : Ends), f x n ρ = some o → XR G F x cls d → σ[i]? = some (some (.ref a)) → G.R F H ρ σ T → PoS G W0 P F σ T D o → t a cls d D σ H
open Classical in
noncomputable def tIsF (K : PySem.W.Frag) (cv : Addr) (i : Nat) (a : Addr) (cls : Value) (d : Option Addr) : TE :=
  if h : ∃ C, cls = .ref C ∧ EcK K C then tCB (rIsF K h.choose d a) (tCons (tVar i) (tCons (tC (.ref cv)) tNil)) else tE0
theorem su_isf {k : Nat} {c : Str} {cv : Addr} {ex orl : Expr} {f : Ex → Option Cl} {sub : Ex → Bool} {P : List Nat} {q1 q2 q3 q4 q5 : Pos} {st : Stmt} (hK : ∀ j, (X j).K = G.K) (hn : ∀ j a oe pn, PE ((X j).suite a ((a, oe) :: pn)) (.Name n q2) (tVar i)) (hk : k ∉ P)
    (hg : ∀ j, Gl (X j) "isinstance") (hm : ∀ j, (X j).mg "isinstance" = none) (hgC : ∀ j, Gl (X j) c) (hmC : ∀ j, (X j).mg c = some (.ref cv)) (hcd : (c == ("__debug__" : Str)) = false)
    (hs1 : ∀ j, starEach [.Name n q2, .Name c q3] (X j).env = (false, eval (.Name n q2) (X j).env) :: starEach [.Name c q3] (X j).env) (hs2 : ∀ j, starEach [.Name c q3] (X j).env = (false, eval (.Name c q3) (X j).env) :: starEach [] (X j).env) (hpl : ∀ j, (backTo q4 (starEach [.Name c q3] (X j).env)).any (·.1) = false)
    (hst : ∀ j a oe pn te, PE ((X j).suite a ((a, oe) :: pn)) (.IfExp (.Call (.Name "isinstance" q1) [.Name n q2, .Name c q3] [] q4) ex orl q5) te → PS ((X j).suite a ((a, oe) :: pn)) st (tAsg te (gName k)))
    (hv : ∀ j a oe pn whole, isTrue (.Call (.Name "isinstance" q1) [.Name n q2, .Name c q3] [] q4) ((X j).suite a ((a, oe) :: pn)).env whole = (do let v ← whole; standAt (Expr.pos (.Call (.Name "isinstance" q1) [.Name n q2, .Name c q3] [] q4)); holding [v] (truthy v)))
    (hsub : ∀ x C, sub x = true → G.mg x.cls = some (.ref C) → EcK G.K C ∧ PySem.W.kitOne G.K (.ref C) (.ref cv) = some true)
    (ha : SE G X i ex f) (hb : ∃ t, ∀ j a oe pn, PE ((X j).suite a ((a, oe) :: pn)) orl t) : SU G X P i [st] (fSu k sub f) := by
  obtain ⟨t, h1, h2⟩ := ha
  obtain ⟨u, h3⟩ := hb
  refine ⟨fun a cls d => tAsg (tIf (tB (tIsF G.K cv i a cls d)) (t a cls d) u) (gName k), fun j a oe cls d pn hz hf => pss_one (hst j a oe pn _ (pe_ifExp (pt_val ?_ (hv j a oe pn)) (h1 j a oe cls d pn hz hf) (h3 j a oe pn))), ?_⟩
  · unfold tIsF
    split
    · rename_i h
      obtain ⟨m1, m2⟩ := h.choose_spec
      have m2' : EcK (X j).K h.choose := by rw [hK j]; exact m2
      have hz' : Zc (.ref h.choose) d oe := by rw [← m1]; exact hz
      have := pe_callB (x := "isinstance") (p := q1) (pos := q4) (call_isF (X := X j) (a := a) (pn := pn) m2' hz' hf) (hg j) (hm j) (by decide +kernel) (pa_cons (hn j a oe pn) (pa_cons (pe_glob (v := .ref cv) (hgC j) (hmC j) rfl hcd) pa_nil (hs2 j)) (hs1 j)) (by decide) (by decide) (hs1 j) (hpl j)
      have eK : ((X j).suite a ((a, oe) :: pn)).K = G.K := hK j
      rw [show rIsF (X j).K h.choose d a = rIsF G.K h.choose d a from by rw [hK j]] at this
      exact this
    · exact pe_no
  · intro a cls d x n o F H ρ σ T D e xr hi hR hP
    unfold fSu at e
    split at e
    · rename_i hsb
      obtain ⟨C, x1, x2, x3⟩ := id xr
      obtain ⟨m1, m2⟩ := hsub x C hsb x1
      have hex : ∃ C, cls = .ref C ∧ EcK G.K C := ⟨C, x2, m1⟩
      cases q : f x with
      | none => rw [q] at e; cases e
      | some cc =>
        rw [q] at e
        dsimp only at e
        split at e
        · rename_i hl
          cases e
          show tIsF G.K cv i a cls d σ H _
          unfold tIsF
          rw [dif_pos hex]
          obtain ⟨y1, y2⟩ := hex.choose_spec
          have eC : hex.choose = C := Value.ref.inj (y1.symm.trans x2)
          rw [eC]
          refine ⟨.ref a, hi, ?_⟩
          refine ⟨.ref cv, .ref cv, true, rfl, fun u h => h, m2, ?_, true, rfl, ?_⟩
          · rcases x3 with ⟨_, x4⟩ | ⟨dd, fvs, x4, x5, _⟩
            · exact .inl x4
            · exact .inr ⟨dd, fvs, x4, hR.sub _ _ x5⟩
          · show if true = true then _ else _
            rw [if_pos rfl]
            exact h2 a cls d x cc F H ρ σ T _ q xr hi hR fun F' H' v s' R' => hP F' H' _ s' (R'.set hl) (Kp.set hk)
        · cases e
    · cases e
end

/-! ### try -/
inductive HdX {ι : Type} (G : Gd) (X : ι → Cx) (P : List Nat) (i : Nat) (n : Str) : List ExceptHandler → List ((Ex → Option Bool) × (Ex → FS)) → Prop
  | nil : HdX G X P i n [] []
  | cons {x : Str} {cv : Addr} {sub : Ex → Option Bool} {f : Ex → FS} {b₀ : Stmt} {suite : List Stmt} {np pos' : Pos} {hds : List ExceptHandler} {l : List ((Ex → Option Bool) × (Ex → FS))} (hc : ∀ j, Names (X j) x (.ref cv))
      (hsub : ∀ e C b, sub e = some b → G.mg e.cls = some (.ref C) → PySem.W.exmOne G.K (.ref C) (.ref cv) = some b) (hsu : SU G X P i (b₀ :: suite) f) (r : HdX G X P i n hds l) :
      HdX G X P i n (.ExceptHandler (some (.Name x np)) (some n) (b₀ :: suite) pos' :: hds) ((sub, f) :: l)
def Ot.gone (i : Nat) : Ot → Option Ot
  | .nx ρ => some (.nx (ρ.set i none))
  | .rt c ρ => some (.rt c ρ)
  | .bk ρ => some (.bk (ρ.set i none))
  | .ct ρ => some (.ct (ρ.set i none))
  | .ex _ _ => none
def hdl (i : Nat) : List ((Ex → Option Bool) × (Ex → FS)) → Ex → FS
  | [], x, _, ρ => some (.ex x ρ)
  | (sub, f) :: l, x, n, ρ => match sub x with
    | some true => if i < ρ.length then (f x n (ρ.set i none)).bind (Ot.gone i) else none
    | some false => hdl i l x n ρ
    | none => none
def sTry (i : Nat) (fb : FS) (l : List ((Ex → Option Bool) × (Ex → FS))) : FS := fun n ρ => match fb n ρ with
  | some (.ex x ρ1) => hdl i l x n ρ1
  | o => o
abbrev TrI (ι : Type) := ι × List (Addr × Obj) × (Value → Shared → Prop)
abbrev trX {ι : Type} (X : ι → Cx) (W : WX) : {p : TrI ι // Takes ((X p.1).tr p.2.1 p.2.2) W ∧ PassesOwn (model (X p.1).prog (X p.1).w) (X p.1).A (X p.1).env p.2.2} → Cx := fun p => (X p.1.1).tr p.1.2.1 p.1.2.2
section
variable {ι : Type} {G : Gd} {X : ι → Cx} {W : WX} {P : List Nat} {i : Nat} {n : Str}
theorem hdx_out {hds : List ExceptHandler} {l : List ((Ex → Option Bool) × (Ex → FS))} (h : HdX G X P i n hds l) : ∃ L : List (Value × (Addr → Value → Option Addr → TS)), (∀ j, HdsAs (X j) n hds L) ∧
    ∀ (D : Ends) x cls d k ρ o F H σ T, i ∉ P → hdl i l x k ρ = some o → XR G F x cls d → G.R F H ρ σ T → PoS G W P F σ T D o → wManyAs G.K i W D L cls d σ H := by
  induction h with
  | nil => exact ⟨[], fun _ => .nil, fun D x cls d k ρ o F H σ T _ e xr hR hP => by
      cases e
      exact hP F H σ cls d (Same.refl _) hR (Kp.refl _) xr⟩
  | @cons x cv sub f b₀ suite np pos' hds l hc hsub hsu r ih =>
    obtain ⟨L, h1, h2⟩ := ih
    obtain ⟨t, h3, h4⟩ := hsu
    refine ⟨(.ref cv, t) :: L, fun j => .cons (hc j) (fun a oe cls d pn => h3 j a oe cls d pn) (h1 j), fun D x cls d k ρ o F H σ T hi e xr hR hP => ?_⟩
    obtain ⟨C, x1, x2, x3⟩ := id xr
    unfold hdl at e
    cases q : sub x with
    | none => rw [q] at e; cases e
    | some b =>
      rw [q] at e
      refine ⟨b, by rw [x2]; exact hsub x C b q x1, ?_, ?_⟩
      · rintro rfl a na
        dsimp only at e
        split at e
        · rename_i hl
          cases q2 : f x k (ρ.set i none) with
          | none => rw [q2] at e; cases e
          | some o2 =>
            rw [q2] at e
            have e : Ot.gone i o2 = some o := e
            refine h4 a cls d x k o2 F H _ _ T _ q2 xr (List.getElem?_set_self (by rw [← hR.ok.len]; exact hl)) (hR.gone i _) ?_
            cases o2 with
            | nx ρ' => cases e; exact fun F' H' σ' s' R' k' => hP F' H' _ s' (R'.gone i none) ((Kp.set hi).trans (k'.trans (Kp.set hi)))
            | rt c ρ' => cases e; exact fun F' H' σ' v s' R' k' => hP F' H' σ' v s' R' ((Kp.set hi).trans k')
            | bk ρ' => cases e; exact fun F' H' σ' s' R' k' => hP F' H' _ s' (R'.gone i none) ((Kp.set hi).trans (k'.trans (Kp.set hi)))
            | ct ρ' => cases e; exact fun F' H' σ' s' R' k' => hP F' H' _ s' (R'.gone i none) ((Kp.set hi).trans (k'.trans (Kp.set hi)))
            | ex x ρ' => cases e
        · cases e
      · rintro rfl
        exact h2 D x cls d k ρ o F H σ T hi e xr hR hP
theorem xs_try {body : List Stmt} {h₀ : ExceptHandler} {hds : List ExceptHandler} {l : List ((Ex → Option Bool) × (Ex → FS))} {pos : Pos} {fb : FS} (hK : ∀ j, (X j).K = G.K) (hs : ∀ j, (X j).stack = (X j).env :: (X j).outer) (hf : ∀ j, (X j).env.frame = some (X j).env.locals) (hN : ∀ j, (X j).N.Nodup) (hi : ∀ j, (X j).N[i]? = some n) (hln : ∀ j, (X j).env.kindOf n = some .local)
    (hiP : i ∉ P) (tk : ∀ j, Takes (X j) W) (hb : ∀ Wb, XSs G (trX X Wb) Wb P body fb) (hh : HdX G X P i n (h₀ :: hds) l) : XS G X W P (.Try body (h₀ :: hds) [] [] pos) (sTry i fb l) := by
  obtain ⟨L, h1, h2⟩ := hdx_out (W := W) hh
  refine ⟨fun D σ H => (hb (wManyAs G.K i W D L)).choose D σ H, fun j => ?_, fun k ρ o e F H σ T D hR hP => ?_⟩
  · have := ps_try_manyAs (X := X j) (pos := pos) (tb := fun W' => (hb W').choose) (hs j) (hf j) (hN j) (hi j) (hln j) (tk j) (fun W' pn xe t1 t2 => (hb W').choose_spec.1 ⟨(j, pn, xe), t1, t2⟩) (h1 j)
    rw [hK j] at this
    exact this
  · unfold sTry at e
    cases q : fb k ρ with
    | none => rw [q] at e; cases e
    | some o1 =>
      rw [q] at e
      refine (hb (wManyAs G.K i W D L)).choose_spec.2 k ρ o1 q F H σ T D hR ?_
      cases o1 with
      | ex x ρ1 => exact fun F' H' σ' cls d s' R' k' xr => h2 D x cls d k ρ1 o F' H' σ' T hiP e xr R' (hP.mono s' k')
      | nx ρ1 => cases e; exact hP
      | rt c ρ1 => cases e; exact hP
      | bk ρ1 => cases e; exact hP
      | ct ρ1 => cases e; exact hP
end
end L3

set_option maxHeartbeats 1000000
namespace L2
open PySem PySem.Spec PyProof.Rows
/-- xs[i] of a list, i counted from either end -/
theorem get_listL {X : Cx} : PGet X (rIxL X.K) := by
  rintro pins s σ H _ _ v _ Q I rx ry ⟨p, xs, i, z, rfl, rfl, hq, he, q⟩
  have ⟨t, e⟩ := ry
  cases rx
  cases e
  have ⟨its, rel, pl, _⟩ := I.list hq
  have ⟨j, ix, hz, _, lo, hi⟩ := atI_get he
  have ⟨u, hu, ru⟩ := rel.get hz
  have got : EP X pins σ Q u s := ⟨z, H, I, ru, q⟩
  have item : ∀ m, m = j → its.toArray[m]? = some u := fun m e => e ▸ (List.getElem?_toArray ..).trans hu
  have size : its.toArray.size = xs.length := rel.length.symm
  have big := line63
  rcases Int.lt_or_le i 0 with neg | pos
  · refine wpAny_getItem_list_neg pl.isList neg (size ▸ lo) (by omega) (item _ ?_) got
    rw [size]
    exact Option.some.inj ((seqIndex_neg neg lo).symm.trans ix)
  · exact wpAny_getItem_list pl.isList pos (by omega) (item _ (Option.some.inj ((seqIndex_of pos hi).symm.trans ix))) got
end L2
namespace L3
open PySem PySem.Spec L2
section
variable {ι : Type} {G : Gd} {X : ι → Cx} {W : WX} {P : List Nat} {e ie : Expr} {pos : Pos}
/-- the cell of slot k changed -/
def setIx (ρ : En) (k : Nat) (j d : D) : Option En := match (ρ[k]?).join with
  | some (.lst ds) => match j with
    | .int i => match ixN ds.length i with
      | some m => some (ρ.set k (some (.lst (ds.set m d))))
      | none => none
    | _ => none
  | _ => none
theorem setIx_ok {F H : Hp} {ρ ρ' : En} {σ : L2.St} {T : List (Cl × V)} {k : Nat} {j d : D} {vj vd o : V} (e : setIx ρ k j d = some ρ') (hR : G.R F H ρ σ T) (rj : Rp G.K F vj j) (rd : Rp G.K F vd d) (ho : σ[k]? = some (some o)) {Q : Hp → Prop} (hQ : ∀ H', G.R F H' ρ' σ T → Q H') : rSetL o vj vd H Q := by
  unfold setIx at e
  split at e
  · rename_i ds q
    split at e
    · rename_i i
      split at e
      · rename_i m qm
        cases e
        cases rj
        obtain ⟨w, h1, R'⟩ := R.take hR (join_some q)
        rw [ho] at h1
        cases h1
        obtain ⟨A, cr⟩ := R'.cr
        cases cr with
        | lst h1 h2 r =>
          refine ⟨_, _, i, m, rfl, rfl, h1, by rw [r.length]; exact qm, hQ _ ?_⟩
          have R2 : G.R F (upd H _ (.lst (_))) (ρ.set k none) σ ((.lst (ds.set m d), .ref _) :: T) :=
            .mk' (R'.hr'.mut (fun A h => by cases h; rfl) (.lst upd_same h2 (r.set m rd))) R'.ok
          have hk : k < ρ.length := (List.getElem?_eq_some_iff.mp (join_some q)).1
          have R3 := R.put R2 (c := .lst (ds.set m d)) (i := k) (by rw [List.getElem?_set_self hk]) ho
          rw [List.set_set] at R3
          exact R3
      · cases e
    · cases e
  · cases e
def sSetIx (k : Nat) (fe fi : Fn Bv) : FS := fun n ρ => bS (fFz fe n ρ) fun c ρ1 => match c with
  | .fz d => if ((ρ1[k]?).join).isSome = true then bS (fFz fi n ρ1) fun c2 ρ2 => match c2 with
    | .fz j => match setIx ρ2 k j d with
      | some ρ3 => some (.nx ρ3)
      | none => none
    | _ => none
  else none
  | _ => none
theorem slot_of {F H : Hp} {ρ : En} {σ : L2.St} {T : List (Cl × V)} {k : Nat} (hR : G.R F H ρ σ T) (h : ((ρ[k]?).join).isSome = true) : ∃ o, σ[k]? = some (some o) := by
  obtain ⟨c, hc⟩ := Option.isSome_iff_exists.mp h
  obtain ⟨v, h1, _⟩ := hR.at (join_some hc)
  exact ⟨v, h1⟩
theorem xs_setIx {k : Nat} {x : Str} {px ps : Pos} {fe fi : Fn Bv} (hx : ∀ j, PE (X j) (.Name x px) (tVar k)) (hi : XB G X W ie fi) (he : XB G X W e fe)
    (hs : ∀ j, swapsWithSole [.Subscript (.Name x px) ie ps] e pos.line (X j).env = pure false) (hw : ∀ j, swappedStores [.Subscript (.Name x px) ie ps] e (X j).env = pure none) (h1 : ∀ j, (assignEach [.Subscript (.Name x px) ie ps] (X j).env).map (·.2) = [assign (.Subscript (.Name x px) ie ps) (X j).env])
    (ha : ∀ j v, assign (.Subscript (.Name x px) ie ps) (X j).env v = (do
      let ov ← holding [v] (eval (.Name x px) (X j).env)
      let iv ← holding [v, ov] (eval ie (X j).env)
      standAt ps
      holding [v, ov, iv] (setItem ov iv v)
      release [v, ov, iv] [])) : XS G X W P (.Assign [.Subscript (.Name x px) ie ps] e pos) (sSetIx k fe fi) := by
  obtain ⟨ti, a1, a2⟩ := hi
  obtain ⟨te, b1, b2⟩ := he
  refine ⟨_, fun j => ps_asg (b1 j) (pg_sub (hx j) (a1 j) set_list (ha j)) (hs j) (hw j) (h1 j), fun n ρ o eq F H σ T D hR hP => ?_⟩
  unfold sSetIx at eq
  cases q : fFz fe n ρ with
  | none => rw [q] at eq; cases eq
  | some r1 =>
    rw [q] at eq
    refine snd_fz b2 n ρ r1 q F H σ T _ hR ?_
    cases r1 with
    | ex x ρ' => cases eq; exact hP.px
    | ok c ρ1 =>
      rw [bS_ok] at eq
      intro F1 H1 v s1 R1
      cases c with
      | fz d =>
        dsimp only at eq
        split at eq
        · rename_i hk
          obtain ⟨ov, ho⟩ := slot_of R1 hk
          refine ⟨ov, ho, ?_⟩
          cases q2 : fFz fi n ρ1 with
          | none => rw [q2] at eq; cases eq
          | some r2 =>
            rw [q2] at eq
            refine snd_fz a2 n ρ1 r2 q2 F1 H1 σ _ _ R1 ?_
            cases r2 with
            | ex x ρ' =>
              cases eq
              exact fun F' H' cls d s r xr => hP F' H' σ cls d (s1.trans s) r.tail (Kp.refl _) xr
            | ok c2 ρ2 =>
              rw [bS_ok] at eq
              intro F2 H2 v2 s2 R2
              cases c2 with
              | fz dj =>
                dsimp only at eq
                cases q3 : setIx ρ2 k dj d with
                | none => rw [q3] at eq; cases eq
                | some ρ3 =>
                  rw [q3] at eq
                  cases eq
                  refine setIx_ok q3 R2.tail.tail R2.rp R2.tail.rp ho fun H' R' => hP F2 H' σ (s1.trans s2) R' (Kp.refl _)
              | lst _ => cases eq
              | dct _ => cases eq
              | dtt _ => cases eq
              | dlk _ => cases eq
              | bx _ _ => cases eq
              | ins _ _ => cases eq
        · cases eq
      | lst _ => cases eq
      | dct _ => cases eq
      | dtt _ => cases eq
      | dlk _ => cases eq
      | bx _ _ => cases eq
      | ins _ _ => cases eq
/-! ### op= -/
def SndIp (G : Gd) (t : TIp) (g : D → D → Option D) : Prop := ∀ a b d, g a b = some d → ∀ F H va vb (Q : VK), Rp G.K F va a → Rp G.K F vb b → (∀ v, Rp G.K F v d → Q v H) → t va vb H Q
def gIp (f : Int → Int → Int) : D → D → Option D := fun a b => match a, b with
  | .int i, .int j => some (.int (f i j))
  | _, _ => none
theorem snd_ipI {f : Int → Int → Int} : SndIp G (ipI f) (gIp f) := fun a b d e F H va vb Q ra rb hQ => by
  unfold gIp at e
  split at e
  · rename_i i j
    cases e
    cases ra
    cases rb
    exact ⟨i, j, rfl, rfl, hQ _ (.int _)⟩
  · cases e
def getIx (ρ : En) (k : Nat) (j : D) : Option D := match (ρ[k]?).join with
  | some (.lst ds) => match j with
    | .int i => atI ds i
    | _ => none
  | _ => none
theorem RpA.atI {K : PySem.W.Frag} {F : Hp} {vs : List V} {ds : List D} {i : Int} {d : D} (r : RpA K F vs ds) (e : L2.atI ds i = some d) : ∃ v, L2.atI vs i = some v ∧ Rp K F v d := by
  unfold L2.atI at e ⊢
  rw [r.length]
  cases q : ixN ds.length i with
  | none => rw [q] at e; cases e
  | some j =>
    rw [q] at e
    exact r.get e
def sAugIx (k : Nat) (fi fe : Fn Bv) (g : D → D → Option D) : FS := fun n ρ => if ((ρ[k]?).join).isSome = true then bS (fFz fi n ρ) fun c ρ1 => match c with
  | .fz j => match getIx ρ1 k j with
    | some a => bS (fFz fe n ρ1) fun c2 ρ2 => match c2 with
      | .fz b => match g a b with
        | some d => match setIx ρ2 k j d with
          | some ρ3 => some (.nx ρ3)
          | none => none
        | none => none
      | _ => none
    | none => none
  | _ => none
  else none
theorem xs_augIx {k : Nat} {x : Str} {px ps : Pos} {fe fi : Fn Bv} {op : Operator} {tip : TIp} {g : D → D → Option D} (hK : ∀ i, (X i).K = G.K) (hx : ∀ j, PE (X j) (.Name x px) (tVar k)) (hi : XB G X W ie fi) (he : XB G X W e fe) (hp : ∀ j, PIp (X j) op tip) (hg : SndIp G tip g)
    (ha : ∀ ov iv new, augStore ie ov iv new = (do holding [new, ov, iv] (setItem ov iv new); release [new, ov, iv] []; pure .next)) : XS G X W P (.AugAssign (.Subscript (.Name x px) ie ps) op e pos) (sAugIx k fi fe g) := by
  obtain ⟨ti, a1, a2⟩ := hi
  obtain ⟨te, b1, b2⟩ := he
  refine ⟨_, fun j => by
    have := ps_augS (pos := pos) (tpos := ps) (hx j) (a1 j) get_listL (b1 j) (hp j) set_list ha
    rw [hK j] at this
    exact this, fun n ρ o eq F H σ T D hR hP => ?_⟩
  unfold sAugIx at eq
  split at eq
  case isFalse => cases eq
  rename_i hk
  obtain ⟨ov, ho⟩ := slot_of hR hk
  refine ⟨ov, ho, ?_⟩
  cases q : fFz fi n ρ with
  | none => rw [q] at eq; cases eq
  | some r1 =>
    rw [q] at eq
    refine snd_fz a2 n ρ r1 q F H σ T _ hR ?_
    cases r1 with
    | ex x ρ' => cases eq; exact hP.px
    | ok c ρ1 =>
      rw [bS_ok] at eq
      intro F1 H1 v s1 R1
      cases c with
      | fz dj =>
        dsimp only at eq
        cases q1 : getIx ρ1 k dj with
        | none => rw [q1] at eq; cases eq
        | some da =>
          rw [q1] at eq
          dsimp only at eq
          unfold getIx at q1
          split at q1
          case h_2 => cases q1
          rename_i ds qd
          split at q1
          case h_2 => cases q1
          rename_i i
          obtain ⟨w, g1, A, cr⟩ := R1.at (join_some qd)
          rw [ho] at g1
          cases g1
          cases cr with
          | @lst p xs _ h1 h2 r =>
            obtain ⟨va, k1, k2⟩ := r.atI q1
            have ri := R1.rp
            cases ri
            refine ⟨p, xs, i, va, rfl, rfl, .inl (.inl h1), k1, ?_⟩
            have R1 := R1.push k2
            cases q2 : fFz fe n ρ1 with
            | none => rw [q2] at eq; cases eq
            | some r2 =>
              rw [q2] at eq
              refine snd_fz b2 n ρ1 r2 q2 F1 H1 σ _ _ R1 ?_
              cases r2 with
              | ex x ρ' =>
                cases eq
                exact fun F' H' cls d s r xr => hP F' H' σ cls d (s1.trans s) r.tail.tail (Kp.refl _) xr
              | ok c2 ρ2 =>
                rw [bS_ok] at eq
                intro F2 H2 v2 s2 R2
                cases c2 with
                | fz db =>
                  dsimp only at eq
                  cases q3 : g da db with
                  | none => rw [q3] at eq; cases eq
                  | some dd =>
                    rw [q3] at eq
                    dsimp only at eq
                    cases q4 : setIx ρ2 k (.int i) dd with
                    | none => rw [q4] at eq; cases eq
                    | some ρ3 =>
                      rw [q4] at eq
                      cases eq
                      refine hg da db dd q3 F2 H2 va v2 _ (k2.mono s2) R2.rp fun v3 r3 => ?_
                      exact setIx_ok q4 R2.tail.tail.tail (.int i) r3 ho fun H' R' => hP F2 H' σ (s1.trans s2) R' (Kp.refl _)
                | lst _ => cases eq
                | dct _ => cases eq
                | dtt _ => cases eq
                | dlk _ => cases eq
                | bx _ _ => cases eq
                | ins _ _ => cases eq
      | lst _ => cases eq
      | dct _ => cases eq
      | dtt _ => cases eq
      | dlk _ => cases eq
      | bx _ _ => cases eq
      | ins _ _ => cases eq
/-- name op= e -/
def sAug (k : Nat) (fe : Fn Bv) (g : D → D → Option D) : FS := fun n ρ => match (ρ[k]?).join with
  | some (.fz a) => bS (fFz fe n ρ) fun c ρ1 => match c with
    | .fz b => match g a b with
      | some d => if k < ρ1.length then some (.nx (ρ1.set k (some (.fz d)))) else none
      | none => none
    | _ => none
  | _ => none
theorem xs_aug {k : Nat} {x : Str} {px : Pos} {fe : Fn Bv} {op : Operator} {tip : TIp} {g : D → D → Option D} (hk : k ∉ P) (hp : ∀ te, (∀ j, PE (X j) e te) → ∀ j, PS (X j) (.AugAssign (.Name x px) op e pos) (tAug k te tip)) (he : XB G X W e fe) (hg : SndIp G tip g) :
    XS G X W P (.AugAssign (.Name x px) op e pos) (sAug k fe g) := by
  obtain ⟨te, b1, b2⟩ := he
  refine ⟨_, hp te b1, fun n ρ o eq F H σ T D hR hP => ?_⟩
  unfold sAug at eq
  split at eq
  case h_2 => cases eq
  rename_i a qa
  obtain ⟨va, g1, R0⟩ := R.take hR (join_some qa)
  have ra := R0.rp
  refine ⟨va, g1, ?_⟩
  cases q2 : fFz fe n ρ with
  | none => rw [q2] at eq; cases eq
  | some r2 =>
    rw [q2] at eq
    refine snd_fz b2 n ρ r2 q2 F H σ _ _ hR ?_
    cases r2 with
    | ex x ρ' => cases eq; exact hP.px
    | ok c2 ρ2 =>
      rw [bS_ok] at eq
      intro F2 H2 v2 s2 R2
      cases c2 with
      | fz db =>
        dsimp only at eq
        cases q3 : g a db with
        | none => rw [q3] at eq; cases eq
        | some dd =>
          rw [q3] at eq
          dsimp only at eq
          split at eq
          · rename_i hl
            cases eq
            refine hg a db dd q3 F2 H2 va v2 _ (ra.mono s2) R2.rp fun v3 r3 => ?_
            exact hP F2 H2 _ s2 ((R2.tail.push r3).set hl) (Kp.set hk)
          · cases eq
      | lst _ => cases eq
      | dct _ => cases eq
      | dtt _ => cases eq
      | dlk _ => cases eq
      | bx _ _ => cases eq
      | ins _ _ => cases eq
end
end L3

namespace L3
open PySem PySem.Spec L2
/-! ### small checks for printed texts -/
def blkB (N : List Str) (sc scope : Scope) (own : List (Str × Nat)) : Bool :=
  (scope.kind == .function) && (scope.names.all fun y => scope.names.lookup y.1 == some y.2) && (own.all fun p => N[p.2]? == some p.1) &&
  (scope.names.all fun y => !(y.2 == .free) || (sc.names.lookup y.1 == some .cell || sc.names.lookup y.1 == some .free)) &&
  (scope.names.all fun y => !(y.2 == .local || y.2 == .cell) || ((own.map (·.1)).contains y.1 || !(N.contains y.1)))
theorem nk_eq {a b : NameKind} (h : (a == b) = true) : a = b := by
  cases a <;> cases b <;> first | rfl | cases h
theorem nko_eq {a : Option NameKind} {b : NameKind} (h : (a == some b) = true) : a = some b := by
  cases a with
  | none => cases h
  | some a => exact congrArg some (nk_eq h)
theorem nko_eq' {a b : Option NameKind} (h : (a == b) = true) : a = b := by
  cases b with
  | none => cases a with
    | none => rfl
    | some _ => cases h
  | some b => exact nko_eq h
theorem sk_eq {a b : ScopeKind} (h : (a == b) = true) : a = b := by
  cases a <;> cases b <;> first | rfl | cases h
theorem nk_rfl (a : NameKind) : (a == a) = true := by cases a <;> rfl
theorem blkB_ok {N : List Str} {sc scope : Scope} {own : List (Str × Nat)} (h : blkB N sc scope own = true) : BlkOk N sc scope own := by
  unfold blkB at h
  rw [Bool.and_eq_true, Bool.and_eq_true, Bool.and_eq_true, Bool.and_eq_true] at h
  obtain ⟨⟨⟨⟨h1, h2⟩, h3⟩, h4⟩, h5⟩ := h
  refine ⟨sk_eq h1, fun y hy => nko_eq (List.all_eq_true.mp h2 y hy), fun p hp => ?_, fun y hy e => ?_, fun y hy e => ?_⟩
  · exact beq_iff_eq.mp (List.all_eq_true.mp h3 p hp)
  · have := List.all_eq_true.mp h4 y hy
    rw [e, nk_rfl, Bool.not_true, Bool.false_or, Bool.or_eq_true] at this
    rcases this with z | z
    · exact .inl (nko_eq z)
    · exact .inr (nko_eq z)
  · have := List.all_eq_true.mp h5 y hy
    have e' : (y.2 == NameKind.local || y.2 == NameKind.cell) = true := by
      rcases e with e | e <;> rw [e] <;> rfl
    rw [e', Bool.not_true, Bool.false_or, Bool.or_eq_true] at this
    rcases this with z | z
    · exact .inl (List.contains_iff_mem.mp z)
    · refine .inr fun m => ?_
      rw [List.contains_iff_mem.mpr m] at z
      cases z
def flB (fl : List Bool) (P : List Nat) : Bool := (List.range fl.length).all fun i => !(fl[i]? == some true) || P.contains i
theorem flB_ok {fl : List Bool} {P : List Nat} (h : flB fl P = true) : ∀ i, fl[i]? = some true → i ∈ P := fun i e => by
  have hi : i < fl.length := (List.getElem?_eq_some_iff.mp e).1
  have := List.all_eq_true.mp h i (List.mem_range.mpr hi)
  rw [e] at this
  simpa using this
theorem u65 {k : Nat} {A : Around} (hr : Room k A) : A.units + 65 < cLine := by
  have := hr.un
  omega
/-! ### tables of error classes -/
section
variable {G : Gd}
def tblO (l : List (Str × Bool)) : Ex → Option Bool := fun x => l.lookup x.cls
theorem tbl_c {cv : Addr} {p : Str × Bool} {l : List (Str × Bool)} (h : ∃ C, G.mg p.1 = some (.ref C) ∧ PySem.W.exmOne G.K (.ref C) (.ref cv) = some p.2) (r : ∀ p ∈ l, ∃ C, G.mg p.1 = some (.ref C) ∧ PySem.W.exmOne G.K (.ref C) (.ref cv) = some p.2) :
    ∀ x ∈ p :: l, ∃ C, G.mg x.1 = some (.ref C) ∧ PySem.W.exmOne G.K (.ref C) (.ref cv) = some x.2 := fun x hx => by
  rcases List.mem_cons.mp hx with e | hx
  · rw [e]; exact h
  · exact r x hx
theorem tbl_ok {cv : Addr} {l : List (Str × Bool)} (h : ∀ p ∈ l, ∃ C, G.mg p.1 = some (.ref C) ∧ PySem.W.exmOne G.K (.ref C) (.ref cv) = some p.2) : ∀ e C b, tblO l e = some b → G.mg e.cls = some (.ref C) → PySem.W.exmOne G.K (.ref C) (.ref cv) = some b := fun e C b q m => by
  obtain ⟨C', h1, h2⟩ := h (e.cls, b) (PySem.mem_of_lookup q)
  have h1 : G.mg e.cls = some (.ref C') := h1
  rw [m] at h1
  cases h1
  exact h2
def tblB (l : List Str) : Ex → Bool := fun x => l.contains x.cls
theorem tbs_c {cv : Addr} {p : Str} {l : List Str} (h : ∃ C, G.mg p = some (.ref C) ∧ EcK G.K C ∧ PySem.W.kitOne G.K (.ref C) (.ref cv) = some true) (r : ∀ p ∈ l, ∃ C, G.mg p = some (.ref C) ∧ EcK G.K C ∧ PySem.W.kitOne G.K (.ref C) (.ref cv) = some true) :
    ∀ x ∈ p :: l, ∃ C, G.mg x = some (.ref C) ∧ EcK G.K C ∧ PySem.W.kitOne G.K (.ref C) (.ref cv) = some true := fun x hx => by
  rcases List.mem_cons.mp hx with e | hx
  · rw [e]; exact h
  · exact r x hx
theorem tbs_ok {cv : Addr} {l : List Str} (h : ∀ p ∈ l, ∃ C, G.mg p = some (.ref C) ∧ EcK G.K C ∧ PySem.W.kitOne G.K (.ref C) (.ref cv) = some true) : ∀ x C, tblB l x = true → G.mg x.cls = some (.ref C) → EcK G.K C ∧ PySem.W.kitOne G.K (.ref C) (.ref cv) = some true := fun x C q m => by
  obtain ⟨C', h1, h2⟩ := h x.cls (List.contains_iff_mem.mp q)
  rw [m] at h1
  cases h1
  exact h2
theorem tbf_c {f : Str} {p : Str} {l : List Str} (h : ∃ C, G.mg p = some (.ref C) ∧ XfC G.K C ∧ PySem.W.findIn G.K (.ref C) f = some none) (r : ∀ p ∈ l, ∃ C, G.mg p = some (.ref C) ∧ XfC G.K C ∧ PySem.W.findIn G.K (.ref C) f = some none) :
    ∀ x ∈ p :: l, ∃ C, G.mg x = some (.ref C) ∧ XfC G.K C ∧ PySem.W.findIn G.K (.ref C) f = some none := fun x hx => by
  rcases List.mem_cons.mp hx with e | hx
  · rw [e]; exact h
  · exact r x hx
theorem tbf_ok {f : Str} {l : List Str} (h : ∀ p ∈ l, ∃ C, G.mg p = some (.ref C) ∧ XfC G.K C ∧ PySem.W.findIn G.K (.ref C) f = some none) : ∀ c C, l.contains c = true → G.mg c = some (.ref C) → XfC G.K C ∧ PySem.W.findIn G.K (.ref C) f = some none := fun c C q m => by
  obtain ⟨C', h1, h2⟩ := h c (List.contains_iff_mem.mp q)
  rw [m] at h1
  cases h1
  exact h2
end
/-! ### {} -/
section
variable {ι : Type} {G : Gd} {X : ι → Cx} {W : WX} {pos : Pos}
def fDct0 : Fn Cl := fun _ ρ => some (.ok (.dct []) ρ)
theorem xe_dct0 : XE G X W (.Dict [] [] pos) fDct0 := ⟨_, fun _ => pe_dnewK, fun n ρ r e F H σ T Q hR hP => by
  cases e
  intro p hp
  exact hP F _ _ (Same.refl _) (.mk' (hR.hr.newO hp (.dct upd_same (by
    cases q : F p with
    | none => rfl
    | some o => rw [hR.sub _ _ q] at hp; cases hp) .nil)) hR.ok)⟩
end
end L3

set_option maxHeartbeats 1000000
namespace L3
open PySem PySem.Spec L2 PyProof.Rows HT
/-! ### t[::k] of a tuple, k neither 0 nor 1 -/
/-- the place where the cut of n begins, .. -/
def stpO (k : Int) (n : Nat) : Int := (Builtin.Slice.sliceAdjust none none k n).1
/-- .. how many it takes, .. -/
def stpN (k : Int) (n : Nat) : Nat := Builtin.Slice.slicePlaces (stpO k n) (Builtin.Slice.sliceAdjust none none k n).2 k
/-- .. and which -/
def stpJ (k : Int) (n : Nat) : List Nat := (List.range (stpN k n)).map fun (j : Nat) => (stpO k n + (j : Int) * k).toNat
def stpL {α : Type} (k : Int) (xs : List α) : List α := (stpJ k xs.length).filterMap fun j => xs[j]?
theorem fm_congr {α β : Type} {f g : α → Option β} {l : List α} (h : ∀ x ∈ l, f x = g x) : l.filterMap f = l.filterMap g := by
  induction l with
  | nil => rfl
  | cons x l ih =>
    have := ih fun y hy => h y (.tail _ hy)
    simp only [List.filterMap_cons, h x (.head _), this]
theorem stpL_rev {α : Type} (xs : List α) : stpL (-1) xs = xs.reverse := by
  have o : stpO (-1) xs.length = (xs.length : Int) - 1 := rfl
  have n : stpN (-1) xs.length = xs.length := by
    show (if (-1 : Int) > 0 then _ else if (xs.length : Int) - 1 > -1 then ((xs.length : Int) - 1 - -1 - 1) / - -1 + 1 else 0).toNat = _
    split
    · contradiction
    · rw [show (- -1 : Int) = 1 from rfl, Int.ediv_one]
      split <;> omega
  unfold stpL stpJ
  rw [o, n, List.filterMap_map]
  have all : ∀ ys : List α, ys.length ≤ xs.length → (∀ (j : Nat) (h : j < ys.length), xs[((xs.length : Int) - 1 + (j : Int) * -1).toNat]? = some ys[j]) → (List.range ys.length).filterMap ((fun j => xs[j]?) ∘ fun (j : Nat) => ((xs.length : Int) - 1 + (j : Int) * -1).toNat) = ys := fun ys _ h => by
    have e : (List.range ys.length).filterMap ((fun j => xs[j]?) ∘ fun (j : Nat) => ((xs.length : Int) - 1 + (j : Int) * -1).toNat) = (List.range ys.length).filterMap fun j => ys[j]? :=
      fm_congr fun j hj => (h j (List.mem_range.mp hj)).trans (List.getElem?_eq_getElem _).symm
    rw [e]
    clear e h
    induction ys with
    | nil => rfl
    | cons y ys ih => rw [List.length_cons, List.range_succ_eq_map, List.filterMap_cons, List.filterMap_map]; exact congrArg (y :: ·) (ih (by simp at *; omega))
  have := all xs.reverse (by simp) fun j h => by
    rw [List.length_reverse] at h
    rw [List.getElem_reverse, ← List.getElem?_eq_getElem]
    congr 1
    omega
  rw [List.length_reverse] at this
  rw [this]
/-- what is picked out of two lists that belong together belongs together -/
theorem Vals.picks {vs : List V} {us : List Value} (h : Vals vs us) (js : List Nat) : Vals (js.filterMap fun j => vs[j]?) (js.filterMap fun j => us[j]?) := by
  induction js with
  | nil => exact .nil
  | cons j js ih =>
    rw [List.filterMap_cons, List.filterMap_cons]
    cases q : vs[j]? with
    | some x => have ⟨u, hu, r⟩ := h.get q; rw [hu]; exact .cons r ih
    | none =>
      have := List.getElem?_eq_none_iff.mp q
      rw [List.getElem?_eq_none (h.length ▸ this)]
      exact ih
section
variable {prog : Program} {w : World} {A : Around} {E : Value → Shared → Prop} {s : Shared}
theorem applied_cut {sl : Addr} {k : Int} {u : Tok} {n : Nat} {Q : Int × Int × Nat → Shared → Prop} (hs : s.heap.IsSliceOf sl .none .none (.int k u)) (h0 : k ≠ 0) (h : Q (stpO k n, k, stpN k n) s) :
    wpAny (model prog w) A (Builtin.Slice.sliceApplied (.ref sl) (pure (n : Int))) Q E s := by
  have ⟨o, ho, _, hd⟩ := hs
  have no : (k == 0) = false := beq_eq_false_iff_ne.mpr h0
  unfold Builtin.Slice.sliceApplied
  refine wpAny_bind (m := Builtin.Slice.sliceFields _) (wpAny_bind (wpAny_field ho hd (x := .none) rfl (wpAny_bind (wpAny_field ho hd (x := .none) rfl (wpAny_bind (wpAny_field ho hd (x := .int k u) rfl (wpAny_pure ?_)))))))
  refine wpAny_bind (slicePart_ (.int k u) ?_)
  simp only [Option.getD_some, no, Bool.false_eq_true, if_false]
  exact wpAny_bind (slicePart_ .none (wpAny_bind (slicePart_ .none (wpAny_bind (wpAny_pure (wpAny_pure h))))))
theorem meets_cut (t sl : Addr) (items : Array Value) (k : Int) (u : Tok) (h0 : k ≠ 0) (h1 : k ≠ 1) (hz : (stpL k items.toList).length ≤ sizeLine) :
    Meets (Builtin.«tuple.__getitem__» ⟨[.ref t, .ref sl], []⟩) (fun _ R s => IsTup s.heap t items ∧ s.heap.IsSliceOf sl .none .none (.int k u) ∧
      R (.ok (.ret (.ref s.heap.objs.size))) { s with heap := s.heap.push { cls := .type "tuple", data := .seq (stpL k items.toList).toArray } }) :=
  .of_wp fun prog w A R s ⟨ht, hs, h⟩ => by
    have is : s.TypeIs (.ref sl) "slice" := hs.imp fun _ z => ⟨z.1, z.2.1⟩
    unfold Builtin.«tuple.__getitem__»
    wp_walk using tupleItemsOf_ ht, wpAny_typeOf is, applied_cut hs h0
    have took : ((List.range (stpN k items.size)).filterMap fun (j : Nat) => items[(stpO k items.size + (j : Int) * k).toNat]?).toArray = (stpL k items.toList).toArray := by
      unfold stpL stpJ
      rw [List.filterMap_map]
      exact congrArg List.toArray (fm_congr fun j _ => (Array.getElem?_toList ..).symm)
    rw [took]
    refine wpAny_ite_false (decide_eq_false (by rw [List.size_toArray]; omega)) ?_
    wp_walk
    exact ⟨_, rfl, h⟩
end
/-- a[::k], the step read by tk: z is what the reading says of the thing and the step -/
theorem pe_stp {X : Cx} {e ek : Expr} {te : TE} {tk : TE} {p3 pos : Pos} {r : V → L2.St → Hp → VK → Prop} {z : V → Option Int → Hp → VK → Prop} (hr : ∀ x σ H Q, r x σ H Q → tPart tk σ H fun o H2 => z x o H2 Q)
    (hz : ∀ x o H Q, z x o H Q → ∃ a xs k, x = .ref a ∧ o = some k ∧ k ≠ 0 ∧ k ≠ 1 ∧ (stpL k xs).length ≤ xs.length ∧ SqT X.K H a xs ∧ ∀ p, H p = none → Q (.ref p) (upd H p (.tup (stpL k xs)))) (he : PE X e te) (hk : PE X ek tk) :
    PE X (.Subscript e (.Slice none none (some ek) p3) pos) (fun σ H Q => te σ H fun x H1 => r x σ H1 Q) where
  run pins s σ H Q I h := Subscript_ (thn (he.run pins s σ H _ I h) fun v s1 c => by
    have ⟨x, H1, J, rel, q⟩ := c
    refine wpAny_Slice ?_
    rw [evalPart_none]
    refine wpAny_pure (wpAny_pure (thn ((po_some hk).run pins s1 σ H1 _ J (hr x σ H1 Q q)) fun vs s2 c => ?_))
    have ⟨o, H2, L, part, q⟩ := c
    have ⟨a, xs, k, ex, eo, k0, k1, fit, at_, fin⟩ := hz x o H2 Q q
    clear q
    cases ex
    cases rel
    cases eo
    cases part with | int _ u => ?_
    have N := L.kept (t' := s2.toks) (h' := s2.heap.push { cls := .type "slice", data := .fields #[.none, .none, .int k u] }) fun _ _ z => Heap.get?_push_of_some _ z
    have ⟨its, rs, tup, room⟩ := N.tuple at_
    have len := rs.length
    have same : Vals (stpL k xs) (stpL k its) := by unfold stpL; rw [len]; exact Vals.picks rs _
    have le := same.length
    refine tail_any (ops := [.ref a, .ref s2.heap.objs.size]) tup.typeIs PyProof.Rows.slot_tuple_getitem.lookup (getItem_meets tup.typeIs (by decide) PyProof.Rows.slot_tuple_getitem entry_tuple_getitem (args_tuple_getitem _ _)
      (meets_cut a _ its.toArray k u k0 k1 (le ▸ Nat.le_trans fit room)) ⟨tup, Heap.IsSliceOf.new .., ?_⟩) (by with_unfolding_all rfl)
    exact ⟨.ref _, _, N.laid (t' := s2.toks) (o := .tup (stpL k xs)) (fun _ _ z => Heap.get?_push_of_some _ z) (Nat.le_refl _) ⟨Nat.le_trans fit room, _, same, IsTup.new _ _⟩, rfl, fin _ (N.hok.fresh (Nat.le_refl _))⟩)
/-! ### t[::-1] -/
def tRevA (K : PySem.W.Frag) (te : TE) : TE := fun σ H Q => te σ H fun x H1 => ∃ a xs, x = .ref a ∧ SqT K H1 a xs ∧ ∀ p, H1 p = none → Q (.ref p) (upd H1 p (.tup xs.reverse))
theorem pe_revA {X : Cx} {e : Expr} {te : TE} {k : Nat} {p1 p2 p3 pos : Pos} (he : PE X e te) : PE X (.Subscript e (.Slice none none (some (.UnaryOp .USub (.Constant (.int 1) k p1) p2)) p3) pos) (tRevA X.K te) :=
  pe_stp (tk := tUn (rU fun i => .int (-i)) (tC (.int 1))) (r := fun x _ H Q => ∃ a xs, x = .ref a ∧ SqT X.K H a xs ∧ ∀ p, H p = none → Q (.ref p) (upd H p (.tup xs.reverse))) (z := fun x o H Q => o = some (-1) ∧ ∃ a xs, x = .ref a ∧ SqT X.K H a xs ∧ ∀ p, H p = none → Q (.ref p) (upd H p (.tup xs.reverse)))
    (fun _ _ _ _ q => ⟨1, rfl, -1, rfl, rfl, q⟩) (fun _ _ _ _ ⟨eo, a, xs, ex, h, q⟩ => ⟨a, xs, -1, ex, eo, by decide, by decide, by rw [stpL_rev, List.length_reverse] <;> exact Nat.le_refl _, h, by rw [stpL_rev]; exact q⟩) he (pe_un un_neg pe_int)
section
variable {ι : Type} {G : Gd} {X : ι → Cx} {W : WX} {e : Expr} {es : List Expr} {pos : Pos}
def fRevT (f : Fn Bv) : Fn Cl := fun n ρ => bnd (fFz f n ρ) fun c ρ1 => match c with
  | .fz (.tuple ds) => some (.ok (.fz (.tuple ds.reverse)) ρ1)
  | _ => none
theorem xe_revT {f : Fn Bv} {k : Nat} {p1 p2 p3 : Pos} (hK : ∀ i, (X i).K = G.K) (h : XB G X W e f) : XE G X W (.Subscript e (.Slice none none (some (.UnaryOp .USub (.Constant (.int 1) k p1) p2)) p3) pos) (fRevT f) := by
  obtain ⟨t, h1, h2⟩ := h
  refine ⟨_, fun i => by
    have := pe_revA (k := k) (p1 := p1) (p2 := p2) (p3 := p3) (pos := pos) (h1 i)
    rw [hK i] at this
    exact this, fun n ρ r eq F H σ T' Q hR hP => ?_⟩
  unfold fRevT at eq
  cases q : fFz f n ρ with
  | none => rw [q] at eq; cases eq
  | some r1 =>
    rw [q] at eq
    refine snd_fz h2 n ρ r1 q F H σ T' _ hR ?_
    cases r1 with
    | ex x ρ' => cases eq; exact hP
    | ok c ρ1 =>
      rw [bnd_ok] at eq
      intro F1 H1 v s1 R1
      split at eq
      · rename_i ds
        cases eq
        have r := R1.rp
        cases r with
        | tup hq ra =>
          refine ⟨_, _, rfl, sameT R1.sub hq, fun p hp => ?_⟩
          obtain ⟨s2, R2⟩ := R1.tail.newTup hp ra.reverse
          exact hP _ _ _ (s1.trans s2) R2
      · cases eq
/-! ### isinstance(x, (T1, T2)) -/
def isiD2 (T U : String) (d : D) : Option Bool := match tyD d with
  | some S => match kitB S T with
    | some true => some true
    | some false => kitB S U
    | none => none
  | none => none
theorem kitAny2 {K : PySem.W.Frag} {S T U : String} {b : Bool} (h : (match kitB S T with
    | some true => some true
    | some false => kitB S U
    | none => none) = some b) : PySem.W.kitAny K (.type S) [.type T, .type U] = some b := by
  cases q : kitB S T with
  | none => rw [q] at h; cases h
  | some c =>
    rw [q] at h
    have e1 := kit_ty (K := K) q
    unfold PySem.W.kitAny
    rw [e1]
    cases c with
    | true => cases h; rfl
    | false =>
      have e2 := kit_ty (K := K) h
      dsimp only
      unfold PySem.W.kitAny
      rw [e2]
      cases b <;> rfl
def fIsi2 (T U : String) (f : Fn Bv) : Fn Cl := fun n ρ => bnd (fFz f n ρ) fun c ρ1 => match c with
  | .fz d => match isiD2 T U d with
    | some b => some (.ok (.fz (.bool b)) ρ1)
    | none => none
  | _ => none
theorem xe_isi2 {T U : String} {x y : Str} {p p2 p3 p4 : Pos} {k : Nat} {f : Fn Bv} (hK : ∀ i, (X i).K = G.K) (hg : ∀ i, Gl (X i) "isinstance") (hm : ∀ i, (X i).mg "isinstance" = none) (hgT : ∀ i, Gl (X i) x) (hmT : ∀ i, (X i).mg x = none) (hv : bootBuiltins x = some (.type T)) (hx : x ≠ "__name__") (hxd : (x == ("__debug__" : Str)) = false)
    (hgU : ∀ i, Gl (X i) y) (hmU : ∀ i, (X i).mg y = none) (hvU : bootBuiltins y = some (.type U)) (hxU : y ≠ "__name__") (hxdU : (y == ("__debug__" : Str)) = false) (ha : XB G X W e f)
    (hs1 : ∀ i, starEach [e, .Tuple [.Name x p2, .Name y p3] k p4] (X i).env = (false, eval e (X i).env) :: starEach [.Tuple [.Name x p2, .Name y p3] k p4] (X i).env) (hs2 : ∀ i, starEach [.Tuple [.Name x p2, .Name y p3] k p4] (X i).env = (false, eval (.Tuple [.Name x p2, .Name y p3] k p4) (X i).env) :: starEach [] (X i).env)
    (hpl : ∀ i, (backTo pos (starEach [.Tuple [.Name x p2, .Name y p3] k p4] (X i).env)).any (·.1) = false) (hs3 : ∀ i, starEach [.Name x p2, .Name y p3] (X i).env = (false, eval (.Name x p2) (X i).env) :: starEach [.Name y p3] (X i).env) (hs4 : ∀ i, starEach [.Name y p3] (X i).env = (false, eval (.Name y p3) (X i).env) :: starEach [] (X i).env) :
    XE G X W (.Call (.Name "isinstance" p) [e, .Tuple [.Name x p2, .Name y p3] k p4] [] pos) (fIsi2 T U f) := by
  obtain ⟨t, h1, h2⟩ := ha
  refine ⟨_, fun i => by
    have := pe_callB (x := "isinstance") (p := p) (pos := pos) call_isiT (hg i) (hm i) (by decide +kernel) (pa_cons (h1 i) (pa_cons (pe_tup (x1 := k) (pos := p4) (pa_cons (pe_bltn (v := .ty T) (hgT i) (hmT i) hv rfl hx hxd) (pa_cons (pe_bltn (v := .ty U) (hgU i) (hmU i) hvU rfl hxU hxdU) pa_nil (hs4 i)) (hs3 i))) pa_nil (hs2 i)) (hs1 i)) (by decide) (by decide) (hs1 i) (hpl i)
    rw [hK i] at this
    exact this, fun n ρ r eq F H σ T' Q hR hP => ?_⟩
  unfold fIsi2 at eq
  cases q : fFz f n ρ with
  | none => rw [q] at eq; cases eq
  | some r1 =>
    rw [q] at eq
    refine snd_fz h2 n ρ r1 q F H σ T' _ hR ?_
    cases r1 with
    | ex x ρ' => cases eq; exact hP
    | ok c ρ1 =>
      rw [bnd_ok] at eq
      intro F1 H1 v s1 R1
      split at eq
      · rename_i d
        split at eq
        · rename_i b qb
          cases eq
          refine ⟨by show (2 : Nat) ≤ sizeLine; decide, fun tp ntp => ?_⟩
          obtain ⟨s2, q2⟩ := R1.tail.hr.newF (o := .tup [.ty T, .ty U]) ntp
          have R2 : G.R (upd F1 tp (.tup [.ty T, .ty U])) (upd H1 tp (.tup [.ty T, .ty U])) ρ1 σ T' := ⟨q2, R1.ok⟩
          obtain ⟨S, q1, q3⟩ := ty_of (R1.rp.mono (s2.trans R2.sub))
          unfold isiD2 at qb
          rw [q1] at qb
          exact ⟨v, tp, [.ty T, .ty U], _, [.type T, .type U], b, rfl, upd_same, .cons (.ty T) (.cons (.ty U) .nil), q3, kitAny2 qb, hP _ _ _ (s1.trans s2) (R2.push (.bl b))⟩
        · cases eq
      · cases eq
end
end L3

set_option maxHeartbeats 1000000
namespace L3
open PySem PySem.Spec L2 PyProof.Rows
/-! ### x.m(e, ..), x a slot's cell -/
section
variable {ι : Type} {G : Gd} {X : ι → Cx} {W : WX} {e : Expr} {es : List Expr} {pos : Pos}
def fMth (ok : Cl → Bool) (k : Nat) (f : Fn (List Bv)) (g : Cl → List D → Option (D × Cl)) : Fn Cl := fun n ρ => match (ρ[k]?).join with
  | some c0 => if ok c0 = true then bnd (fFzs f n ρ) fun as ρ1 => match (ρ1[k]?).join with
    | some c => match g c as with
      | some (d, c') => some (.ok (.fz d) (ρ1.set k (some c')))
      | none => none
    | none => none
  else none
  | none => none
def SndM (G : Gd) (T : String) (ok : Cl → Bool) (r : V → List V → Hp → VK → Prop) (g : Cl → List D → Option (D × Cl)) : Prop :=
  (∀ c v F H A, ok c = true → Same F H → G.CR F H c v A → tyV G.K T v H) ∧
  ∀ c as d c', g c as = some (d, c') → ∀ F H L v ws (Q : VK), G.HR F H ((c, v) :: L) → RpA G.K F ws as → (∀ F' H' u, Same F F' → G.HR F' H' ((c', v) :: (.fz d, u) :: L) → Q u H') → r v ws H Q
theorem snd_mth {T : String} {ok : Cl → Bool} {k : Nat} {t : TA} {f : Fn (List Bv)} {r : V → List V → Hp → VK → Prop} {g : Cl → List D → Option (D × Cl)} (ht : SndBs G W t f) (hs : SndM G T ok r g) : SndE G W (tBM G.K T r (tVar k) t) (fMth ok k f g) := fun n ρ rr eq F H σ T' Q hR hP => by
  unfold fMth at eq
  split at eq
  case h_2 => cases eq
  rename_i c0 q0
  split at eq
  case isFalse => cases eq
  rename_i hok
  obtain ⟨v, hv, A, cr⟩ := hR.at (join_some q0)
  refine ⟨v, hv, hs.1 c0 v F H A hok hR.sub cr, ?_⟩
  cases q : fFzs f n ρ with
  | none => rw [q] at eq; cases eq
  | some r1 =>
    rw [q] at eq
    refine snd_fzs ht n ρ r1 q F H σ T' _ hR ?_
    cases r1 with
    | ex x ρ' => cases eq; exact hP
    | ok as ρ1 =>
      rw [bnd_ok] at eq
      intro F1 H1 ws s1 R1 ra
      split at eq
      case h_2 => cases eq
      rename_i c q1
      split at eq
      case h_2 => cases eq
      rename_i d c' q2
      cases eq
      obtain ⟨w, hw, R2⟩ := R.take R1 (join_some q1)
      rw [hv] at hw
      cases hw
      refine hs.2 c as d c' q2 F1 H1 _ v ws _ R2.hr' ra fun F' H' u s2 hr => ?_
      have hk : k < ρ1.length := (List.getElem?_eq_some_iff.mp (join_some q1)).1
      have R3 : G.R F' H' (ρ1.set k none) σ ((c', v) :: (.fz d, u) :: T') := by
        refine ⟨hr.perm ?_, R2.ok⟩
        have p1 : (eL (ρ1.set k none) σ ++ (c', v) :: (Cl.fz d, u) :: T').Perm ((c', v) :: (Cl.fz d, u) :: (eL (ρ1.set k none) σ ++ T')) :=
          (mid _ _ _).trans (List.Perm.cons _ (mid _ _ _))
        exact p1.symm
      have R4 := R.put R3 (c := c') (i := k) (by rw [List.getElem?_set_self hk]) hv
      rw [List.set_set] at R4
      exact hP F' H' u (s1.trans s2) R4
theorem xe_mth {T : String} {ok : Cl → Bool} {k : Nat} {x m : Str} {p1 p2 : Pos} {f : Fn (List Bv)} {r : V → List V → Hp → VK → Prop} {g : Cl → List D → Option (D × Cl)} (hK : ∀ i, (X i).K = G.K) (hp : ∀ t, (∀ j, PA (X j) (e :: es) t) → ∀ j, PE (X j) (.Call (.Attribute (.Name x p1) m p2) (e :: es) [] pos) (tBM (X j).K T r (tVar k) t)) (hs : SndM G T ok r g) (h : XBs G X W (e :: es) f) :
    XE G X W (.Call (.Attribute (.Name x p1) m p2) (e :: es) [] pos) (fMth ok k f g) := by
  obtain ⟨t, h1, h2⟩ := h
  exact ⟨_, fun i => by have := hp t h1 i; rw [hK i] at this; exact this, snd_mth h2 hs⟩
/-! ### lists' methods -/
def isL : Cl → Bool
  | .lst _ => true
  | _ => false
theorem isL_ty : ∀ c v F H A, isL c = true → Same F H → G.CR F H c v A → tyV G.K "list" v H := fun c v F H A h s cr => by
  cases cr with
  | lst h1 h2 r => exact .inl ⟨rfl, _, .inl (.inl h1)⟩
  | fz _ => cases h
  | dct _ _ _ => cases h
  | dtt _ _ _ => cases h
  | dlk _ _ => cases h
  | bx _ _ _ _ _ _ => cases h
  | ins _ _ _ _ _ => cases h
def gApp : Cl → List D → Option (D × Cl)
  | .lst ds, [d] => if Nat.ble ds.length 10000000 = true then some (.none, .lst (ds ++ [d])) else none
  | _, _ => none
theorem sm_app : SndM G "list" isL rAppend gApp := ⟨isL_ty, fun c as d c' eq F H L v ws Q hr ra hQ => by
  unfold gApp at eq
  split at eq
  case h_2 => cases eq
  rename_i ds y
  split at eq
  case isFalse => cases eq
  rename_i hl
  cases eq
  obtain ⟨A, cr⟩ := hr.head
  cases cr with
  | lst h1 h2 r =>
    cases ra with
    | cons ry ra =>
      cases ra
      have hl := Nat.le_of_ble_eq_true hl
      refine ⟨_, _, _, rfl, rfl, h1, by rw [r.length, sizeLine_eq]; omega, hQ F _ .non (Same.refl _) ?_⟩
      have h3 := hr.mut (c' := .lst (ds ++ [y])) (fun A h => by cases h; rfl) (.lst upd_same h2 (r.append (.cons ry .nil)))
      exact (HR.push h3 .non).swap⟩
/-! ### in, not in -/
def flatD : D → Bool
  | .none => true
  | .bool _ => true
  | .int _ => true
  | .str _ => true
  | _ => false
theorem flat_rp {K : PySem.W.Frag} {F : Hp} {v : V} {d : D} (h : Rp K F v d) (hd : flatD d = true) : flatV v = true := by
  cases h <;> first | rfl | cases hd
theorem flat_rpA {K : PySem.W.Frag} {F : Hp} : ∀ {vs : List V} {ds : List D}, RpA K F vs ds → ds.all flatD = true → vs.all flatV = true
  | _, _, .nil, _ => rfl
  | _, _, .cons h r, hd => by
    rw [List.all_cons, Bool.and_eq_true] at hd ⊢
    exact ⟨flat_rp h hd.1, flat_rpA r hd.2⟩
theorem eqV_rp {K : PySem.W.Frag} {F : Hp} {v w : V} {d e : D} (h : Rp K F v d) (h' : Rp K F w e) (hd : flatD d = true) (he : flatD e = true) : eqV v w = PyData.eqv d e := by
  cases h <;> first | (cases hd; done) | (cases h' <;> first | (cases he; done) | (simp only [PyData.eqv]; rfl))
theorem inV_rp {K : PySem.W.Frag} {F : Hp} {v : V} {d : D} (h : Rp K F v d) (hd : flatD d = true) : ∀ {vs : List V} {ds : List D}, RpA K F vs ds → ds.all flatD = true → inV v vs = ds.any fun z => PyData.eqv z d
  | _, _, .nil, _ => rfl
  | _, _, .cons h' r, he => by
    rw [List.all_cons, Bool.and_eq_true] at he
    show (eqV _ v || inV v _) = _
    rw [eqV_rp h' h he.1 hd, inV_rp h hd r he.2]; rfl
def seqD (c : Cl) : Option (List D) := match c.data with
  | some (.list ds) => some ds
  | some (.tuple ds) => some ds
  | _ => none
/-- neg: not in -/
def gIn (neg : Bool) : List Cl → Option Cl
  | [.fz d, c] => match seqD c with
    | some ds => if (flatD d && ds.all flatD) = true then some (.fz (.bool (if neg = true then !(ds.any fun z => PyData.eqv z d) else ds.any fun z => PyData.eqv z d))) else
      match c.data with
      | some (.list ds) => if (SeqAt.shaped d && SeqAt.shaped (.list ds)) = true then some (.fz (.bool (if neg = true then !(ds.any fun z => PyData.eqv z d) else ds.any fun z => PyData.eqv z d))) else none
      | _ => none
    | none => none
  | _ => none
def rInA (K : PySem.W.Frag) (neg : Bool) : R2 := fun x y H Q => rIn K neg x y H Q ∨ (if neg = true then rNotInD K x y H Q else rInD K x y H Q)
theorem op_inA {Y : Cx} (hu : Y.A.units + 65 < cLine) : OpR Y (compareOp .In) (rInA Y.K false) := by
  intro pins s σ H x y v u Q I rx ry h
  rcases h with h | h
  · exact op_in_seq pins s σ H x y v u Q I rx ry h
  · exact op_inD hu pins s σ H x y v u Q I rx ry h
theorem op_notInA {Y : Cx} (hu : Y.A.units + 65 < cLine) : OpR Y (compareOp .NotIn) (rInA Y.K true) := by
  intro pins s σ H x y v u Q I rx ry h
  rcases h with h | h
  · exact op_notIn_seq pins s σ H x y v u Q I rx ry h
  · exact op_notInD hu pins s σ H x y v u Q I rx ry h
theorem prm_in {neg : Bool} : Prm G (l2 (rInA G.K neg)) (gIn neg) := fun F H L cs vs c Q hr hc e hQ => by
  unfold gIn at e
  split at e
  case h_2 => cases e
  rename_i d cc
  obtain ⟨v1, v2, A1, A2, rfl, h1, h2⟩ := crs2 hc
  have r1 := h1.rpF rfl
  split at e
  case h_2 => cases e
  rename_i ds q
  split at e
  · rename_i hz
    rw [Bool.and_eq_true] at hz
    cases e
    unfold seqD at q
    split at q
    · rename_i q1
      cases q
      obtain ⟨a, ws, rfl, s1, ra⟩ := h2.seqL hr.sub q1
      refine .inl ⟨a, ws, rfl, .inl s1, flat_rp r1 hz.1, flat_rpA ra hz.2, ?_⟩
      rw [inV_rp r1 hz.1 ra hz.2]
      exact hQ F H _ (Same.refl _) (hr.push (.bl _))
    · rename_i q1
      cases q
      obtain ⟨a, ws, rfl, s1, ra⟩ := h2.seqT hr.sub q1
      refine .inl ⟨a, ws, rfl, .inr (sameT hr.sub s1), flat_rp r1 hz.1, flat_rpA ra hz.2, ?_⟩
      rw [inV_rp r1 hz.1 ra hz.2]
      exact hQ F H _ (Same.refl _) (hr.push (.bl _))
    · cases q
  · split at e
    · rename_i ds' q1
      split at e
      · rename_i hz
        rw [Bool.and_eq_true] at hz
        cases e
        have d1 := (h1.rp hr.sub rfl).dp (SeqAt.canLay_of_shaped hz.1)
        have d2 := (h2.rp hr.sub q1).dp (SeqAt.canLay_of_shaped hz.2)
        refine .inr ?_
        cases neg with
        | true =>
          rw [if_pos rfl]
          exact ⟨d, ds', d1, d2, hz.1, hz.2, hQ F H _ (Same.refl _) (hr.push (.bl _))⟩
        | false =>
          rw [if_neg Bool.false_ne_true]
          exact ⟨d, ds', d1, d2, hz.1, hz.2, hQ F H _ (Same.refl _) (hr.push (.bl _))⟩
      · cases e
    · cases e
end
end L3
namespace L3
open PySem PySem.Spec L2 PyProof.Rows
/-! ### a, b = x, y, where the two stores are not swapped: a tuple is made and taken apart -/
section
variable {ι : Type} {G : Gd} {X : ι → Cx} {W : WX} {P : List Nat}
theorem xs_parU {i j : Nat} {a b : Expr} {f g : Fn Cl} {st : Stmt} (hi : i ∉ P) (hj : j ∉ P) (hp : ∀ t u, (∀ j, PE (X j) a t) → (∀ j, PE (X j) b u) → ∀ k, PS (X k) st (tAsg (tTup (tCons t (tCons u tNil))) (gTup (X k).K 2 (gCons (gName i) (gCons (gName j) gNil))))) (hK : ∀ i, (X i).K = G.K) (h : XE G X W a f) (h' : XE G X W b g) : XS G X W P st (sPar i j f g) := by
  obtain ⟨t, h1, h2⟩ := h
  obtain ⟨u, h3, h4⟩ := h'
  refine ⟨_, fun k => by have := hp t u h1 h3 k; rw [hK k] at this; exact this, fun n ρ o e F H σ T D hR hP => ?_⟩
  unfold sPar at e
  cases q : f n ρ with
  | none => rw [q] at e; cases e
  | some r1 =>
    rw [q] at e
    refine h2 n ρ r1 q F H σ T _ hR ?_
    cases r1 with
    | ex x ρ' => cases e; exact hP.px
    | ok c ρ1 =>
      rw [bS_ok] at e
      intro F1 H1 v s1 R1
      cases q2 : g n ρ1 with
      | none => rw [q2] at e; cases e
      | some r2 =>
        rw [q2] at e
        refine h4 n ρ1 r2 q2 F1 H1 σ _ _ R1 ?_
        cases r2 with
        | ex x ρ' =>
          cases e
          exact fun F' H' cls d s r q => hP.px F' H' cls d (s1.trans s) r.tail q
        | ok d ρ2 =>
          rw [bS_ok] at e
          intro F2 H2 w s2 R2
          split at e
          · rename_i hl
            cases e
            refine ⟨by show (2 : Nat) ≤ sizeLine; decide, fun p np => ?_⟩
            obtain ⟨s3, q3⟩ := R2.hr.newF (o := .tup [v, w]) np
            refine ⟨p, [v, w], rfl, .inl (.inl upd_same), rfl, v, [w], rfl, w, [], rfl, rfl, ?_⟩
            refine hP (upd F2 p (.tup [v, w])) _ _ ((s1.trans s2).trans s3) ?_ ((Kp.set hi).trans (Kp.set hj))
            have R2' : G.R (upd F2 p (.tup [v, w])) (upd H2 p (.tup [v, w])) ρ2 σ ((d, w) :: (c, v) :: T) := ⟨q3, R2.ok⟩
            have R3 := R2'.swap.set (i := i) hl.1
            exact R3.set (by rw [List.length_set]; exact hl.2)
          · cases e
theorem xs_parA {i j : Nat} {a b : Expr} {f g : Fn Cl} {x y : Str} {px py pt pt2 pos : Pos} {kt k2 : Nat} (hi : i ∉ P) (hj : j ∉ P) (hK : ∀ i, (X i).K = G.K)
    (hp : (∀ t u, (∀ j, PE (X j) a t) → (∀ j, PE (X j) b u) → ∀ k, PS (X k) (.Assign [.Tuple [.Name x px, .Name y py] kt pt] (.Tuple [a, b] k2 pt2) pos) (tPar i j (tCons t (tCons u tNil)))) ∨ (∀ t u, (∀ j, PE (X j) a t) → (∀ j, PE (X j) b u) → ∀ k, PS (X k) (.Assign [.Tuple [.Name x px, .Name y py] kt pt] (.Tuple [a, b] k2 pt2) pos) (tAsg (tTup (tCons t (tCons u tNil))) (gTup (X k).K 2 (gCons (gName i) (gCons (gName j) gNil))))))
    (h : XE G X W a f) (h' : XE G X W b g) : XS G X W P (.Assign [.Tuple [.Name x px, .Name y py] kt pt] (.Tuple [a, b] k2 pt2) pos) (sPar i j f g) := by
  rcases hp with hp | hp
  · exact xs_par hi hj hp h h'
  · exact xs_parU hi hj hp hK h h'
end
end L3

set_option maxHeartbeats 1000000
namespace L3
open PySem PySem.Spec L2 PyProof.Rows
/-! ### dict comprehensions -/
def putD {κ : Type} [DecidableEq κ] (es : List (κ × D)) (k : κ) (d : D) : List (κ × D) :=
  if (es.any fun kv => decide (kv.1 = k)) = true then es.map (fun kv => if kv.1 = k then (kv.1, d) else kv) else es ++ [(k, d)]
theorem any_ks {K : PySem.W.Frag} {F : Hp} {κ : Type} [DecidableEq κ] (k : κ) : ∀ {kvs : List (κ × V)} {es : List (κ × D)}, RpKs K F kvs es → (kvs.any fun kv => decide (kv.1 = k)) = es.any fun kv => decide (kv.1 = k)
  | _, _, .nil => rfl
  | _, _, .cons h r => by
    rw [List.any_cons, List.any_cons, any_ks k r]
theorem map_ks {K : PySem.W.Frag} {F : Hp} {κ : Type} [DecidableEq κ] {k : κ} {v : V} {d : D} (h : Rp K F v d) : ∀ {kvs : List (κ × V)} {es : List (κ × D)}, RpKs K F kvs es → RpKs K F (kvs.map fun kv => if kv.1 = k then (kv.1, v) else kv) (es.map fun kv => if kv.1 = k then (kv.1, d) else kv)
  | _, _, .nil => .nil
  | _, _, .cons (k := k') h' r => by
    rw [List.map_cons, List.map_cons]
    by_cases e : k' = k
    · rw [if_pos e, if_pos e]
      exact .cons h (map_ks h r)
    · rw [if_neg e, if_neg e]
      exact .cons h' (map_ks h r)
theorem putD_rp {K : PySem.W.Frag} {F : Hp} {κ : Type} [DecidableEq κ] {kvs : List (κ × V)} {es : List (κ × D)} (r : RpKs K F kvs es) (k : κ) {v : V} {d : D} (h : Rp K F v d) : RpKs K F (putK kvs k v) (putD es k d) := by
  unfold putK putD
  rw [any_ks k r]
  split
  · exact map_ks h r
  · exact r.append (.cons h .nil)
theorem RpKs.len {K : PySem.W.Frag} {F : Hp} {κ : Type} : ∀ {kvs : List (κ × V)} {es : List (κ × D)}, RpKs K F kvs es → kvs.length = es.length
  | _, _, .nil => rfl
  | _, _, .cons _ r => congrArg (· + 1) (RpKs.len r)
theorem putD_len {κ : Type} [DecidableEq κ] (es : List (κ × D)) (k : κ) (d : D) : (putD es k d).length ≤ es.length + 1 := by
  unfold putD
  split
  · rw [List.length_map]; omega
  · rw [List.length_append]; exact Nat.le_refl _
def keyD : D → Option Key
  | .int i => some (.inl i)
  | .str x => some (.inr x)
  | _ => none
theorem keyD_rp {K : PySem.W.Frag} {F : Hp} {v : V} {d : D} {k : Key} (h : Rp K F v d) (e : keyD d = some k) : v = kV k := by
  cases h <;> first | (cases e; done) | (cases e; rfl)
def dcF (N : Nat) (g : FG) (t : Fn Bool) (ek ev : Fn Bv) (vs : List Nat) (n : Nat) : List D → En → List (Key × D) → Option (Rz Cl)
  | [], ρ, acc => some (.ok (.dct acc) ρ)
  | d :: ds, ρ, acc => match g d ρ with
    | some ρ2 => if ρ2.length = N then (match t n ρ2 with
      | some (.ok true ρ3) => match fFz ek n ρ3 with
        | some (.ok (.fz kd) ρ4) => match keyD kd with
          | some k => match fFz ev n ρ4 with
            | some (.ok (.fz y) ρ5) => dcF N g t ek ev vs n ds (wipR ρ5 vs) (putD acc k y)
            | _ => none
          | none => none
        | _ => none
      | some (.ok false ρ3) => dcF N g t ek ev vs n ds (wipR ρ3 vs) acc
      | _ => none) else none
    | none => none
def fDc (N : Nat) (vs : List Nat) (i : Fn (List D)) (g : FG) (t : Fn Bool) (ek ev : Fn Bv) : Fn Cl := fun n ρ => bnd (i n ρ) fun ds ρ1 =>
  if (vs.all (fun j => decide (j < N)) && decide (ρ1.length = N) && decide (ds.length ≤ 1000000)) = true then dcF N g t ek ev vs n ds (wipR ρ1 vs) [] else none
section
variable {ι : Type} {G : Gd} {X : ι → Cx} {W : WX}
theorem snd_dc {N : Nat} {vs : List Nat} {wi : TI} {tg : TG} {tt : TT} {tk tv : TE} {i : Fn (List D)} {g : FG} {t : Fn Bool} {ek ev : Fn Bv} (hi : SndI G W wi i) (hg : SndG G (outP N vs) tg g) (ht : SndT G W0 tt t) (hek : SndB G W0 tk ek) (hev : SndB G W0 tv ev) : SndE G W (tDc wi tg tt tk tv vs) (fDc N vs i g t ek ev) := fun n ρ r eq F H σ T Q hR hP => by
  unfold fDc at eq
  cases q : i n ρ with
  | none => rw [q] at eq; cases eq
  | some r1 =>
    rw [q] at eq
    refine hi n ρ r1 q F H σ T _ hR ?_
    cases r1 with
    | ex x ρ' => cases eq; exact hP
    | ok ds ρ1 =>
      rw [bnd_ok] at eq
      split at eq
      case isFalse => cases eq
      rename_i hh
      rw [Bool.and_eq_true, Bool.and_eq_true] at hh
      obtain ⟨⟨hn, hN⟩, hz⟩ := hh
      have hN := of_decide_eq_true hN
      have hn : ∀ j ∈ vs, (wipR ρ1 vs)[j]? = some none := fun j hj => wipR_at ρ1 vs j hj (by
        have := of_decide_eq_true (List.all_eq_true.mp hn j hj)
        omega)
      have hz := of_decide_eq_true hz
      intro F1 H1 J s1 R1 ok Dn hD
      have lσ : ρ1.length = σ.length := R1.ok.len
      have Rw : G.R F1 H1 (wipR ρ1 vs) (wipe σ vs) T := R1.wip vs
      have Rs : G.R F1 (upd H1 Dn (.dK [])) (wipR ρ1 vs) (wipe σ vs) ((.dct [], .ref Dn) :: T) := .mk' (Rw.hr.newO hD (.dct upd_same (Rw.sub.free hD) .nil)) Rw.ok
      refine ⟨fun k m H' => ∃ ρ' F' acc, m = ds.length - k ∧ k ≤ ds.length ∧ acc.length ≤ k ∧ Same F1 F' ∧ G.R F' H' ρ' (wipe σ vs) ((.dct acc, .ref Dn) :: T) ∧ (∀ j ∈ vs, ρ'[j]? = some none) ∧ ρ'.length = N ∧ dcF N g t ek ev vs n (ds.drop k) ρ' acc = some r,
        ⟨ds.length, wipR ρ1 vs, F1, [], by simp, Nat.zero_le _, Nat.le_refl _, Same.refl _, Rs, hn, by rw [wipR_len]; exact hN, by rw [List.drop_zero]; exact eq⟩, ?_⟩
      rintro k m H' ⟨ρ', F', acc, rfl, hk, ha, s', R', hn', hN', eo⟩
      by_cases hlt : k < ds.length
      case neg =>
        have ek' : k = ds.length := by omega
        subst ek'
        rw [List.drop_length] at eo
        cases eo
        refine .inl ⟨ok.stop F' H' _ _ s' R'.hr (Nat.le_refl _), hP F' H' _ (s1.trans s') (R'.agree (wipe_length _ _).symm fun j c hc => (wipe_out fun m => by rw [hn' j m] at hc; cases hc).symm)⟩
      rw [List.drop_eq_getElem_cons hlt] at eo
      unfold dcF at eo
      cases q1 : g ds[k] ρ' with
      | none => rw [q1] at eo; cases eo
      | some ρ2 =>
        rw [q1] at eo
        dsimp only at eo
        by_cases l2 : ρ2.length = N
        case neg => rw [if_neg l2] at eo; cases eo
        rw [if_pos l2] at eo
        refine .inr ⟨ok.go F' H' _ k s' R'.hr hlt, fun H3 => ∃ ρ3 F3 acc3, acc3.length ≤ k + 1 ∧ Same F1 F3 ∧ G.R F3 H3 ρ3 (wipe σ vs) ((.dct acc3, .ref Dn) :: T) ∧ (∀ j ∈ vs, ρ3[j]? = some none) ∧ ρ3.length = N ∧ dcF N g t ek ev vs n (ds.drop (k + 1)) ρ3 acc3 = some r, ?_, ?_⟩
        · rintro H3 ⟨ρ3, F3, acc3, ha3, s3, R3, hn3, hN3, e3⟩
          exact ⟨ds.length - (k + 1), by omega, ρ3, F3, acc3, rfl, hlt, ha3, s3, R3, hn3, hN3, e3⟩
        · intro x H2 hy
          obtain ⟨F2, s2, hr2, rx⟩ := ok.yld F' H' _ k x H2 ds[k] s' R'.hr (List.getElem?_eq_getElem hlt) hy
          refine hg ds[k] ρ' ρ2 q1 F2 H2 (wipe σ vs) _ x _ ⟨hr2, R'.ok⟩ rx fun σ4 R4 k4 => ?_
          have l4 : σ4.length = σ.length := by
            have h1 := R4.ok.len
            have h2 := R'.ok.len
            rw [wipe_length] at h2
            omega
          have w4 : wipe σ4 vs = wipe σ vs := by
            have e1 : wipe σ4 vs = wipe (wipe σ vs) vs := wipe_eq (by rw [l4, wipe_length]) fun j hj m => by
              refine k4 j (List.mem_filter.mpr ⟨List.mem_range.mpr ?_, by simp [m]⟩)
              rw [wipe_length] at hj
              omega
            rw [e1]
            exact wipe_eq (wipe_length _ _) fun j hj m => wipe_out m
          refine ⟨w4, ?_⟩
          have s02 := s'.trans s2
          have back : ∀ {ρ9 : En} {F9 H9 : Hp} {acc9 : List (Key × D)}, G.R F9 H9 ρ9 σ4 ((.dct acc9, .ref Dn) :: T) → (∀ j ∈ vs, (wipR ρ9 vs)[j]? = some none) ∧ (wipR ρ9 vs).length = N := fun {ρ9 F9 H9 acc9} R9 => by
            have h1 := R9.ok.len
            have h2 := R4.ok.len
            refine ⟨fun j hj => wipR_at ρ9 vs j hj ?_, by rw [wipR_len]; omega⟩
            have := (List.getElem?_eq_some_iff.mp (hn' j hj)).1
            omega
          cases q2 : t n ρ2 with
          | none => rw [q2] at eo; cases eo
          | some o2 =>
            rw [q2] at eo
            refine ht n ρ2 o2 q2 F2 H2 σ4 _ _ R4 ?_
            cases o2 with
            | ex x ρ3 => cases eo
            | ok b ρ3 =>
              intro F3 H3 s3 R3
              cases b with
              | false =>
                rw [if_neg Bool.false_ne_true]
                dsimp only at eo
                have Rn := R3.wip vs
                rw [w4] at Rn
                exact ⟨wipR ρ3 vs, F3, acc, Nat.le_succ_of_le ha, s02.trans s3, Rn, (back R3).1, (back R3).2, eo⟩
              | true =>
                rw [if_pos rfl]
                dsimp only at eo
                cases q3 : fFz ek n ρ3 with
                | none => rw [q3] at eo; cases eo
                | some o3 =>
                  rw [q3] at eo
                  refine snd_fz hek n ρ3 o3 q3 F3 H3 σ4 _ _ R3 ?_
                  cases o3 with
                  | ex x ρ4 => cases eo
                  | ok c ρ4 =>
                    intro F4 H4 y s4 R4'
                    cases c with
                    | lst _ => cases eo
                    | dct _ => cases eo
                    | dtt _ => cases eo
                    | dlk _ => cases eo
                    | bx _ _ => cases eo
                    | ins _ _ => cases eo
                    | fz kd =>
                      dsimp only at eo
                      cases qk : keyD kd with
                      | none => rw [qk] at eo; cases eo
                      | some key =>
                        rw [qk] at eo
                        dsimp only at eo
                        have ey := keyD_rp R4'.rp qk
                        have R5 := R4'.tail
                        cases q4 : fFz ev n ρ4 with
                        | none => rw [q4] at eo; cases eo
                        | some o4 =>
                          rw [q4] at eo
                          refine snd_fz hev n ρ4 o4 q4 F4 H4 σ4 _ _ R5 ?_
                          cases o4 with
                          | ex x ρ5 => cases eo
                          | ok c2 ρ5 =>
                            intro F5 H5 z s5 R5'
                            cases c2 with
                            | lst _ => cases eo
                            | dct _ => cases eo
                            | dtt _ => cases eo
                            | dlk _ => cases eo
                            | bx _ _ => cases eo
                            | ins _ _ => cases eo
                            | fz dz =>
                              dsimp only at eo
                              have rz := R5'.rp
                              have R6 := R5'.tail
                              obtain ⟨A, cr⟩ := R6.cr
                              cases cr with
                              | @dct a kvs es h1 h2 r2 =>
                                refine ⟨kvs, key, ey, h1, ?_, ?_⟩
                                · rw [r2.len]
                                  exact Nat.lt_of_le_of_lt (Nat.le_trans ha (Nat.le_trans hk hz)) tM
                                · have R7 : G.R F5 (upd H5 Dn (.dK (putK kvs key z))) ρ5 σ4 ((.dct (putD acc key dz), .ref Dn) :: T) :=
                                    .mk' (R6.hr'.mut (fun A h => by cases h; rfl) (.dct upd_same h2 (putD_rp r2 key rz))) R6.ok
                                  have Rn := R7.wip vs
                                  rw [w4] at Rn
                                  refine ⟨wipR ρ5 vs, F5, putD acc key dz, ?_, ((s02.trans s3).trans s4).trans s5, Rn, (back R7).1, (back R7).2, eo⟩
                                  have := putD_len acc key dz
                                  omega
variable {P : List Nat}
theorem xe_dc0 {kx vx tg iter : Expr} {scope : Scope} {own : List (Str × Nat)} {pos : Pos} {N : Nat} {i : Fn (List D)} {g : FG} {ek ev : Fn Bv} (hc : ∀ j, (X j).calm = true) (hN : ∀ j, (X j).N.Nodup) (hi : XI G X W tg iter i) (ok : ∀ j, BlkOk (X j).N (X j).env.scope scope own)
    (hg : XG G (blkX X scope) (outP N (own.map (·.2))) tg g) (hk : XB G (blkX X scope) W0 kx ek) (he : XB G (blkX X scope) W0 vx ev) (hs : ∀ j, ∀ x, foldedSetIterable iter (X j).env x = pure x) :
    XE G X W (.DictComp kx vx [⟨tg, iter, [], 0⟩] scope pos) (fDc N (own.map (·.2)) i g fYes ek ev) := by
  obtain ⟨wi, a1, a2⟩ := hi
  obtain ⟨tg', b1, b2⟩ := hg
  obtain ⟨tk, d1, d2⟩ := hk
  obtain ⟨te, c1, c2⟩ := he
  refine ⟨_, fun j => pe_dc (hc j) (hN j) (a1 j) (ok j) (fun s H C cl fp => b1 (j, ⟨s, H, C, cl, fp⟩)) (fun _ _ _ _ _ => pts_nil) (fun s H C cl fp => d1 (j, ⟨s, H, C, cl, fp⟩)) (fun s H C cl fp => c1 (j, ⟨s, H, C, cl, fp⟩)) (hs j), snd_dc a2 b2 (fun n ρ r e F H σ T Q hR hP => ?_) d2 c2⟩
  cases e
  exact hP F H (Same.refl _) hR
/-! ### len of a dict too -/
def gLenA : List Cl → Option Cl
  | [.dct es] => some (.fz (.int es.length))
  | cs => gLen cs
def rLenB (K : PySem.W.Frag) : List V → Hp → VK → Prop := fun xs H Q => rLenA K xs H Q ∨ ∃ a kvs, xs = [V.ref a] ∧ H a = some (.dK kvs) ∧ Q (.int kvs.length) H
theorem call_lenB {Y : Cx} : CallR Y (.builtin "len") (rLenB Y.K) := call_lenA.or call_lenD
theorem prm_lenA : Prm G (rLenB G.K) gLenA := fun F H L cs vs c Q hr hc e hQ => by
  unfold gLenA at e
  split at e
  · rename_i es
    cases e
    obtain ⟨v1, A1, rfl, h1⟩ := crs1 hc
    cases h1 with
    | dct h1 h2 r => exact .inr ⟨_, _, rfl, h1, by rw [r.len]; exact hQ F H _ (Same.refl _) (hr.push (.int _))⟩
  · exact .inl (prm_len F H L cs vs c Q hr hc e hQ)
end
end L3

set_option maxHeartbeats 1000000
namespace L2
open PySem PySem.Spec PyProof.Rows
/-- the keys of a dict at hand: it is locked from here on -/
def iKeysL (td : TE) : TI := fun σ H R => td σ H fun x H1 => ∃ d kvs, x = .ref d ∧ ((∃ o, H1 d = some (.frz o (.dK kvs)) ∧ R (Itk d o kvs) H1) ∨ (H1 d = some (.dK kvs) ∧ ∀ o, R (Itk d o kvs) (upd H1 d (.frz o (.dK kvs)))))
theorem pi_keysL {X : Cx} {tg e : Expr} {td : TE} (he : PE X e td) : PI X tg e (iKeysL td) where
  run pins s σ H R I h := thn (he.run pins s σ H _ I h) fun u s1 got => by
    have ⟨x, H1, J, rel, d, kvs, ex, q⟩ := got
    cases ex
    cases rel
    have go : ∀ {o : Obj} {H2 : Hp}, Inv X pins σ H2 s1 → H2 d = some (.frz o (.dK kvs)) → R (Itk d o kvs) H2 → wpAny (model X.prog X.w) X.A (pyIter (.ref d)) (PIE X pins σ tg R) X.xe s1 := fun L at_ r => by
      have ⟨hs, gd, hx, _, _, _, dt, sz, _, _⟩ := L.frzK at_
      exact iter_keys hs gd hx dt (pi_one (tk := s1.toks) L _ (turn_keys _ dt) ⟨_, Heap.get?_push_size _ rfl, rfl, by rw [sz] <;> rfl⟩ r)
    rcases q with ⟨_, at_, r⟩ | ⟨at_, r⟩
    · exact go J at_ r
    · have ⟨o, L⟩ := J.lock at_ trivial
      exact go L upd_same (r o)
end L2
namespace L3
open PySem PySem.Spec L2 PyProof.Rows
theorem u1 {k : Nat} {A : Around} (hr : Room k A) : A.units + 1 < cLine := by
  have := hr.un
  omega
/-! ### dicts held by a slot -/
def getK (es : List (Key × D)) (k : Key) : Option D := (es.find? fun p => decide (p.1 = k)).map (·.2)
theorem getK_rp {K : PySem.W.Frag} {F : Hp} (k : Key) : ∀ {kvs : List (Key × V)} {es : List (Key × D)}, RpKs K F kvs es → (getK es k = none ∧ valV kvs k = none) ∨ ∃ v d, getK es k = some d ∧ valV kvs k = some v ∧ Rp K F v d
  | _, _, .nil => .inl ⟨rfl, rfl⟩
  | _, _, .cons (k := k') (v := v) (d := d) h r => by
    by_cases e : k' = k
    · refine .inr ⟨v, d, ?_, valV_pos e, h⟩
      simp [getK, List.find?_cons, e]
    · have e1 : ∀ es, getK ((k', d) :: es) k = getK es k := fun es => by simp [getK, List.find?_cons, e]
      rw [e1, valV_neg (p := (k', v)) e]
      exact getK_rp k r
def keysD (es : List (Key × D)) : List D := es.map fun p => kD p.1
theorem rp_kV {K : PySem.W.Frag} {F : Hp} : ∀ k : Key, Rp K F (kV k) (kD k)
  | .inl i => .int i
  | .inr x => .str x
theorem keys_rp {K : PySem.W.Frag} {F : Hp} : ∀ {kvs : List (Key × V)} {es : List (Key × D)}, RpKs K F kvs es → ∀ (i : Nat) (d : D), (keysD es)[i]? = some d → ∀ k v, kvs[i]? = some (k, v) → Rp K F (kV k) d
  | _, _, .cons (k := k') h r, 0, d, e, k, v, e2 => by
    cases e
    cases e2
    exact rp_kV _
  | _, _, .cons h r, i + 1, d, e, k, v, e2 => keys_rp r i d e k v e2
section
variable {G : Gd} {F : Hp} {a : Addr} {o : Obj} {kvs : List (Key × V)} {es : List (Key × D)}
theorem itok_keys (h : F a = some (.frz o (.dK kvs))) (r : RpKs G.K F kvs es) : ItOk G (Itk a o kvs) F (keysD es) where
  go := fun F' H' L i s hr hi => ⟨hr.sub _ _ (s _ _ h), by rw [r.len]; simpa [keysD] using hi⟩
  yld := fun F' H' L i x H'' d s hr hd hy => by
    obtain ⟨rfl, k, v, hk, rfl⟩ := hy
    exact ⟨F', Same.refl _, hr, (keys_rp r i d hd k v hk).mono s⟩
  stop := fun F' H' L i s hr hi => ⟨hr.sub _ _ (s _ _ h), by rw [r.len]; simpa [keysD] using hi⟩
end
/-- an object of one's own is frozen as another -/
theorem HR.lock {K : PySem.W.Frag} {cl : Str → Addr → Prop} {F H : Hp} {L : List (Cl × V)} {p : Addr} {o : HO} {c c' : Cl} (h : HR K cl F H ((c, .ref p) :: L)) (h1 : ∀ A, CR K cl F H c (.ref p) A → A = [p]) (hc : ∀ F', Same F F' → F' p = some o → CR K cl F' (upd H p o) c' (.ref p) []) : ∃ F', Same F F' ∧ F' p = some o ∧ HR K cl F' (upd H p o) ((c', .ref p) :: L) := by
  obtain ⟨s, A, n, q⟩ := h
  cases q with
  | cons q r =>
    have e := h1 _ q
    subst e
    have n' := List.nodup_cons.mp n
    have fp := (q.fr p (List.mem_singleton.mpr rfl)).1
    have sm : Same F (upd F p o) := fun b u e => by rw [upd_ne (ne_of_none e fp)]; exact e
    refine ⟨upd F p o, sm, upd_same, fun b u e => ?_, _, n'.2, .cons (hc _ sm upd_same) (r.mono sm fun a ha => ?_)⟩
    · by_cases hb : b = p
      · subst hb; rw [upd_same] at e ⊢; exact e
      · rw [upd_ne hb] at e ⊢; exact s _ _ e
    · have ne : a ≠ p := fun z => n'.1 (z ▸ ha)
      rw [upd_ne ne, upd_ne ne]
      exact ⟨(r.fr a ha).1, rfl⟩
section
variable {ι : Type} {G : Gd} {X : ι → Cx} {W : WX} {P : List Nat} {e ie tg : Expr} {pos : Pos}
def fIDct (k : Nat) : Fn (List D) := fun n ρ => match (ρ[k]?).join with
  | some (.dct es) => some (.ok (keysD es) (ρ.set k (some (.dlk es))))
  | some (.dlk es) => some (.ok (keysD es) ρ)
  | _ => none
theorem snd_idct {k : Nat} : SndI G W (iKeysL (tVar k)) (fIDct k) := fun n ρ r eq F H σ T Q hR hP => by
  unfold fIDct at eq
  split at eq
  · rename_i es q
    cases eq
    obtain ⟨v, hv, R1⟩ := R.take hR (join_some q)
    refine ⟨v, hv, ?_⟩
    obtain ⟨A, cr⟩ := R1.cr
    cases cr with
    | @dct a kvs _ h1 h2 r =>
      refine ⟨a, kvs, rfl, .inr ⟨h1, fun o => ?_⟩⟩
      obtain ⟨F', s, hF, h3⟩ := HR.lock (o := .frz o (.dK kvs)) (c' := .dlk es) R1.hr' (fun A h => by cases h; rfl) (fun F' s hF => .dlk hF (r.mono s))
      have hk : k < ρ.length := (List.getElem?_eq_some_iff.mp (join_some q)).1
      have R2 : G.R F' (upd H a (.frz o (.dK kvs))) (ρ.set k none) σ ((.dlk es, .ref a) :: T) := .mk' h3 R1.ok
      have R3 := R.put R2 (c := .dlk es) (i := k) (by rw [List.getElem?_set_self hk]) hv
      rw [List.set_set] at R3
      exact hP F' _ _ s R3 (itok_keys hF (r.mono s))
  · rename_i es q
    cases eq
    obtain ⟨v, hv, A, cr⟩ := hR.at (join_some q)
    refine ⟨v, hv, ?_⟩
    cases cr with
    | @dlk a o kvs _ h1 r => exact ⟨a, kvs, rfl, .inl ⟨o, hR.sub _ _ h1, hP F H _ (Same.refl _) hR (itok_keys h1 r)⟩⟩
  · cases eq
theorem xi_dct {k : Nat} (h : ∀ j, PE (X j) e (tVar k)) : XI G X W tg e (fIDct k) := ⟨_, fun j => pi_keysL (h j), snd_idct⟩
/-- d[k] -/
def dctE : Cl → Option (List (Key × D))
  | .dct es => some es
  | .dlk es => some es
  | _ => none
def gIxD : List Cl → Option Cl
  | [c, .fz kd] => match dctE c, keyD kd with
    | some es, some k => (getK es k).map .fz
    | _, _ => none
  | _ => none
def rIxK : R2 := fun x y H Q => ∃ a v, x = .ref a ∧ DGet H a y (some v) ∧ Q v H
theorem dctE_cr {F H : Hp} {c : Cl} {v : V} {A : List Addr} {es : List (Key × D)} (h : G.CR F H c v A) (s : Same F H) (e : dctE c = some es) : ∃ a kvs, v = .ref a ∧ Rd H a (.dK kvs) ∧ RpKs G.K F kvs es := by
  cases h with
  | dct h1 h2 r => cases e; exact ⟨_, _, rfl, .inl h1, r⟩
  | dlk h1 r => cases e; exact ⟨_, _, rfl, .inr ⟨_, s _ _ h1⟩, r⟩
  | _ => cases e
theorem prm_ixD : Prm G (l2 rIxK) gIxD := fun F H L cs vs c Q hr hc e hQ => by
  unfold gIxD at e
  split at e
  · obtain ⟨v1, v2, A1, A2, rfl, h1, h2⟩ := crs2 hc
    split at e
    · rename_i es k q1 q2
      obtain ⟨a, kvs, rfl, hd, r⟩ := dctE_cr h1 hr.sub q1
      have e2 := keyD_rp (h2.rpF rfl) q2
      rcases getK_rp k r with ⟨z, _⟩ | ⟨v, d, g1, g2, rd⟩
      · rw [z] at e; cases e
      · rw [g1] at e
        cases e
        exact ⟨a, v, rfl, .inl ⟨kvs, k, hd, e2, g2.symm⟩, hQ F H _ (Same.refl _) (hr.push rd)⟩
    · cases e
  · cases e
theorem xe_ixD {a b : Expr} {fa fb : Fn Bv} (hu : ∀ j, (X j).A.units + 1 < cLine) (ha : XB G X W a fa) (hb : XB G X W b fb) (hs : NoSl b) : XE G X W (.Subscript a b pos) (f2 fa fb gIxD) := by
  obtain ⟨ta, h1, h2⟩ := ha
  obtain ⟨tb, h3, h4⟩ := hb
  exact ⟨_, fun i => pe_dget (hu i) (h1 i) (h3 i) hs, snd_prm (r := l2 rIxK) (snd_cons h2 (snd_cons h4 snd_nil)) prm_ixD⟩
/-- d.get(k, x) -/
def fDG (k : Nat) (f : Fn (List Bv)) : Fn Cl := fun n ρ => match (ρ[k]?).join with
  | some c0 => if (dctE c0).isSome = true then bnd (fFzs f n ρ) fun as ρ1 => match (ρ1[k]?).join, as with
    | some c, [kd, dd] => match dctE c, keyD kd with
      | some es, some key => some (.ok (.fz ((getK es key).getD dd)) ρ1)
      | _, _ => none
    | _, _ => none
  else none
  | none => none
theorem snd_dg {k : Nat} {t u : TE} {f g : Fn Bv} (h : SndB G W t f) (h' : SndB G W u g) : SndE G W (tDGet2 (tVar k) t u) (fDG k (fCons f (fCons g fNil))) := fun n ρ rr eq F H σ T' Q hR hP => by
  unfold fDG at eq
  split at eq
  case h_2 => cases eq
  rename_i c0 q0
  split at eq
  case isFalse => cases eq
  rename_i hok
  obtain ⟨es0, hes0⟩ := Option.isSome_iff_exists.mp hok
  obtain ⟨v, hv, A, cr⟩ := hR.at (join_some q0)
  obtain ⟨a, kvs0, rfl, hd0, _⟩ := dctE_cr cr hR.sub hes0
  refine ⟨_, hv, a, rfl, .inl ⟨kvs0, hd0⟩, ?_⟩
  cases q : fFzs (fCons f (fCons g fNil)) n ρ with
  | none => rw [q] at eq; cases eq
  | some r1 =>
    rw [q] at eq
    refine snd_fzs (snd_cons h (snd_cons h' snd_nil)) n ρ r1 q F H σ T' (fun vs H3 => match vs with | [y, z] => ∃ o, DGet H3 a y o ∧ Q (o.getD z) H3 | _ => False) hR ?_
    cases r1 with
    | ex x ρ' => cases eq; exact hP
    | ok as ρ1 =>
      rw [bnd_ok] at eq
      intro F1 H1 ws s1 R1 ra
      split at eq
      case h_2 => cases eq
      rename_i c kd dd q1
      cases ra with
      | cons r1 ra => cases ra with
        | cons r2 ra => cases ra with
          | nil =>
            split at eq
            case h_2 => cases eq
            rename_i es key e1 e2
            cases eq
            obtain ⟨w, hw, A2, cr2⟩ := R1.at (join_some q1)
            rw [hv] at hw
            cases hw
            obtain ⟨a2, kvs, ea, hd, r⟩ := dctE_cr cr2 R1.sub e1
            cases ea
            have ek := keyD_rp r1 e2
            rcases getK_rp key r with ⟨g1, g2⟩ | ⟨v, d, g1, g2, rd⟩
            · refine ⟨none, .inl ⟨kvs, key, hd, ek, g2.symm⟩, ?_⟩
              exact hP F1 H1 _ s1 (R1.push (by rw [g1]; exact r2))
            · refine ⟨some v, .inl ⟨kvs, key, hd, ek, g2.symm⟩, ?_⟩
              exact hP F1 H1 _ s1 (R1.push (by rw [g1]; exact rd))
theorem xe_dg {k : Nat} {x : Str} {p1 apos : Pos} {f g : Fn Bv} {e e2 : Expr} (hu : ∀ j, (X j).A.units + 1 < cLine) (hx : ∀ j, PE (X j) (.Name x p1) (tVar k)) (h : XB G X W e f) (h' : XB G X W e2 g) (m : ∀ j, M2 (X j) (.Name x p1) "get" apos e e2 pos) :
    XE G X W (.Call (.Attribute (.Name x p1) "get" apos) [e, e2] [] pos) (fDG k (fCons f (fCons g fNil))) := by
  obtain ⟨t, h1, h2⟩ := h
  obtain ⟨u, h3, h4⟩ := h'
  exact ⟨_, fun i => pe_dget2 (hu i) (hx i) (h1 i) (h3 i) (m i), snd_dg h2 h4⟩
/-! ### d[k] = e -/
def setIxD (ρ : En) (k : Nat) (j d : D) : Option En := match (ρ[k]?).join with
  | some (.dct es) => match keyD j with
    | some key => if Nat.ble es.length 1000000 = true then some (ρ.set k (some (.dct (putD es key d)))) else none
    | none => none
  | _ => none
theorem setIxD_ok {F H : Hp} {ρ ρ' : En} {σ : L2.St} {T : List (Cl × V)} {k : Nat} {j d : D} {vj vd o : V} (e : setIxD ρ k j d = some ρ') (hR : G.R F H ρ σ T) (rj : Rp G.K F vj j) (rd : Rp G.K F vd d) (ho : σ[k]? = some (some o)) {Q : Hp → Prop} (hQ : ∀ H', G.R F H' ρ' σ T → Q H') : rSetD o vj vd H Q := by
  unfold setIxD at e
  split at e
  · rename_i es q
    split at e
    · rename_i key qk
      split at e
      · rename_i hl
        cases e
        have hl := Nat.le_of_ble_eq_true hl
        obtain ⟨w, h1, R'⟩ := R.take hR (join_some q)
        rw [ho] at h1
        cases h1
        have ek := keyD_rp rj qk
        obtain ⟨A, cr⟩ := R'.cr
        cases cr with
        | @dct a kvs _ h1 h2 r =>
          refine ⟨_, _, rfl, ek ▸ DPut.k h1 (by rw [r.len, sizeLine_eq]; omega), hQ _ ?_⟩
          have R2 : G.R F (upd H a (.dK (putK kvs key vd))) (ρ.set k none) σ ((.dct (putD es key d), .ref a) :: T) :=
            .mk' (R'.hr'.mut (fun A h => by cases h; rfl) (.dct upd_same h2 (putD_rp r key rd))) R'.ok
          have hk : k < ρ.length := (List.getElem?_eq_some_iff.mp (join_some q)).1
          have R3 := R.put R2 (c := .dct (putD es key d)) (i := k) (by rw [List.getElem?_set_self hk]) ho
          rw [List.set_set] at R3
          exact R3
      · cases e
    · cases e
  · cases e
def sSetIxD (k : Nat) (fe fi : Fn Bv) : FS := fun n ρ => bS (fFz fe n ρ) fun c ρ1 => match c with
  | .fz d => if ((ρ1[k]?).join).isSome = true then bS (fFz fi n ρ1) fun c2 ρ2 => match c2 with
    | .fz j => match setIxD ρ2 k j d with
      | some ρ3 => some (.nx ρ3)
      | none => none
    | _ => none
  else none
  | _ => none
theorem xs_setIxD {k : Nat} {x : Str} {px ps : Pos} {fe fi : Fn Bv} (hu : ∀ j, (X j).A.units + 1 < cLine) (hx : ∀ j, PE (X j) (.Name x px) (tVar k)) (hi : XB G X W ie fi) (he : XB G X W e fe)
    (hs : ∀ j, swapsWithSole [.Subscript (.Name x px) ie ps] e pos.line (X j).env = pure false) (hw : ∀ j, swappedStores [.Subscript (.Name x px) ie ps] e (X j).env = pure none) (h1 : ∀ j, (assignEach [.Subscript (.Name x px) ie ps] (X j).env).map (·.2) = [assign (.Subscript (.Name x px) ie ps) (X j).env])
    (ha : ∀ j v, assign (.Subscript (.Name x px) ie ps) (X j).env v = (do
      let ov ← holding [v] (eval (.Name x px) (X j).env)
      let iv ← holding [v, ov] (eval ie (X j).env)
      standAt ps
      holding [v, ov, iv] (setItem ov iv v)
      release [v, ov, iv] [])) : XS G X W P (.Assign [.Subscript (.Name x px) ie ps] e pos) (sSetIxD k fe fi) := by
  obtain ⟨ti, a1, a2⟩ := hi
  obtain ⟨te, b1, b2⟩ := he
  refine ⟨_, fun j => ps_asg (b1 j) (pg_sub (hx j) (a1 j) (set_dict (hu j)) (ha j)) (hs j) (hw j) (h1 j), fun n ρ o eq F H σ T D hR hP => ?_⟩
  unfold sSetIxD at eq
  cases q : fFz fe n ρ with
  | none => rw [q] at eq; cases eq
  | some r1 =>
    rw [q] at eq
    refine snd_fz b2 n ρ r1 q F H σ T _ hR ?_
    cases r1 with
    | ex x ρ' => cases eq; exact hP.px
    | ok c ρ1 =>
      rw [bS_ok] at eq
      intro F1 H1 v s1 R1
      cases c with
      | fz d =>
        dsimp only at eq
        split at eq
        · rename_i hk
          obtain ⟨ov, ho⟩ := slot_of R1 hk
          refine ⟨ov, ho, ?_⟩
          cases q2 : fFz fi n ρ1 with
          | none => rw [q2] at eq; cases eq
          | some r2 =>
            rw [q2] at eq
            refine snd_fz a2 n ρ1 r2 q2 F1 H1 σ _ _ R1 ?_
            cases r2 with
            | ex x ρ' =>
              cases eq
              exact fun F' H' cls d s r xr => hP F' H' σ cls d (s1.trans s) r.tail (Kp.refl _) xr
            | ok c2 ρ2 =>
              rw [bS_ok] at eq
              intro F2 H2 v2 s2 R2
              cases c2 with
              | fz dj =>
                dsimp only at eq
                cases q3 : setIxD ρ2 k dj d with
                | none => rw [q3] at eq; cases eq
                | some ρ3 =>
                  rw [q3] at eq
                  cases eq
                  refine setIxD_ok q3 R2.tail.tail R2.rp R2.tail.rp ho fun H' R' => hP F2 H' σ (s1.trans s2) R' (Kp.refl _)
              | lst _ => cases eq
              | dct _ => cases eq
              | dtt _ => cases eq
              | dlk _ => cases eq
              | bx _ _ => cases eq
              | ins _ _ => cases eq
        · cases eq
      | lst _ => cases eq
      | dct _ => cases eq
      | dtt _ => cases eq
      | dlk _ => cases eq
      | bx _ _ => cases eq
      | ins _ _ => cases eq
/-! ### the greatest of three -/
def gMax3 : List Cl → Option Cl
  | [.fz (.int i), .fz (.int j), .fz (.int k)] => some (.fz (.int (if (if i < j then j else i) < k then k else (if i < j then j else i))))
  | _ => none
theorem prm_max3 : Prm G (rNuC3 nuMax3) gMax3 := fun F H L cs vs c Q hr hc e hQ => by
  unfold gMax3 at e
  split at e
  · rename_i i j k
    cases hc with
    | cons h1 r => cases r with
      | cons h2 r => cases r with
        | cons h3 r =>
          cases r
          obtain ⟨A1, h1⟩ := h1
          obtain ⟨A2, h2⟩ := h2
          obtain ⟨A3, h3⟩ := h3
          cases cr_int h1; cases cr_int h2; cases cr_int h3
          cases e
          refine ⟨_, _, _, _, rfl, ?_, hQ F H _ (Same.refl _) (hr.push (.int _))⟩
          show ((nuLt (V.int i) (V.int j)).map fun c => if c = true then V.int j else V.int i).bind (fun m => nuMax2 m (V.int k)) = _
          show ((some (decide (i < j))).map fun c => if c = true then V.int j else V.int i).bind (fun m => nuMax2 m (V.int k)) = _
          by_cases h : i < j
          · rw [decide_eq_true h, if_pos h]
            show ((some (decide (j < k))).map fun c => if c = true then V.int k else V.int j) = _
            by_cases h2 : j < k
            · rw [decide_eq_true h2, if_pos h2]; rfl
            · rw [decide_eq_false h2, if_neg h2]; rfl
          · rw [decide_eq_false h, if_neg h]
            show ((some (decide (i < k))).map fun c => if c = true then V.int k else V.int i) = _
            by_cases h2 : i < k
            · rw [decide_eq_true h2, if_pos h2]; rfl
            · rw [decide_eq_false h2, if_neg h2]; rfl
  · cases e
/-! ### names that a comprehension hides come back -/
def restR (ρ : En) : List Nat → En → En
  | [], ρ' => ρ'
  | j :: vs, ρ' => restR ρ vs (match ρ[j]?, ρ'[j]? with
    | some (some (.fz d)), some none => ρ'.set j (some (.fz d))
    | _, _ => ρ')
theorem rest_ok {F F' H H' : Hp} {ρ : En} {σ : L2.St} {T T' : List (Cl × V)} (hR : G.R F H ρ σ T) (s : Same F F') : ∀ (vs : List Nat) (ρ' : En), G.R F' H' ρ' σ T' → G.R F' H' (restR ρ vs ρ') σ T'
  | [], _, h => h
  | j :: vs, ρ', h => by
    refine rest_ok hR s vs _ ?_
    split
    · rename_i d h1 h2
      obtain ⟨v, hv, A, cr⟩ := hR.at h1
      exact R.put (h.push ((cr.rpF rfl).mono s)) h2 hv
    · exact h
def fRest (vs : List Nat) (f : Fn Cl) : Fn Cl := fun n ρ => match f n ρ with
  | some (.ok c ρ') => some (.ok c (restR ρ vs ρ'))
  | r => r
theorem xe_rest (vs : List Nat) {f : Fn Cl} (h : XE G X W e f) : XE G X W e (fRest vs f) := by
  obtain ⟨t, h1, h2⟩ := h
  refine ⟨t, h1, fun n ρ r eq F H σ T Q hR hP => ?_⟩
  unfold fRest at eq
  split at eq
  · rename_i c ρ' q
    cases eq
    exact h2 n ρ _ q F H σ T Q hR fun F' H' v s R' => hP F' H' v s (rest_ok hR s vs ρ' R')
  · exact h2 n ρ r eq F H σ T Q hR hP
/-! ### lists in a handler: not too long -/
theorem sl_nil : ∀ (x : Ex) (ds : List D), (fun _ : Ex => some ([] : List D)) x = some ds → ds.length ≤ 0 := fun x ds h => by
  cases h
  exact Nat.le_refl _
theorem sl_str {g : Ex → Option (List D)} {n : Nat} {d : D} (h : ∀ x ds, g x = some ds → ds.length ≤ n) : ∀ (x : Ex) (ds : List D), (g x).map (d :: ·) = some ds → ds.length ≤ n + 1 := fun x ds e => by
  cases q : g x with
  | none => rw [q] at e; cases e
  | some l =>
    rw [q] at e
    cases e
    exact Nat.succ_le_succ (h x l q)
theorem sl_fld {f : Ex → Option D} {g : Ex → Option (List D)} {n : Nat} (h : ∀ x ds, g x = some ds → ds.length ≤ n) : ∀ (x : Ex) (ds : List D), ((f x).bind fun d => (g x).map (d :: ·)) = some ds → ds.length ≤ n + 1 := fun x ds e => by
  cases q : f x with
  | none => rw [q] at e; cases e
  | some d =>
    rw [q] at e
    exact sl_str h x ds e
/-! max of a list of ints -/
def maxI : List Int → Int
  | [] => 0
  | x :: xs => match xs with
    | [] => x
    | _ :: _ => if x < maxI xs then maxI xs else x
theorem maxI_ok : ∀ ns : List Int, ns ≠ [] → maxI ns ∈ ns ∧ ∀ y ∈ ns, y ≤ maxI ns
  | [], h => absurd rfl h
  | [x], _ => ⟨List.mem_singleton.mpr rfl, fun y hy => by rw [List.mem_singleton.mp hy]; exact Int.le_refl _⟩
  | x :: y :: r, _ => by
    obtain ⟨h1, h2⟩ := maxI_ok (y :: r) (by simp)
    have e : maxI (x :: y :: r) = if x < maxI (y :: r) then maxI (y :: r) else x := rfl
    rw [e]
    by_cases h : x < maxI (y :: r)
    · rw [if_pos h]
      refine ⟨List.mem_cons_of_mem _ h1, fun z hz => ?_⟩
      rcases List.mem_cons.mp hz with q | q
      · omega
      · exact h2 z q
    · rw [if_neg h]
      refine ⟨List.mem_cons_self, fun z hz => ?_⟩
      rcases List.mem_cons.mp hz with q | q
      · omega
      · have := h2 z q
        omega
def gMaxL : List Cl → Option Cl
  | [c] => match c.data with
    | some (.list ds) => match intsD ds with
      | some ns => if ns.length = 0 then none else some (.fz (.int (maxI ns)))
      | none => none
    | _ => none
  | _ => none
theorem prm_maxL : Prm G (rMax G.K) gMaxL := fun F H L cs vs c Q hr hc e hQ => by
  unfold gMaxL at e
  split at e
  · obtain ⟨v1, A1, rfl, h1⟩ := crs1 hc
    split at e
    · rename_i ds q
      obtain ⟨a, ws, rfl, q1, r1⟩ := h1.seqL hr.sub q
      cases q2 : intsD ds with
      | none => rw [q2] at e; cases e
      | some ns =>
        rw [q2] at e
        dsimp only at e
        split at e
        · cases e
        · rename_i h0
          cases e
          have ed := intsD_ok q2
          subst ed
          have ew := r1.ints
          subst ew
          obtain ⟨m1, m2⟩ := maxI_ok ns fun z => h0 (by rw [z]; rfl)
          refine ⟨_, _, rfl, q1, by omega, fun m h2 h3 => ?_⟩
          have : m = maxI ns := Int.le_antisymm (m2 m h2) (h3 _ m1)
          rw [this]
          exact hQ F H _ (Same.refl _) (hr.push (.int _))
    · cases e
  · cases e
/-! a, b, .. = a list by its name: the list is looked at, not frozen -/
def sUnp (k n : Nat) (g : FGs) : FS := fun _ ρ => match (ρ[k]?).join with
  | some (.lst ds) => if ds.length = n then (match g ds ρ with
    | some ρ2 => some (.nx ρ2)
    | none => none) else none
  | _ => none
theorem xs_unp {k n m : Nat} {x : Str} {px p2 : Pos} {es : List Expr} {f : FGs} (hK : ∀ j, (X j).K = G.K) (hx : ∀ j, PE (X j) (.Name x px) (tVar k)) (hc : ∀ i, (X i).calm = true) (h : XGs G X P es f) (hn : ∀ i, (assignEach es (X i).env).length = n) (hst : ∀ i, (assignEach es (X i).env).findIdx? (·.1) = none)
    (hs : ∀ i, swapsWithSole [.Tuple es m p2] (.Name x px) pos.line (X i).env = pure false) (hw : ∀ i, swappedStores [.Tuple es m p2] (.Name x px) (X i).env = pure none)
    (h1 : ∀ i, (assignEach [.Tuple es m p2] (X i).env).map (·.2) = [assign (.Tuple es m p2) (X i).env]) : XS G X W P (.Assign [.Tuple es m p2] (.Name x px) pos) (sUnp k n f) := by
  obtain ⟨t, b1, b2⟩ := h
  refine ⟨_, fun i => ps_asg (hx i) (by have := pg_lst (k := m) (pos := p2) (hc i) (b1 i) (hn i) (hst i); rw [hK i] at this; exact this) (hs i) (hw i) (h1 i), fun n' ρ o e F H σ T D hR hP => ?_⟩
  unfold sUnp at e
  split at e
  case h_2 => cases e
  rename_i ds q
  split at e
  case isFalse => cases e
  rename_i hl
  cases q2 : f ds ρ with
  | none => rw [q2] at e; cases e
  | some ρ2 =>
    rw [q2] at e
    cases e
    obtain ⟨v, h1, R'⟩ := R.take hR (join_some q)
    obtain ⟨A, cr⟩ := R'.cr
    cases cr with
    | lst a1 a2 r =>
      refine ⟨_, h1, _, _, rfl, .inl (.inl a1), by rw [r.length]; exact hl, ?_⟩
      exact b2 ds ρ ρ2 q2 F H σ T _ _ hR r fun σ' R2 k => hP F H σ' (Same.refl _) R2 k
end
end L3

set_option maxHeartbeats 1000000
namespace L2
open PySem PySem.Spec PyProof.Rows
/-- a text of one sign so often -/
theorem op_repS {X : Cx} : OpR X (binaryOp .Mult) (fun x y H Q => ∃ (c n : Nat), x = .str ⟨#[c]⟩ ∧ y = .int (n : Int) ∧ n ≤ 1000000 ∧ Q (.str ⟨(List.replicate n c).toArray⟩) H) := by
  intro pins s σ H x y v u Q I rx ry h
  obtain ⟨c, n, rfl, rfl, hn, q⟩ := h
  obtain ⟨t, rfl⟩ := rx
  obtain ⟨t', rfl⟩ := ry
  have l1 : (⟨#[c]⟩ : Str).length = 1 := rfl
  have f0 : ∀ (m : Nat) (acc : List Nat), List.foldl (fun x1 x2 => x1 ++ x2) acc.toArray (List.replicate m #[c]) = (acc ++ List.replicate m c).toArray := fun m => by
    induction m with
    | zero => intro acc; simp
    | succ m ih =>
      intro acc
      rw [List.replicate_succ, List.foldl_cons]
      have : acc.toArray ++ #[c] = (acc ++ [c]).toArray := by simp
      rw [this, ih, List.replicate_succ, List.append_assoc]
      rfl
  have sz : (sizeLine : Nat) = 16777216 := sizeLine_eq
  have hrg : (decide ((n : Int) < -(2 ^ 63 : Int)) || decide ((n : Int) ≥ 2 ^ 63)) = false := by
    rw [decide_eq_false (by omega), decide_eq_false (by omega)]; rfl
  by_cases h0 : n = 0
  · subst h0
    refine PySem.P.mul_str hrg (fun h => absurd (show ((0 : Nat) : Int) < 1 by decide) h) (fun h => absurd (show ((0 : Nat) : Int) < 1 by decide) h) ?_
    rw [if_pos (by decide)]
    exact ⟨by decide, ⟨.str _, H, I.tok _, ⟨_, rfl⟩, q⟩⟩
  by_cases h1 : n = 1
  · subst h1
    refine PySem.P.mul_str hrg (fun _ h => nomatch (show true = false from h)) (fun _ h => nomatch (show true = false from h)) ?_
    rw [if_neg (by decide), if_pos (by rfl)]
    exact ⟨.str _, H, I, ⟨_, rfl⟩, q⟩
  have h2 : 2 ≤ n := by omega
  have n1 : ¬ ((n : Int) < 1) := by omega
  have b1 : ((n : Int) == 1 || (⟨#[c]⟩ : Str).length == 0) = false := by
    rw [l1, Bool.or_eq_false_iff]
    exact ⟨beq_eq_false_iff_ne.mpr (by omega), rfl⟩
  refine PySem.P.mul_str hrg (fun _ _ => ?_) (fun _ _ => ?_) ?_
  · rw [l1]
    have : (1 : Int) ≤ (2 ^ 63 - 1) / (n : Int) := by
      refine Int.le_ediv_of_mul_le (by omega) ?_
      omega
    omega
  · unfold Builtin.Str.tooLong
    refine decide_eq_false ?_
    rw [l1, Nat.one_mul, Int.toNat_natCast]
    omega
  · rw [if_neg n1, if_neg (by rw [b1]; exact Bool.false_ne_true)]
    have e : (⟨List.foldl (fun x1 x2 => x1 ++ x2) #[] (List.replicate (n : Int).toNat (⟨#[c]⟩ : Str).cps)⟩ : Str) = ⟨(List.replicate n c).toArray⟩ := by
      have := f0 n []
      rw [List.nil_append] at this
      rw [Int.toNat_natCast]
      exact congrArg Str.mk this
    rw [e]
    refine ⟨?_, ⟨.str _, H, I.tok _, ⟨_, rfl⟩, q⟩⟩
    show (List.replicate n c).toArray.size ≤ sizeLine
    rw [List.size_toArray, List.length_replicate]
    omega
end L2
namespace L3
open PySem PySem.Spec L2 PyProof.Rows
/-! ### texts -/
section
variable {ι : Type} {G : Gd} {X : ι → Cx} {W : WX} {P : List Nat} {e e2 ie tg : Expr} {pos : Pos}
def gRepS : List Cl → Option Cl
  | [.fz (.str x), .fz (.int k)] => match x.cps.toList with
    | [c] => if (Nat.ble k.toNat 1000000 && decide (0 ≤ k)) = true then some (.fz (.str ⟨(List.replicate k.toNat c).toArray⟩)) else none
    | _ => none
  | _ => none
theorem str_one {x : Str} {c : Nat} (h : x.cps.toList = [c]) : x = ⟨#[c]⟩ := by
  obtain ⟨a⟩ := x
  congr 1
  have : a.toList = [c] := h
  exact Array.toList_inj.mp this
theorem prm_repS : Prm G (l2 (fun x y H Q => ∃ (c n : Nat), x = V.str ⟨#[c]⟩ ∧ y = V.int (n : Int) ∧ n ≤ 1000000 ∧ Q (.str ⟨(List.replicate n c).toArray⟩) H)) gRepS := fun F H L cs vs c Q hr hc e hQ => by
  unfold gRepS at e
  split at e
  · rename_i x k
    obtain ⟨v1, v2, A1, A2, rfl, h1, h2⟩ := crs2 hc
    cases cr_str h1; cases cr_int h2
    split at e
    · rename_i c hx
      split at e
      · rename_i hk
        simp only [Bool.and_eq_true, decide_eq_true_eq] at hk
        obtain ⟨b, d⟩ := hk
        have b := Nat.le_of_ble_eq_true b
        cases e
        have := str_one hx
        subst this
        obtain ⟨n, rfl⟩ : ∃ n : Nat, k = n := ⟨k.toNat, by omega⟩
        rw [Int.toNat_natCast] at b
        refine ⟨c, n, rfl, rfl, b, ?_⟩
        exact hQ F H _ (Same.refl _) (hr.push (.str _))
      · cases e
    · cases e
  · cases e
/-! int of a text, text of an int -/
def gIntA : List Cl → Option Cl
  | [.fz (.str x)] => if Nat.ble x.length 640 = true then (intText? x).map fun n => .fz (.int n) else none
  | cs => gInt cs
theorem call_intA {Y : Cx} : CallR Y (.type "int") (fun xs H Q => ((∃ i, xs = [.int i] ∧ Q (.int i) H) ∨ ∃ k, xs = [.bl k] ∧ Q (.int (if k then 1 else 0)) H) ∨ ∃ a n, xs = [.str a] ∧ PySem.intText? a = some n ∧ a.length ≤ 640 ∧ Q (.int n) H) := call_int1.or call_int_str
theorem prm_intA : Prm G (fun xs H Q => ((∃ i, xs = [V.int i] ∧ Q (.int i) H) ∨ ∃ k, xs = [V.bl k] ∧ Q (.int (if k then 1 else 0)) H) ∨ ∃ a n, xs = [V.str a] ∧ PySem.intText? a = some n ∧ a.length ≤ 640 ∧ Q (.int n) H) gIntA := fun F H L cs vs c Q hr hc e hQ => by
  unfold gIntA at e
  split at e
  · rename_i x
    obtain ⟨v1, A1, rfl, h1⟩ := crs1 hc
    cases cr_str h1
    split at e
    · rename_i hl
      have hl := Nat.le_of_ble_eq_true hl
      cases q : intText? x with
      | none => rw [q] at e; cases e
      | some n =>
        rw [q] at e
        cases e
        exact .inr ⟨_, n, rfl, q, hl, hQ F H _ (Same.refl _) (hr.push (.int _))⟩
    · cases e
  · exact .inl (prm_int F H L cs vs c Q hr hc e hQ)
def txt (i : Int) : Str := Str.ofString (toString i)
def gStr : List Cl → Option Cl
  | [.fz (.int i)] => if Nat.blt i.natAbs.log2 1920 = true then some (.fz (.str (txt i))) else none
  | _ => none
theorem prm_str : Prm G (fun xs H Q => ∃ i, xs = [V.int i] ∧ i.natAbs.log2 < 1920 ∧ Q (.str (toString i)) H) gStr := fun F H L cs vs c Q hr hc e hQ => by
  unfold gStr at e
  split at e
  · rename_i i
    obtain ⟨v1, A1, rfl, h1⟩ := crs1 hc
    cases cr_int h1
    split at e
    · rename_i hl
      cases e
      exact ⟨i, rfl, Nat.le_of_ble_eq_true hl, hQ F H _ (Same.refl _) (hr.push (.str _))⟩
    · cases e
  · cases e
/-! one sign in a text -/
def gInS (neg : Bool) : List Cl → Option Cl
  | [.fz (.str x), .fz (.str z)] => match x.cps.toList with
    | [c] => some (.fz (.bool (if neg = true then !decide (c ∈ z.cps.toList) else decide (c ∈ z.cps.toList))))
    | _ => none
  | _ => none
theorem prm_inS : Prm G (l2 rInS) (gInS false) := fun F H L cs vs c Q hr hc e hQ => by
  unfold gInS at e
  split at e
  · obtain ⟨v1, v2, A1, A2, rfl, h1, h2⟩ := crs2 hc
    cases cr_str h1; cases cr_str h2
    split at e
    · rename_i c hx
      cases e
      have := str_one hx
      subst this
      exact ⟨c, _, rfl, rfl, hQ F H _ (Same.refl _) (hr.push (.bl _))⟩
    · cases e
  · cases e
/-! signs of a text, one by one -/
def signsD (x : Str) : List D := x.cps.toList.map fun c => .str ⟨#[c]⟩
theorem itok_str {F : Hp} (x : Str) : ItOk G (Its x) F (signsD x) where
  go := fun F' H' L i s hr hi => by
    have : i < x.cps.toList.length := by simpa [signsD] using hi
    show i < x.cps.size
    simpa using this
  yld := fun F' H' L i v H'' d s hr hd hy => by
    obtain ⟨rfl, c, hc, rfl⟩ := hy
    refine ⟨F', Same.refl _, hr, ?_⟩
    unfold signsD at hd
    rw [List.getElem?_map] at hd
    have hc : x.cps.toList[i]? = some c := by simpa using hc
    rw [hc] at hd
    cases hd
    exact .str _
  stop := fun F' H' L i s hr hi => by
    have : x.cps.toList.length ≤ i := by simpa [signsD] using hi
    show x.cps.size ≤ i
    simpa using this
def fIStr (f : Fn Bv) : Fn (List D) := fun n ρ => bnd (fFz f n ρ) fun c ρ1 => match c with
  | .fz (.str x) => some (.ok (signsD x) ρ1)
  | _ => none
theorem snd_istr {t : TE} {f : Fn Bv} (h : SndB G W t f) : SndI G W (iStr t) (fIStr f) := fun n ρ r e F H σ T Q hR hP => by
  unfold fIStr at e
  cases q : fFz f n ρ with
  | none => rw [q] at e; cases e
  | some r1 =>
    rw [q] at e
    refine snd_fz h n ρ r1 q F H σ T _ hR ?_
    cases r1 with
    | ex x ρ' => cases e; exact hP
    | ok c ρ1 =>
      rw [bnd_ok] at e
      intro F1 H1 v s1 R1
      split at e
      · rename_i x
        cases e
        have := R1.rp
        cases this
        exact ⟨x, rfl, hP F1 H1 _ s1 R1.tail (itok_str x)⟩
      · cases e
theorem xi_str {f : Fn Bv} (h : XB G X W e f) : XI G X W tg e (fIStr f) := by
  obtain ⟨t, h1, h2⟩ := h
  exact ⟨_, fun i => pi_str (h1 i), snd_istr h2⟩
/-! methods of a text -/
def fMvS (f0 : Fn Bv) (fs : Fn (List Bv)) (g : Str → List D → Option Cl) : Fn Cl := fun n ρ => bnd (fFz f0 n ρ) fun c ρ1 => match c with
  | .fz (.str x) => bnd (fFzs fs n ρ1) fun as ρ2 => match g x as with
    | some r => some (.ok r ρ2)
    | none => none
  | _ => none
def SndMV (G : Gd) (r : V → List V → Hp → VK → Prop) (g : Str → List D → Option Cl) : Prop :=
  ∀ x as c, g x as = some c → ∀ F H L ws (Q : VK), G.HR F H L → RpA G.K F ws as → (∀ F' H' u, Same F F' → G.HR F' H' ((c, u) :: L) → Q u H') → r (.str x) ws H Q
theorem snd_mvS {t : TE} {ta : TA} {f0 : Fn Bv} {fs : Fn (List Bv)} {r : V → List V → Hp → VK → Prop} {g : Str → List D → Option Cl} (h0 : SndB G W t f0) (hs : SndBs G W ta fs) (hg : SndMV G r g) : SndE G W (tBM G.K "str" r t ta) (fMvS f0 fs g) := fun n ρ rr e F H σ T Q hR hP => by
  unfold fMvS at e
  cases q : fFz f0 n ρ with
  | none => rw [q] at e; cases e
  | some r1 =>
    rw [q] at e
    refine snd_fz h0 n ρ r1 q F H σ T _ hR ?_
    cases r1 with
    | ex x ρ' => cases e; exact hP
    | ok c ρ1 =>
      rw [bnd_ok] at e
      intro F1 H1 v s1 R1
      split at e
      case h_2 => cases e
      rename_i x
      have rv := R1.rp
      cases rv
      refine ⟨rfl, ?_⟩
      cases q2 : fFzs fs n ρ1 with
      | none => rw [q2] at e; cases e
      | some r2 =>
        rw [q2] at e
        refine snd_fzs hs n ρ1 r2 q2 F1 H1 σ T _ R1.tail ?_
        cases r2 with
        | ex y ρ' =>
          cases e
          exact fun F' H' cls d s R' hx => hP F' H' cls d (s1.trans s) R' hx
        | ok as ρ2 =>
          rw [bnd_ok] at e
          intro F2 H2 ws s2 R2 ra
          split at e
          case h_2 => cases e
          rename_i cr qc
          cases e
          exact hg x as cr qc F2 H2 _ ws _ R2.hr ra fun F' H' u s hr => hP F' H' u ((s1.trans s2).trans s) (.mk' hr R2.ok)
def gSplit : Str → List D → Option Cl
  | a, [.str b] => if (!(b.length == 0) && Nat.ble a.length 10000000) = true then some (.lst ((Txt.split a b).map .str)) else none
  | _, _ => none
def rSplit1 : V → List V → Hp → VK → Prop := fun x xs H Q => ∃ a b, x = .str a ∧ xs = [.str b] ∧ (b.length == 0) = false ∧ a.length + 2 ≤ sizeLine ∧ rNewStrs (Txt.split a b) H Q
theorem rpA_strs {K : PySem.W.Frag} {F : Hp} : ∀ ys : List Str, RpA K F (ys.map V.str) (ys.map .str)
  | [] => .nil
  | y :: ys => .cons (.str y) (rpA_strs ys)
theorem smv_split : SndMV G rSplit1 gSplit := fun x as c e F H L ws Q hr ra hQ => by
  unfold gSplit at e
  split at e
  · rename_i b
    split at e
    · rename_i hh
      rw [Bool.and_eq_true] at hh
      cases e
      cases ra with
      | cons r1 ra =>
        cases ra
        cases r1
        have hl := Nat.le_of_ble_eq_true hh.2
        refine ⟨x, b, rfl, rfl, by simpa using hh.1, by rw [sizeLine_eq]; omega, fun p hp => hQ F _ _ (Same.refl _) (HR.lstN hr hp (rpA_strs _))⟩
    · cases e
  · cases e
def strsD : List D → Option (List Str)
  | [] => some []
  | .str x :: ds => match strsD ds with
    | some xs => some (x :: xs)
    | none => none
  | _ => none
theorem strsD_rp {K : PySem.W.Frag} {F : Hp} : ∀ {vs : List V} {ds : List D} {ys : List Str}, RpA K F vs ds → strsD ds = some ys → vs = ys.map V.str
  | _, _, ys, .nil, h => by cases h; rfl
  | _, _, ys, .cons (v := v) (d := d) (ds := ds) r ra, h => by
    cases d with
    | str x =>
      cases r
      have h : (match strsD ds with | some xs => some (x :: xs) | none => none) = some ys := h
      cases q : strsD ds with
      | none => rw [q] at h; cases h
      | some xs =>
        rw [q] at h
        cases h
        rw [strsD_rp ra q]; rfl
    | _ => cases h
def gJoin : Str → List D → Option Cl
  | a, [d] => match asSeq d with
    | some ds => match strsD ds with
      | some ys => if Nat.ble ((ys.map (·.length)).sum + ys.length * a.length) 10000000 = true then some (.fz (.str (Txt.join a ys))) else none
      | none => none
    | none => none
  | _, _ => none
def rJoin1 (K : PySem.W.Frag) : V → List V → Hp → VK → Prop := fun x xs H Q => ∃ a p, ∃ ys : List Str, x = .str a ∧ xs = [.ref p] ∧ (SqL K H p (ys.map V.str) ∨ SqT K H p (ys.map V.str)) ∧
    (ys.map (·.length)).sum + ys.length * a.length ≤ 16777216 ∧ Q (.str (Txt.join a ys)) H
theorem smv_join : SndMV G (rJoin1 G.K) gJoin := fun x as c e F H L ws Q hr ra hQ => by
  unfold gJoin at e
  split at e
  case h_2 => cases e
  rename_i d
  split at e
  case h_2 => cases e
  rename_i ds q1
  split at e
  case h_2 => cases e
  rename_i ys q2
  split at e
  case isFalse => cases e
  rename_i hz
  have hz := Nat.le_of_ble_eq_true hz
  cases e
  cases ra with
  | cons r1 ra =>
    cases ra
    unfold asSeq at q1
    split at q1
    · cases q1
      cases r1 with
      | lst h1 r =>
        have := strsD_rp r q2
        subst this
        exact ⟨x, _, ys, rfl, rfl, .inl (hr.sub.seq h1), by omega, hQ F H _ (Same.refl _) (hr.push (.str _))⟩
    · cases q1
      cases r1 with
      | tup h1 r =>
        have := strsD_rp r q2
        subst this
        exact ⟨x, _, ys, rfl, rfl, .inr (sameT hr.sub h1), by omega, hQ F H _ (Same.refl _) (hr.push (.str _))⟩
    · cases q1
theorem xe_mvS {o : Expr} {es : List Expr} {m : Str} {p2 : Pos} {f0 : Fn Bv} {fs : Fn (List Bv)} {r : V → List V → Hp → VK → Prop} {g : Str → List D → Option Cl} (hK : ∀ i, (X i).K = G.K)
    (hp : ∀ (to : TE) (t : TA), (∀ j, PE (X j) o to) → (∀ j, PA (X j) (e :: es) t) → ∀ j, PE (X j) (.Call (.Attribute o m p2) (e :: es) [] pos) (tBM (X j).K "str" r to t)) (hs : SndMV G r g) (h0 : XB G X W o f0) (h : XBs G X W (e :: es) fs) :
    XE G X W (.Call (.Attribute o m p2) (e :: es) [] pos) (fMvS f0 fs g) := by
  obtain ⟨to, a1, a2⟩ := h0
  obtain ⟨t, h1, h2⟩ := h
  exact ⟨_, fun i => by have := hp to t a1 h1 i; rw [hK i] at this; exact this, snd_mvS a2 h2 hs⟩
end
end L3

set_option maxHeartbeats 1000000
namespace L2
open PySem PySem.Spec PyProof.Rows
/-! ### sorted(d): ints as keys, however many -/
def rSortDK : List V → Hp → VK → Prop := fun us H Q => ∃ (d : Addr) (ps : List (Key × V)) (is : List Int), us = [.ref d] ∧ Rd H d (.dK ps) ∧ ps.map (·.1) = is.map Sum.inl ∧
  ∀ (js : List Int) (q : Addr), js.Perm is → js.Pairwise (· ≤ ·) → H q = none → Q (.ref q) (upd H q (.lst (js.map V.int)))
theorem int_key {b : Int} {v : Value} (h : keyIs (.inl b) v = true) : ∃ t, v = .int b t := by
  rcases keyIs_shape h with ⟨_, t, e, ev⟩ | ⟨_, _, e, _⟩
  · exact ⟨t, Sum.inl.inj e ▸ ev⟩
  · exact nomatch e
/-- list.sort of ints, on a list just laid: the heap keeps what stood, and the list holds them in order -/
theorem sort_laid {prog : Program} {w : World} {A : Around} {E : Value → Shared → Prop} {s : Shared} {us : List Value} {is : List Int} {Q : Value → Shared → Prop} (each : IntsAre us is) (room : us.length ≤ sizeLine)
    (q : ∀ (h' : Heap) (js : List Int) (ws : List Value) (n : Nat), js.Perm is → js.Pairwise (· ≤ ·) → IntsAre ws js → (∀ c o, s.heap.get? c = some o → h'.get? c = some o) →
      h'.get? s.heap.objs.size = some { cls := .type "list", data := .seq ws.toArray n } → Q .none { s with heap := h' }) :
    wpAny (model prog w) A (call (.builtin "list.sort") [.ref s.heap.objs.size]) Q E { s with heap := s.heap.push (seqObj "list" us.toArray 0) } := by
  have here : (s.heap.push (seqObj "list" us.toArray 0)).get? s.heap.objs.size = some (seqObj "list" us.toArray 0) := Heap.get?_push_size _ rfl
  refine wpAny_call_entry PyProof.Rows.slot_list_sort ⟨_, here, rfl⟩ PyProof.Rows.entry_list_sort (SrtO.list_sort_ord (s := { s with heap := s.heap.push (seqObj "list" us.toArray 0) }) SrtO.swo_int here room (fun two => SrtO.ints_sortable each two) fun res srt bag => ⟨_, rfl, ?_⟩) (PyProof.Rows.args_list_sort _)
  have ⟨all, perm, up⟩ := SrtO.ints_out each srt bag
  have ⟨n, at_⟩ := PyProof.Rows.sortedHeap_at (vs := us) (out := res.toArray) here
  refine q _ _ _ n perm up all (fun c o e => ?_) at_
  have lt := Heap.lt_size e
  exact (PyProof.Rows.sortedHeap_old (Nat.ne_of_lt lt) (by rw [size_push']; exact Nat.lt_succ_of_lt lt)).trans (Heap.get?_push_of_some _ e)
theorem cr_sortDK {X : Cx} (hcm : X.calm = true) : CallR X (.builtin "sorted") rSortDK := by
  rintro pins s σ H _ us Q I rel ⟨d, kvs, is, rfl, rd, ks, q⟩
  have ⟨u, eu, ru⟩ := vals1 rel
  cases eu
  cases ru
  have ⟨fit, lo, ws, rk, dd⟩ := dk_rd I.hok rd
  have ⟨ep, at_⟩ := dd.dictAt
  have keys : ws.map (·.1) = is.map Sum.inl := rk.keys.symm.trans ks
  have len : ws.length = is.length := by simpa using congrArg List.length keys
  have room : ws.length ≤ sizeLine := rk.length ▸ fit
  refine Calls.call_function_entry PyProof.Rows.kind_sorted PyProof.Rows.plain_sorted PyProof.Rows.entry_sorted (PyProof.Rows.args_sorted1 _) ?_
  unfold Builtin.«sorted»
  refine wpAny_bind (m := checkCount "sorted" 1 1 _) (wpAny_pure (wpAny_bind (PySem.W.kdu_collect (A := X.A.in1) (PySem.W.kdl_dict (knd := mixKind X.prog X.w) (kvs := ws) (ep := ep) lo) (I.ok.hd hcm) at_ room fun h1 tk got kept each => ?_)))
  have many : got.toList.length = is.length := by rw [Array.length_toList, each.1, len]
  have whole : IntsAre got.toList is := ints_each many fun j v e => by
    have ⟨k, y, e1, e2⟩ := each.2 j v ((Array.getElem?_toList ..).symm.trans e)
    have e3 : (is.map Sum.inl)[j]? = some k := by rw [← keys, List.getElem?_map, e1]; rfl
    rw [List.getElem?_map] at e3
    have ⟨b, eb, ek⟩ := Option.map_eq_some_iff.mp e3
    have ⟨t, et⟩ := int_key (b := b) (v := v) (ek ▸ e2)
    exact ⟨b, t, eb, et⟩
  have room' : got.toList.length ≤ sizeLine := by rw [many, ← len]; exact room
  have J : Inv X pins σ H { s with heap := h1, toks := tk } := I.kept kept
  refine wpAny_bind (wpAny_newList (wpAny_bind (wpAny_holding (sort_laid (s := { s with heap := h1, toks := tk }) whole room' fun h2 js vs n perm up all old at2 => ?_))) room')
  have L := J.laid (t' := tk) (o := .lst (js.map V.int)) old (Nat.le_refl _) ⟨by rw [List.length_map, perm.length_eq, ← many]; exact room', vs, n, vals_of_ints all, at2⟩
  exact wpAny_pure ⟨_, rfl, .ref h1.objs.size, _, L, rfl, q _ _ perm up (J.hok.fresh (Nat.le_refl _))⟩
end L2
namespace L3
open PySem PySem.Spec L2 PyProof.Rows
/-! ### what sorting comes to -/
def insI (x : Int) : List Int → List Int
  | [] => [x]
  | y :: ys => if x ≤ y then x :: y :: ys else y :: insI x ys
def sortI : List Int → List Int
  | [] => []
  | x :: xs => insI x (sortI xs)
theorem insI_perm (x : Int) : ∀ ys : List Int, (insI x ys).Perm (x :: ys)
  | [] => .refl _
  | y :: ys => by
    unfold insI
    split
    · exact .refl _
    · exact (List.Perm.cons y (insI_perm x ys)).trans (.swap x y ys)
theorem sortI_perm : ∀ xs : List Int, (sortI xs).Perm xs
  | [] => .refl _
  | x :: xs => (insI_perm x _).trans (List.Perm.cons x (sortI_perm xs))
theorem insI_pw (x : Int) : ∀ ys : List Int, ys.Pairwise (· ≤ ·) → (insI x ys).Pairwise (· ≤ ·)
  | [], _ => List.pairwise_singleton _ _
  | y :: ys, h => by
    have h' := List.pairwise_cons.mp h
    unfold insI
    split
    · rename_i hx
      refine List.pairwise_cons.mpr ⟨fun z hz => ?_, h⟩
      rcases List.mem_cons.mp hz with e | hz
      · rw [e]; exact hx
      · exact Int.le_trans hx (h'.1 z hz)
    · rename_i hx
      refine List.pairwise_cons.mpr ⟨fun z hz => ?_, insI_pw x ys h'.2⟩
      rcases List.mem_cons.mp ((insI_perm x ys).mem_iff.mp hz) with e | hz
      · rw [e]; omega
      · exact h'.1 z hz
theorem sortI_pw : ∀ xs : List Int, (sortI xs).Pairwise (· ≤ ·)
  | [] => .nil
  | x :: xs => insI_pw x _ (sortI_pw xs)
theorem pw_uniq : ∀ xs ys : List Int, xs.Perm ys → xs.Pairwise (· ≤ ·) → ys.Pairwise (· ≤ ·) → xs = ys
  | [], ys, p, _, _ => (List.Perm.nil_eq p)
  | x :: xs, [], p, _, _ => by have := p.length_eq; simp at this
  | x :: xs, y :: ys, p, h1, h2 => by
    have a1 := List.pairwise_cons.mp h1
    have a2 := List.pairwise_cons.mp h2
    have e : x = y := by
      have m1 : x ∈ y :: ys := p.mem_iff.mp List.mem_cons_self
      have m2 : y ∈ x :: xs := p.mem_iff.mpr List.mem_cons_self
      rcases List.mem_cons.mp m1 with e | m1
      · exact e
      · rcases List.mem_cons.mp m2 with e | m2
        · exact e.symm
        · have b1 := a2.1 x m1
          have b2 := a1.1 y m2
          omega
    subst e
    rw [pw_uniq xs ys ((List.perm_cons x).mp p) a1.2 a2.2]
theorem sort_is {xs ys : List Int} (p : ys.Perm xs) (h : ys.Pairwise (· ≤ ·)) : ys = sortI xs :=
  pw_uniq _ _ (p.trans (sortI_perm xs).symm) h (sortI_pw xs)
def intKeys {α : Type} : List (Key × α) → Option (List Int)
  | [] => some []
  | (.inl i, _) :: r => (intKeys r).map (i :: ·)
  | (.inr _, _) :: _ => none
theorem intKeys_ok {α β : Type} : ∀ {kvs : List (Key × α)} {es : List (Key × β)} {is : List Int}, kvs.map (·.1) = es.map (·.1) → intKeys es = some is → kvs.map (·.1) = is.map Sum.inl
  | kvs, [], is, h, e => by cases e; simpa using h
  | [], (.inl i, d) :: es, is, h, e => by simp at h
  | (k, v) :: kvs, (.inl i, d) :: es, is, h, e => by
    rw [List.map_cons, List.map_cons, List.cons.injEq] at h
    unfold intKeys at e
    cases q : intKeys es with
    | none => rw [q] at e; cases e
    | some js =>
      rw [q] at e
      cases e
      rw [List.map_cons, List.map_cons, h.1, intKeys_ok h.2 q]
  | _, (.inr _, _) :: _, _, _, e => by cases e
theorem rpks_keys {K : PySem.W.Frag} {F : Hp} {κ : Type} : ∀ {kvs : List (κ × V)} {es : List (κ × D)}, RpKs K F kvs es → kvs.map (·.1) = es.map (·.1)
  | _, _, .nil => rfl
  | _, _, .cons h r => by rw [List.map_cons, List.map_cons, rpks_keys r]
section
variable {G : Gd}
def gSortD : List Cl → Option Cl
  | [c] => match dctE c with
    | some es => (intKeys es).map fun is => .lst ((sortI is).map PyData.int)
    | none => none
  | _ => none
theorem prm_sortD : Prm G rSortDK gSortD := fun F H L cs vs c Q hr hc e hQ => by
  unfold gSortD at e
  split at e
  · rename_i c0
    obtain ⟨v1, A1, rfl, h1⟩ := crs1 hc
    cases q : dctE c0 with
    | none => rw [q] at e; cases e
    | some es =>
      rw [q] at e
      dsimp only at e
      cases q2 : intKeys es with
      | none => rw [q2] at e; cases e
      | some is =>
        rw [q2] at e
        cases e
        obtain ⟨a, kvs, rfl, hd, rk⟩ := dctE_cr h1 hr.sub q
        refine ⟨a, kvs, is, rfl, hd, intKeys_ok (rpks_keys rk) q2, fun js p hp hs hn => ?_⟩
        rw [sort_is hp hs]
        exact hQ F _ _ (Same.refl _) (HR.lstN hr hn (RpA.of_ints _))
  · cases e
def gSortL : List Cl → Option Cl
  | [c] => match c.data with
    | some (.list ds) => (intsD ds).map fun is => .lst ((sortI is).map PyData.int)
    | _ => none
  | _ => none
theorem prm_sortL : Prm G (rSortedI G.K) gSortL := fun F H L cs vs c Q hr hc e hQ => by
  unfold gSortL at e
  split at e
  · obtain ⟨v1, A1, rfl, h1⟩ := crs1 hc
    split at e
    · rename_i ds q
      cases q2 : intsD ds with
      | none => rw [q2] at e; cases e
      | some is =>
        rw [q2] at e
        cases e
        obtain ⟨a, ws, rfl, q1, r1⟩ := h1.seqL hr.sub q
        cases intsD_ok q2
        have ew := r1.ints
        subst ew
        refine ⟨a, is, rfl, q1, fun js p hp hs hn => ?_⟩
        rw [sort_is hp hs]
        exact hQ F _ _ (Same.refl _) (HR.lstN hr hn (RpA.of_ints _))
    · cases e
  · cases e
end
/-! ### {k: v} -/
section
variable {ι : Type} {G : Gd} {X : ι → Cx} {W : WX} {e1 e2 : Expr} {pos : Pos}
def fDct1 (f g : Fn Bv) : Fn Cl := fun n ρ => bnd (fFz f n ρ) fun c1 ρ1 => bnd (fFz g n ρ1) fun c2 ρ2 => match c1, c2 with
  | .fz kd, .fz d => match keyD kd with
    | some k => some (.ok (.dct [(k, d)]) ρ2)
    | none => none
  | _, _ => none
theorem keyD_kV {K : PySem.W.Frag} {F : Hp} {kd : D} {k : Key} {v : V} (e : keyD kd = some k) (r : Rp K F v kd) : v = kV k := by
  unfold keyD at e
  split at e
  · cases e; cases r; rfl
  · cases e; cases r; rfl
  · cases e
theorem xe_dct1 {f g : Fn Bv} (h : XB G X W e1 f) (h' : XB G X W e2 g) : XE G X W (.Dict [some e1] [e2] pos) (fDct1 f g) := by
  obtain ⟨t, a1, a2⟩ := h
  obtain ⟨u, b1, b2⟩ := h'
  refine ⟨_, fun i => pe_disp (pps_cons (a1 i) (b1 i) pps_nil) rfl rfl (by simp) (by simp), fun n ρ r eq F H σ T Q hR hP => ?_⟩
  unfold fDct1 at eq
  intro p hp
  have fp : F p = none := by
    cases q : F p with
    | none => rfl
    | some o => rw [hR.sub _ _ q] at hp; cases hp
  have R0 : G.R F (upd H p (.dK [])) ρ σ ((.dct [], .ref p) :: T) := .mk' (hR.hr.newO hp (.dct upd_same fp .nil)) hR.ok
  cases q : fFz f n ρ with
  | none => rw [q] at eq; cases eq
  | some r1 =>
    rw [q] at eq
    refine snd_fz a2 n ρ r1 q F _ σ _ _ R0 ?_
    cases r1 with
    | ex x ρ' => cases eq; exact fun F' H' cls d s R xr => hP F' H' cls d s R.tail xr
    | ok c ρ1 =>
      rw [bnd_ok] at eq
      intro F1 H1 v1 s1 R1
      cases q2 : fFz g n ρ1 with
      | none => rw [q2] at eq; cases eq
      | some r2 =>
        rw [q2] at eq
        refine snd_fz b2 n ρ1 r2 q2 F1 H1 σ _ _ R1 ?_
        cases r2 with
        | ex x ρ' => cases eq; exact fun F' H' cls d s R xr => hP F' H' cls d (s1.trans s) R.tail.tail xr
        | ok c2 ρ2 =>
          rw [bnd_ok] at eq
          intro F2 H2 v2 s2 R2
          split at eq
          · rename_i kd d
            cases q3 : keyD kd with
            | none => rw [q3] at eq; cases eq
            | some k =>
              rw [q3] at eq
              cases eq
              have rd := R2.rp
              have rk := R2.tail.rp
              have ek := keyD_kV q3 rk
              have R' := R2.tail.tail
              obtain ⟨A, cr⟩ := R'.cr
              cases cr with
              | @dct a kvs _ h1 h2 rr =>
                cases rr
                refine ⟨h1, [(k, v2)], by rw [ek]; rfl, by simp, ?_⟩
                exact hP F2 _ _ (s1.trans s2) (.mk' (R'.hr'.mut (fun A h => by cases h; rfl) (.dct upd_same h2 (.cons rd .nil))) R'.ok)
          · cases eq
end
/-! ### the list [d, dict], a cell of its own -/
section
variable {G : Gd}
theorem HR.box {F H : Hp} {L : List (Cl × V)} {d : D} {es : List (Key × D)} {v : V} {b p : Addr} (h : G.HR F H ((.dct es, .ref b) :: (.fz d, v) :: L)) (hp : H p = none) : G.HR F (upd H p (.lst [v, .ref b])) ((.bx d es, .ref p) :: L) := by
  obtain ⟨s, A, n, q⟩ := h
  cases q with
  | cons q1 q =>
    cases q with
    | cons q2 r =>
      cases q1 with
      | @dct _ kvs _ h1 h2 rk =>
        cases q2 with
        | fz rd =>
          rename_i B
          have n' : ([b] ++ B).Nodup := n
          have hb : b ≠ p := ne_of_none h1 hp
          have nB : ∀ a ∈ B, a ≠ p := fun a ha => by
            obtain ⟨_, u, h3⟩ := r.fr a ha
            exact ne_of_none h3 hp
          have c1 := List.nodup_cons.mp n'
          refine ⟨fun a u e => ?_, [p, b] ++ B, ?_, .cons (.bx upd_same (s.free hp) rd (by rw [upd_ne hb]; exact h1) h2 rk) (r.mono (Same.refl _) fun a ha => ⟨(r.fr a ha).1, upd_ne (nB a ha)⟩)⟩
          · rw [upd_ne (ne_of_none (s _ _ e) hp)]
            exact s _ _ e
          · refine List.nodup_cons.mpr ⟨fun m => ?_, List.nodup_cons.mpr ⟨c1.1, c1.2⟩⟩
            rcases List.mem_cons.mp m with z | z
            · exact hb z.symm
            · exact nB p z rfl
theorem HR.unbox {F H : Hp} {L : List (Cl × V)} {d : D} {es : List (Key × D)} {w : V} (h : G.HR F H ((.bx d es, w) :: L)) : ∃ a v b, w = .ref a ∧ H a = some (.lst [v, .ref b]) ∧ G.HR F H ((.fz d, v) :: (.dct es, .ref b) :: L) := by
  obtain ⟨s, A, n, q⟩ := h
  cases q with
  | cons q1 r =>
    cases q1 with
    | @bx a b v _ kvs _ h1 h2 rd h3 h4 rk =>
      rename_i B
      have n' : ([a, b] ++ B).Nodup := n
      have c1 := List.nodup_cons.mp n'
      exact ⟨a, v, b, rfl, h1, s, [] ++ ([b] ++ B), c1.2, .cons (.fz rd) (.cons (.dct h3 h4 rk) r)⟩
end
section
variable {ι : Type} {G : Gd} {X : ι → Cx} {W : WX} {P : List Nat} {e e1 e2 : Expr} {pos : Pos}
def fBx (f : Fn Bv) (k : Nat) : Fn Cl := fun n ρ => bnd (fFz f n ρ) fun c ρ1 => match c, (ρ1[k]?).join with
  | .fz d, some (.dct es) => some (.ok (.bx d es) (ρ1.set k none))
  | _, _ => none
theorem xe_bx {f : Fn Bv} {k : Nat} (h : XB G X W e1 f) (hx : ∀ j, PE (X j) e2 (tVar k)) (hs : ∀ i, starEach [e1, e2] (X i).env = (false, eval e1 (X i).env) :: starEach [e2] (X i).env) (hs2 : ∀ i, starEach [e2] (X i).env = (false, eval e2 (X i).env) :: starEach [] (X i).env) :
    XE G X W (.List [e1, e2] pos) (fBx f k) := by
  obtain ⟨t, a1, a2⟩ := h
  refine ⟨_, fun i => pe_lst (pa_cons (a1 i) (pa_cons (hx i) pa_nil (hs2 i)) (hs i)), fun n ρ r eq F H σ T Q hR hP => ?_⟩
  unfold fBx at eq
  cases q : fFz f n ρ with
  | none => rw [q] at eq; cases eq
  | some r1 =>
    rw [q] at eq
    refine snd_fz a2 n ρ r1 q F H σ T _ hR ?_
    cases r1 with
    | ex x ρ' => cases eq; exact hP
    | ok c ρ1 =>
      rw [bnd_ok] at eq
      intro F1 H1 v s1 R1
      split at eq
      · rename_i d es q2
        cases eq
        obtain ⟨w, hw, R2⟩ := R.take R1 (join_some q2)
        refine ⟨w, hw, ?_⟩
        obtain ⟨A, cr⟩ := R2.cr
        cases cr with
        | @dct b kvs _ h1 h2 rk =>
          refine ⟨by show 2 ≤ sizeLine; decide, fun p hp => ?_⟩
          exact hP F1 _ _ s1 (.mk' (HR.box (R2.hr'.perm (.cons _ List.perm_middle)) hp) R2.ok)
      · cases eq
/-- x, y = a list [d, dict] -/
def sUnb (i j : Nat) (f : Fn Cl) : FS := fun n ρ => bS (f n ρ) fun c ρ1 => match c with
  | .bx d es => if i < ρ1.length ∧ j < ρ1.length ∧ i ≠ j then some (.nx ((ρ1.set i (some (.fz d))).set j (some (.dct es)))) else none
  | _ => none
theorem xs_unb {i j m : Nat} {x y : Str} {px py p2 : Pos} {f : Fn Cl} (hK : ∀ k, (X k).K = G.K) (hc : ∀ k, (X k).calm = true) (hi : i ∉ P) (hj : j ∉ P) (hgi : ∀ k, PG (X k) (.Name x px) (gName i)) (hgj : ∀ k, PG (X k) (.Name y py) (gName j)) (h : XE G X W e f)
    (ha : ∀ k, (assignEach [.Name x px, .Name y py] (X k).env).map (·.2) = assign (.Name x px) (X k).env :: (assignEach [.Name y py] (X k).env).map (·.2)) (ha2 : ∀ k, (assignEach [.Name y py] (X k).env).map (·.2) = assign (.Name y py) (X k).env :: (assignEach [] (X k).env).map (·.2))
    (hn : ∀ k, (assignEach [.Name x px, .Name y py] (X k).env).length = 2) (hst : ∀ k, (assignEach [.Name x px, .Name y py] (X k).env).findIdx? (·.1) = none)
    (hs : ∀ k, swapsWithSole [.Tuple [.Name x px, .Name y py] m p2] e pos.line (X k).env = pure false) (hw : ∀ k, swappedStores [.Tuple [.Name x px, .Name y py] m p2] e (X k).env = pure none)
    (h1 : ∀ k, (assignEach [.Tuple [.Name x px, .Name y py] m p2] (X k).env).map (·.2) = [assign (.Tuple [.Name x px, .Name y py] m p2) (X k).env]) : XS G X W P (.Assign [.Tuple [.Name x px, .Name y py] m p2] e pos) (sUnb i j f) := by
  obtain ⟨t, a1, a2⟩ := h
  refine ⟨_, fun k => ps_asg (a1 k) (by have := pg_lst (k := m) (pos := p2) (hc k) (pgs_cons (hgi k) (pgs_cons (hgj k) pgs_nil (ha2 k)) (ha k)) (hn k) (hst k); rw [hK k] at this; exact this) (hs k) (hw k) (h1 k), fun n ρ o eq F H σ T D hR hP => ?_⟩
  unfold sUnb at eq
  cases q : f n ρ with
  | none => rw [q] at eq; cases eq
  | some r1 =>
    rw [q] at eq
    refine a2 n ρ r1 q F H σ T _ hR ?_
    cases r1 with
    | ex x ρ' => cases eq; exact hP.px
    | ok c ρ1 =>
      rw [bS_ok] at eq
      intro F1 H1 v s1 R1
      split at eq
      · rename_i d es
        split at eq
        case isFalse => cases eq
        rename_i hl
        cases eq
        obtain ⟨a, vd, b, rfl, ha', hr⟩ := HR.unbox R1.hr'
        refine ⟨a, _, rfl, .inl (.inl ha'), rfl, _, _, rfl, _, _, rfl, rfl, ?_⟩
        have R2 : G.R F1 H1 ρ1 σ ((.fz d, vd) :: (.dct es, .ref b) :: T) := .mk' (hr.perm (.cons _ List.perm_middle.symm)) R1.ok
        have R3 := R.set (R.set R2 hl.1) (i := j) (by rw [List.length_set]; exact hl.2.1)
        exact hP F1 H1 _ s1 R3 ((Kp.set hi).trans (Kp.set hj))
      · cases eq
end
end L3

namespace L3
open PySem PySem.Spec L2
/-! ### evaluation: what simp turns (printed by ev.py) -/
@[simp] theorem e_lk_pl (ρ : En) (k : Nat) : lk ρ (.pl k) = (ρ[k]?).join := rfl
@[simp] theorem e_lk_vl (ρ : En) (c : Cl) : lk ρ (.vl c) = some c := rfl
@[simp] theorem e_lks_nil (ρ : En) : lks ρ [] = some [] := rfl
@[simp] theorem e_lks_cons (ρ : En) (b : Bv) (bs : List Bv) : lks ρ (b :: bs) = (match lk ρ b, lks ρ bs with | some c, some cs => some (c :: cs) | _, _ => none) := rfl
@[simp] theorem e_fz_pl (ρ : En) (k : Nat) : fzB ρ (.pl k) = (match (ρ[k]?).join with
    | some c => match c.data with
      | some d => some (d, ρ.set k (some (.fz d)))
      | none => none
    | none => none) := rfl
@[simp] theorem e_fz_vl (ρ : En) (c : Cl) : fzB ρ (.vl c) = (match c.data with
    | some d => some (d, ρ)
    | none => none) := rfl
@[simp] theorem e_fzs_nil (ρ : En) : fzBs ρ [] = some ([], ρ) := rfl
@[simp] theorem e_fzs_cons (ρ : En) (b : Bv) (bs : List Bv) : fzBs ρ (b :: bs) = (match fzBs ρ bs with
    | some (ds, ρ1) => match fzB ρ1 b with
      | some (d, ρ2) => some (d :: ds, ρ2)
      | none => none
    | none => none) := rfl
@[simp] theorem e_data_fz (d : D) : Cl.data (.fz d) = some d := rfl
@[simp] theorem e_data_lst (ds : List D) : Cl.data (.lst ds) = some (.list ds) := rfl
@[simp] theorem e_data_dct (es : List (Key × D)) : Cl.data (.dct es) = some (.dict (es.map fun p => (kD p.1, p.2))) := rfl
@[simp] theorem e_dctE_dct (es : List (Key × D)) : dctE (.dct es) = some es := rfl
@[simp] theorem e_dctE_dlk (es : List (Key × D)) : dctE (.dlk es) = some es := rfl
@[simp] theorem e_gIxD (c : Cl) (kd : D) : gIxD [c, .fz kd] = (match dctE c, keyD kd with
    | some es, some k => (getK es k).map .fz
    | _, _ => none) := rfl
@[simp] theorem e_gMax3 (i j k : Int) : gMax3 [.fz (.int i), .fz (.int j), .fz (.int k)] = some (.fz (.int (if (if i < j then j else i) < k then k else (if i < j then j else i)))) := rfl
@[simp] theorem e_restR0 (ρ ρ' : En) : restR ρ [] ρ' = ρ' := rfl
@[simp] theorem e_restR1 (ρ ρ' : En) (j : Nat) (vs : List Nat) : restR ρ (j :: vs) ρ' = restR ρ vs (match ρ[j]?, ρ'[j]? with
    | some (some (.fz d)), some none => ρ'.set j (some (.fz d))
    | _, _ => ρ') := rfl
@[simp] theorem e_gIntAI (i : Int) : gIntA [.fz (.int i)] = some (.fz (.int i)) := rfl
@[simp] theorem e_keyD_int (i : Int) : keyD (.int i) = some (.inl i) := rfl
@[simp] theorem e_keyD_str (x : Str) : keyD (.str x) = some (.inr x) := rfl
@[simp] theorem e_asB (b : Bool) : asB (.fz (.bool b)) = some b := rfl
@[simp] theorem e_take_nil (ρ : En) : takeA ρ [] = some ([], ρ) := rfl
@[simp] theorem e_take_vl (ρ : En) (c : Cl) (bs : List Bv) : takeA ρ (.vl c :: bs) = (match takeA ρ bs with
    | some (cs, ρ1) => some (c :: cs, ρ1)
    | none => none) := rfl
@[simp] theorem e_take_pl (ρ : En) (i : Nat) (bs : List Bv) : takeA ρ (.pl i :: bs) = (match takeA ρ bs with
    | some (cs, ρ1) => match (ρ1[i]?).join with
        | some (.fz d) => some (.fz d :: cs, ρ1)
        | some c => some (c :: cs, ρ1.set i none)
        | none => none
    | none => none) := rfl
@[simp] theorem e_give_nil (ρ : En) (os : List (Option Cl)) : giveA ρ [] os = ρ := by cases os <;> rfl
@[simp] theorem e_give_none (ρ : En) (bs : List Bv) : giveA ρ bs [] = ρ := by
  cases bs with
  | nil => rfl
  | cons b bs => cases b <;> rfl
@[simp] theorem e_give_pls (ρ : En) (i : Nat) (bs : List Bv) (c : Cl) (os : List (Option Cl)) : giveA ρ (.pl i :: bs) (some c :: os) = giveA (match ρ[i]? with | some none => ρ.set i (some c) | _ => ρ) bs os := rfl
@[simp] theorem e_give_pln (ρ : En) (i : Nat) (bs : List Bv) (os : List (Option Cl)) : giveA ρ (.pl i :: bs) (none :: os) = giveA ρ bs os := rfl
@[simp] theorem e_give_vl (ρ : En) (c : Cl) (bs : List Bv) (o : Option Cl) (os : List (Option Cl)) : giveA ρ (.vl c :: bs) (o :: os) = giveA ρ bs os := by cases o <;> rfl
@[simp] theorem e_fin_nx (fl : List Bool) (ρ : En) : fin fl (.nx ρ) = some (.ok (.fz .none) (outsOf fl ρ)) := rfl
@[simp] theorem e_fin_rt (fl : List Bool) (c : Cl) (ρ : En) : fin fl (.rt c ρ) = some (.ok c (outsOf fl ρ)) := rfl
@[simp] theorem e_fin_ex (fl : List Bool) (x : Ex) (ρ : En) : fin fl (.ex x ρ) = some (.ex x (outsOf fl ρ)) := rfl
@[simp] theorem e_gN (i : Nat) (d : D) (ρ : En) : gN i d ρ = if i < ρ.length then some (ρ.set i (some (.fz d))) else none := rfl
@[simp] theorem e_gsNil (ρ : En) : gsNil [] ρ = some ρ := rfl
@[simp] theorem e_gsCons (f : FG) (g : FGs) (d : D) (ds : List D) (ρ : En) : gsCons f g (d :: ds) ρ = (match f d ρ with
    | some ρ1 => g ds ρ1
    | none => none) := rfl
@[simp] theorem e_gTp (n : Nat) (f : FGs) (ds : List D) (ρ : En) : gTp n f (.tuple ds) ρ = if ds.length = n then f ds ρ else none := rfl
@[simp] theorem e_gLs (n : Nat) (f : FGs) (ds : List D) (ρ : En) : gLs n f (.list ds) ρ = if ds.length = n then f ds ρ else none := rfl
@[simp] theorem e_fSu (k : Nat) (sub : Ex → Bool) (f : Ex → Option Cl) (x : Ex) (n : Nat) (ρ : En) : fSu k sub f x n ρ = if sub x = true then match f x with
  | some c => if k < ρ.length then some (.nx (ρ.set k (some c))) else none
  | none => none
  else none := rfl
@[simp] theorem e_hdl_nil (i : Nat) (x : Ex) (n : Nat) (ρ : En) : hdl i [] x n ρ = some (.ex x ρ) := rfl
@[simp] theorem e_hdl_cons (i : Nat) (sub : Ex → Option Bool) (f : Ex → FS) (l : List ((Ex → Option Bool) × (Ex → FS))) (x : Ex) (n : Nat) (ρ : En) : hdl i ((sub, f) :: l) x n ρ = (match sub x with
    | some true => if i < ρ.length then (f x n (ρ.set i none)).bind (Ot.gone i) else none
    | some false => hdl i l x n ρ
    | none => none) := rfl
@[simp] theorem e_gone_nx (i : Nat) (ρ : En) : Ot.gone i (.nx ρ) = some (.nx (ρ.set i none)) := rfl
@[simp] theorem e_gAddI (i j : Int) : gAdd [.fz (.int i), .fz (.int j)] = some (.fz (.int (i + j))) := rfl
@[simp] theorem e_gSubI (i j : Int) : gSub [.fz (.int i), .fz (.int j)] = some (.fz (.int (i - j))) := rfl
@[simp] theorem e_gNegI (i : Int) : gNeg [.fz (.int i)] = some (.fz (.int (-i))) := rfl
@[simp] theorem e_gII (p : Int → Int → Bool) (i j : Int) : gI p [.fz (.int i), .fz (.int j)] = some (.fz (.bool (p i j))) := rfl
@[simp] theorem e_gLenL (ds : List D) : gLen [.lst ds] = some (.fz (.int ds.length)) := rfl
@[simp] theorem e_gLenF (ds : List D) : gLen [.fz (.list ds)] = some (.fz (.int ds.length)) := rfl
@[simp] theorem e_gLenT (ds : List D) : gLen [.fz (.tuple ds)] = some (.fz (.int ds.length)) := rfl
@[simp] theorem e_gLenAL (ds : List D) : gLenA [.lst ds] = some (.fz (.int ds.length)) := rfl
@[simp] theorem e_gLenAF (ds : List D) : gLenA [.fz (.list ds)] = some (.fz (.int ds.length)) := rfl
@[simp] theorem e_gLenAT (ds : List D) : gLenA [.fz (.tuple ds)] = some (.fz (.int ds.length)) := rfl
@[simp] theorem e_gLenAD (es : List (Key × D)) : gLenA [.dct es] = some (.fz (.int es.length)) := rfl
@[simp] theorem e_isL (ds : List D) : isL (.lst ds) = true := rfl
@[simp] theorem e_gIxL (ds : List D) (i : Int) : gIx [.lst ds, .fz (.int i)] = (atI ds i).map .fz := rfl
@[simp] theorem e_gIxF (ds : List D) (i : Int) : gIx [.fz (.list ds), .fz (.int i)] = (atI ds i).map .fz := rfl
@[simp] theorem e_gIxT (ds : List D) (i : Int) : gIx [.fz (.tuple ds), .fz (.int i)] = (atI ds i).map .fz := rfl
@[simp] theorem e_gTupleL (ds : List D) : gTuple [.lst ds] = some (.fz (.tuple ds)) := rfl
@[simp] theorem e_gTupleF (ds : List D) : gTuple [.fz (.list ds)] = some (.fz (.tuple ds)) := rfl
@[simp] theorem e_gTupleT (ds : List D) : gTuple [.fz (.tuple ds)] = some (.fz (.tuple ds)) := rfl
@[simp] theorem e_gListL (ds : List D) : gList [.lst ds] = some (.lst ds) := rfl
@[simp] theorem e_gListF (ds : List D) : gList [.fz (.list ds)] = some (.lst ds) := rfl
@[simp] theorem e_gListT (ds : List D) : gList [.fz (.tuple ds)] = some (.lst ds) := rfl
@[simp] theorem e_gMax (i j : Int) : gMax2 [.fz (.int i), .fz (.int j)] = some (.fz (.int (max i j))) := by
  show some (Cl.fz (.int (if j > i then j else i))) = _
  rw [show max i j = if j > i then j else i from by
    split <;> omega]
@[simp] theorem e_gMin (i j : Int) : gMin2 [.fz (.int i), .fz (.int j)] = some (.fz (.int (min i j))) := by
  show some (Cl.fz (.int (if j < i then j else i))) = _
  rw [show min i j = if j < i then j else i from by
    split <;> omega]
@[simp] theorem e_gAbs (i : Int) : gAbs [.fz (.int i)] = some (.fz (.int i.natAbs)) := by
  show some (Cl.fz (.int (if i < 0 then -i else i))) = _
  rw [show (i.natAbs : Int) = if i < 0 then -i else i from by
    split <;> omega]
@[simp] theorem e_gIntI (i : Int) : gInt [.fz (.int i)] = some (.fz (.int i)) := rfl
/-! ints -/
def is_int (d : D) : Bool := match d with
  | .bool _ => true
  | .int _ => true
  | _ => false
@[simp] theorem e_isi_int : ∀ d : D, isiD "int" d = some (is_int d)
  | .none => show kitB "NoneType" "int" = some false from by decide +kernel
  | .bool _ => show kitB "bool" "int" = some true from by decide +kernel
  | .int _ => show kitB "int" "int" = some true from by decide +kernel
  | .str _ => show kitB "str" "int" = some false from by decide +kernel
  | .list _ => show kitB "list" "int" = some false from by decide +kernel
  | .tuple _ => show kitB "tuple" "int" = some false from by decide +kernel
  | .dict _ => show kitB "dict" "int" = some false from by decide +kernel
def is_bool (d : D) : Bool := match d with
  | .bool _ => true
  | _ => false
@[simp] theorem e_isi_bool : ∀ d : D, isiD "bool" d = some (is_bool d)
  | .none => show kitB "NoneType" "bool" = some false from by decide +kernel
  | .bool _ => show kitB "bool" "bool" = some true from by decide +kernel
  | .int _ => show kitB "int" "bool" = some false from by decide +kernel
  | .str _ => show kitB "str" "bool" = some false from by decide +kernel
  | .list _ => show kitB "list" "bool" = some false from by decide +kernel
  | .tuple _ => show kitB "tuple" "bool" = some false from by decide +kernel
  | .dict _ => show kitB "dict" "bool" = some false from by decide +kernel
def is_tuple (d : D) : Bool := match d with
  | .tuple _ => true
  | _ => false
@[simp] theorem e_isi_tuple : ∀ d : D, isiD "tuple" d = some (is_tuple d)
  | .none => show kitB "NoneType" "tuple" = some false from by decide +kernel
  | .bool _ => show kitB "bool" "tuple" = some false from by decide +kernel
  | .int _ => show kitB "int" "tuple" = some false from by decide +kernel
  | .str _ => show kitB "str" "tuple" = some false from by decide +kernel
  | .list _ => show kitB "list" "tuple" = some false from by decide +kernel
  | .tuple _ => show kitB "tuple" "tuple" = some true from by decide +kernel
  | .dict _ => show kitB "dict" "tuple" = some false from by decide +kernel
def is_list (d : D) : Bool := match d with
  | .list _ => true
  | _ => false
@[simp] theorem e_isi_list : ∀ d : D, isiD "list" d = some (is_list d)
  | .none => show kitB "NoneType" "list" = some false from by decide +kernel
  | .bool _ => show kitB "bool" "list" = some false from by decide +kernel
  | .int _ => show kitB "int" "list" = some false from by decide +kernel
  | .str _ => show kitB "str" "list" = some false from by decide +kernel
  | .list _ => show kitB "list" "list" = some true from by decide +kernel
  | .tuple _ => show kitB "tuple" "list" = some false from by decide +kernel
  | .dict _ => show kitB "dict" "list" = some false from by decide +kernel
def is_str (d : D) : Bool := match d with
  | .str _ => true
  | _ => false
@[simp] theorem e_isi_str : ∀ d : D, isiD "str" d = some (is_str d)
  | .none => show kitB "NoneType" "str" = some false from by decide +kernel
  | .bool _ => show kitB "bool" "str" = some false from by decide +kernel
  | .int _ => show kitB "int" "str" = some false from by decide +kernel
  | .str _ => show kitB "str" "str" = some true from by decide +kernel
  | .list _ => show kitB "list" "str" = some false from by decide +kernel
  | .tuple _ => show kitB "tuple" "str" = some false from by decide +kernel
  | .dict _ => show kitB "dict" "str" = some false from by decide +kernel
@[simp] theorem e_isi2_lt : ∀ d : D, isiD2 "list" "tuple" d = some (is_list d || is_tuple d)
  | .none => rfl
  | .bool _ => rfl
  | .int _ => rfl
  | .str _ => rfl
  | .list _ => rfl
  | .tuple _ => rfl
  | .dict _ => rfl
def zs (ns : List Int) : List D := ns.map PyData.int
@[simp] theorem zs_len (ns : List Int) : (zs ns).length = ns.length := List.length_map _
@[simp] theorem intsD_zs : ∀ ns : List Int, intsD (zs ns) = some ns
  | [] => rfl
  | n :: ns => by
    show (match intsD (zs ns) with | some ns => some (n :: ns) | none => none) = _
    rw [intsD_zs ns]
theorem zs_of {ds : List D} {ns : List Int} (h : intsD ds = some ns) : ds = zs ns := intsD_ok h
theorem zs_get {ns : List Int} {i : Nat} {x : Int} (h : ns[i]? = some x) : (zs ns)[i]? = some (.int x) := by
  unfold zs
  rw [List.getElem?_map, h]; rfl
theorem ixN_nat {n i : Nat} (h : i < n) : ixN n (i : Int) = some i := by
  unfold ixN
  rw [if_pos (by omega), if_pos (by omega)]; simp
theorem atI_zs {ns : List Int} {i : Nat} {x : Int} (h : ns[i]? = some x) : atI (zs ns) (i : Int) = some (.int x) := atI_nat (zs_get h)
theorem sh_int (i : Int) : SeqAt.shaped (.int i) = true := rfl
theorem lay_zs : ∀ ns : List Int, PyData.canLayAll0 (zs ns) = true
  | [] => rfl
  | _ :: ns => lay_zs ns
theorem eqv_int (i j : Int) : PyData.eqv (.int i) (.int j) = decide (i = j) := by
  unfold PyData.eqv
  first | rfl | simp
@[simp] theorem e_gEqI (i j : Int) : gEq [.fz (.int i), .fz (.int j)] = some (.fz (.bool (decide (i = j)))) := by
  show (if (SeqAt.shaped (.int i) && SeqAt.shaped (.int j)) = true then some (Cl.fz (.bool (PyData.eqv (.int i) (.int j)))) else none) = _
  rw [sh_int, sh_int, eqv_int]
  rfl
@[simp] theorem e_gNeI (i j : Int) : gNe [.fz (.int i), .fz (.int j)] = some (.fz (.bool (!decide (i = j)))) := by
  show (if (SeqAt.shaped (.int i) && SeqAt.shaped (.int j)) = true then some (Cl.fz (.bool (!PyData.eqv (.int i) (.int j)))) else none) = _
  rw [sh_int, sh_int, eqv_int]
  rfl
theorem dep_zs : ∀ ns : List Int, PyData.depthAll (zs ns) = 0
  | [] => rfl
  | _ :: ns => by
    show max 0 (PyData.depthAll (zs ns)) = 0
    rw [dep_zs ns]; rfl
theorem sh_tup (ns : List Int) : SeqAt.shaped (.tuple (zs ns)) = true := by
  show (PyData.canLayAll0 (zs ns) && decide (PyData.depthAll (zs ns) + 1 ≤ 64)) = true
  rw [lay_zs, dep_zs]; rfl
theorem sh_lst (ns : List Int) : SeqAt.shaped (.list (zs ns)) = true := by
  show (PyData.canLayAll0 (zs ns) && decide (PyData.depthAll (zs ns) + 1 ≤ 64)) = true
  rw [lay_zs, dep_zs]; rfl
theorem eqv_zs : ∀ a b : List Int, PyData.eqvAll (zs a) (zs b) = decide (a = b)
  | [], [] => rfl
  | [], _ :: _ => rfl
  | _ :: _, [] => rfl
  | x :: a, y :: b => by
    show (PyData.eqv (.int x) (.int y) && PyData.eqvAll (zs a) (zs b)) = _
    rw [eqv_int, eqv_zs a b]
    by_cases h1 : x = y <;> by_cases h2 : a = b <;> simp [h1, h2]
@[simp] theorem e_gEqT (a b : List Int) : gEq [.fz (.tuple (zs a)), .fz (.tuple (zs b))] = some (.fz (.bool (decide (a = b)))) := by
  show (if (SeqAt.shaped (.tuple (zs a)) && SeqAt.shaped (.tuple (zs b))) = true then some (Cl.fz (.bool (PyData.eqvAll (zs a) (zs b)))) else none) = _
  rw [sh_tup, sh_tup, eqv_zs]
  rfl
@[simp] theorem e_gNeT (a b : List Int) : gNe [.fz (.tuple (zs a)), .fz (.tuple (zs b))] = some (.fz (.bool (!decide (a = b)))) := by
  show (if (SeqAt.shaped (.tuple (zs a)) && SeqAt.shaped (.tuple (zs b))) = true then some (Cl.fz (.bool (!PyData.eqvAll (zs a) (zs b)))) else none) = _
  rw [sh_tup, sh_tup, eqv_zs]
  rfl
@[simp] theorem e_gEqT0 (a : List Int) : gEq [.fz (.tuple (zs a)), .fz (.tuple [])] = some (.fz (.bool (decide (a = [])))) := e_gEqT a []
@[simp] theorem e_gNeT0 (a : List Int) : gNe [.fz (.tuple (zs a)), .fz (.tuple [])] = some (.fz (.bool (!decide (a = [])))) := e_gNeT a []
theorem zs_nil : zs [] = [] := rfl
theorem zs_cons (x : Int) (ns : List Int) : zs (x :: ns) = .int x :: zs ns := rfl
theorem zs_app (a b : List Int) : zs (a ++ b) = zs a ++ zs b := List.map_append
theorem atI_neg1 (ns : List Int) : atI (zs ns) (-1) = ns.getLast?.map PyData.int := by
  by_cases h : ns = []
  · subst h; rfl
  · have e : ns.dropLast ++ [ns.getLast h] = ns := List.dropLast_concat_getLast h
    rw [List.getLast?_eq_getLast h]
    have := atI_last (zs ns.dropLast) (.int (ns.getLast h))
    rw [show zs ns.dropLast ++ [.int (ns.getLast h)] = zs (ns.dropLast ++ [ns.getLast h]) from (zs_app ns.dropLast [ns.getLast h]).symm, e] at this
    exact this
theorem gEqLL (c1 c2 : Cl) (a b : List Int) (h1 : c1.data = some (.list (zs a))) (h2 : c2.data = some (.list (zs b))) : gEq [c1, c2] = some (.fz (.bool (decide (a = b)))) := by
  show (match c1.data, c2.data with
    | some d, some e => if (SeqAt.shaped d && SeqAt.shaped e) = true then some (Cl.fz (.bool (PyData.eqv d e))) else none
    | _, _ => none) = _
  rw [h1, h2]
  show (if (SeqAt.shaped (.list (zs a)) && SeqAt.shaped (.list (zs b))) = true then some (Cl.fz (.bool (PyData.eqvAll (zs a) (zs b)))) else none) = _
  rw [sh_lst, sh_lst, eqv_zs]
  rfl
@[simp] theorem e_gEqL (a b : List Int) : gEq [.lst (zs a), .lst (zs b)] = some (.fz (.bool (decide (a = b)))) := gEqLL _ _ a b rfl rfl
@[simp] theorem e_gEqL0 (a : List Int) : gEq [.lst (zs a), .lst []] = some (.fz (.bool (decide (a = [])))) := gEqLL _ _ a [] rfl rfl
@[simp] theorem e_gEqL00 : gEq [.lst [], .lst []] = some (.fz (.bool true)) := gEqLL _ _ [] [] rfl rfl
theorem smI_nat {n : Nat} (h : n ≤ 1000000) : smI (n : Int) = true := Nat.ble_eq_true_of_le (by omega)
theorem log2_lt {n k : Nat} (h : n < 2 ^ k) (hk : 0 < k) : n.log2 < k := by
  by_cases h0 : n = 0
  · subst h0
    exact hk
  · exact (Nat.log2_lt h0).mpr h
theorem mulOk {i j : Int} (h : i.natAbs < 2 ^ 64 ∨ j.natAbs < 2 ^ 64) : mulBad i j = false := by
  have key : ∀ x : Int, x.natAbs < 2 ^ 64 → decide (Builtin.Int.intBits x > shortFactorBits) = false := fun x hx => by
    refine decide_eq_false fun z => ?_
    unfold Builtin.Int.intBits shortFactorBits at z
    split at z
    · omega
    · have := log2_lt hx (by decide)
      omega
  unfold mulBad
  rcases h with h | h
  · rw [key i h]; rfl
  · rw [key j h, Bool.and_false]; rfl
theorem e_gMulI {i j : Int} (h : i.natAbs < 2 ^ 64 ∨ j.natAbs < 2 ^ 64) : gMul [.fz (.int i), .fz (.int j)] = some (.fz (.int (i * j))) := by
  show (if mulBad i j = true then none else some (Cl.fz (.int (i * j)))) = _
  rw [mulOk h]; rfl
theorem e_gModI {i j : Int} (h : j ≠ 0) : gMod [.fz (.int i), .fz (.int j)] = some (.fz (.int (i.fmod j))) := by
  show (if j = 0 then none else some (Cl.fz (.int (i.fmod j)))) = _
  rw [if_neg h]
theorem pylong_small {i j : Int} (h : j.natAbs < 2 ^ 9000) : Builtin.divisionGoesByPylong i j = false := by
  unfold Builtin.divisionGoesByPylong
  refine Bool.and_eq_false_imp.mpr fun z => ?_
  have z := of_decide_eq_true z
  dsimp only at z
  split at z
  · omega
  · have := log2_lt h (by decide)
    omega
theorem e_gFdivI {i j : Int} (h : j ≠ 0) (h2 : j.natAbs < 2 ^ 9000) : gFdiv [.fz (.int i), .fz (.int j)] = some (.fz (.int (i.fdiv j))) := by
  show (if (decide (j ≠ 0) && !Builtin.divisionGoesByPylong i j) = true then some (Cl.fz (.int (i.fdiv j))) else none) = _
  rw [pylong_small h2, decide_eq_true h]; rfl
theorem rep1 {α : Type} (x : α) : ∀ k : Nat, (List.replicate k [x]).flatten = List.replicate k x
  | 0 => rfl
  | k + 1 => by
    rw [List.replicate_succ, List.flatten_cons, rep1 x k, List.replicate_succ]; rfl
theorem zs_rep (x : Int) (k : Nat) : zs (List.replicate k x) = List.replicate k (.int x) := List.map_replicate
theorem e_gRep {x k : Int} (h1 : -10000000 ≤ k) (h2 : k ≤ 10000000) : gMul [.lst [.int x], .fz (.int k)] = some (.lst (zs (List.replicate k.toNat x))) := by
  show (if (Nat.ble k.natAbs 10000000 && lsz ([PyData.int x].length * k.toNat)) = true then some (Cl.lst (List.replicate k.toNat [PyData.int x]).flatten) else none) = _
  have e : (Nat.ble k.natAbs 10000000 && lsz ([PyData.int x].length * k.toNat)) = true := by
    unfold lsz
    rw [Bool.and_eq_true]
    refine ⟨Nat.ble_eq_true_of_le (by omega), decide_eq_true ?_⟩
    show 1 * k.toNat ≤ _
    omega
  rw [if_pos e, rep1, zs_rep]
theorem wh_step {t : Fn Bool} {f : FS} {n m : Nat} {ρ ρ1 ρ2 : En} (h1 : t n ρ = some (.ok true ρ1)) (h2 : f n ρ1 = some (.nx ρ2)) : whF t f n (m + 1) ρ = whF t f n m ρ2 := by
  show (bS (t n ρ) fun c ρ1 => if c = true then (match f n ρ1 with
      | some (.nx ρ2) => whF t f n m ρ2
      | some (.ct ρ2) => whF t f n m ρ2
      | some (.bk ρ2) => some (.nx ρ2)
      | some (.rt c ρ2) => some (.rt c ρ2)
      | some (.ex x ρ2) => some (.ex x ρ2)
      | none => none) else some (.nx ρ1)) = _
  rw [h1, bS_ok, if_pos rfl, h2]
theorem wh_stop {t : Fn Bool} {f : FS} {n m : Nat} {ρ ρ1 : En} (h1 : t n ρ = some (.ok false ρ1)) : whF t f n (m + 1) ρ = some (.nx ρ1) := by
  show (bS (t n ρ) fun c ρ1 => if c = true then (match f n ρ1 with
      | some (.nx ρ2) => whF t f n m ρ2
      | some (.ct ρ2) => whF t f n m ρ2
      | some (.bk ρ2) => some (.nx ρ2)
      | some (.rt c ρ2) => some (.rt c ρ2)
      | some (.ex x ρ2) => some (.ex x ρ2)
      | none => none) else some (.nx ρ1)) = _
  rw [h1, bS_ok, if_neg Bool.false_ne_true]
theorem for_step {g : FG} {f : FS} {n : Nat} {d : D} {ds : List D} {ρ ρ1 ρ2 : En} (h1 : g d ρ = some ρ1) (h2 : f n ρ1 = some (.nx ρ2)) : forF g f n (d :: ds) ρ = forF g f n ds ρ2 := by
  rw [forF, h1]
  dsimp only
  rw [h2]
theorem for_ex {g : FG} {f : FS} {n : Nat} {d : D} {ds : List D} {ρ ρ1 ρ2 : En} {x : Ex} (h1 : g d ρ = some ρ1) (h2 : f n ρ1 = some (.ex x ρ2)) : forF g f n (d :: ds) ρ = some (.ex x ρ2) := by
  rw [forF, h1]
  dsimp only
  rw [h2]
theorem for_rt {g : FG} {f : FS} {n : Nat} {d : D} {ds : List D} {ρ ρ1 ρ2 : En} {c : Cl} (h1 : g d ρ = some ρ1) (h2 : f n ρ1 = some (.rt c ρ2)) : forF g f n (d :: ds) ρ = some (.rt c ρ2) := by
  rw [forF, h1]
  dsimp only
  rw [h2]
theorem lc_step {N : Nat} {g : FG} {e : Fn Bv} {vs : List Nat} {n : Nat} {d y : D} {ds acc : List D} {ρ ρ2 ρ4 ρ5 : En} (h1 : g d ρ = some ρ2) (h2 : ρ2.length = N) (h3 : fFz e n ρ2 = some (.ok (.fz y) ρ4)) (h5 : wipR ρ4 vs = ρ5) : lcF N g fYes e vs n (d :: ds) ρ acc = lcF N g fYes e vs n ds ρ5 (acc ++ [y]) := by
  rw [lcF, h1]
  dsimp only
  rw [if_pos h2]
  show (match fFz e n ρ2 with
        | some (.ok (.fz y) ρ4) => lcF N g fYes e vs n ds (wipR ρ4 vs) (acc ++ [y])
        | _ => none) = _
  rw [h3, ← h5]
theorem lc_stepT {N : Nat} {g : FG} {t : Fn Bool} {e : Fn Bv} {vs : List Nat} {n : Nat} {d y : D} {ds acc : List D} {ρ ρ2 ρ3 ρ4 ρ5 : En} (h1 : g d ρ = some ρ2) (h2 : ρ2.length = N) (ht : t n ρ2 = some (.ok true ρ3)) (h3 : fFz e n ρ3 = some (.ok (.fz y) ρ4)) (h5 : wipR ρ4 vs = ρ5) : lcF N g t e vs n (d :: ds) ρ acc = lcF N g t e vs n ds ρ5 (acc ++ [y]) := by
  rw [lcF, h1]
  dsimp only
  rw [if_pos h2, ht]
  dsimp only
  rw [h3, ← h5]
theorem lc_stepF {N : Nat} {g : FG} {t : Fn Bool} {e : Fn Bv} {vs : List Nat} {n : Nat} {d : D} {ds acc : List D} {ρ ρ2 ρ3 ρ5 : En} (h1 : g d ρ = some ρ2) (h2 : ρ2.length = N) (ht : t n ρ2 = some (.ok false ρ3)) (h5 : wipR ρ3 vs = ρ5) : lcF N g t e vs n (d :: ds) ρ acc = lcF N g t e vs n ds ρ5 acc := by
  rw [lcF, h1]
  dsimp only
  rw [if_pos h2, ht, ← h5]
theorem e_gFdivS {i j : Int} (h : j ≠ 0) (h2 : j.natAbs < 2 ^ 64) : gFdiv [.fz (.int i), .fz (.int j)] = some (.fz (.int (i.fdiv j))) :=
  e_gFdivI h (Nat.lt_of_lt_of_le h2 (Nat.pow_le_pow_right (Nat.zero_lt_succ 1) (by omega)))
/-- a loop by an invariant over what it has taken -/
theorem forF_inv {g : FG} {f : FS} {n : Nat} (I : List D → En → Prop) (tot : List D) (step : ∀ pre d post ρ, pre ++ d :: post = tot → I pre ρ → ∃ ρ1 ρ2, g d ρ = some ρ1 ∧ (f n ρ1 = some (.nx ρ2) ∨ f n ρ1 = some (.ct ρ2)) ∧ I (pre ++ [d]) ρ2) :
    ∀ (ds pre : List D) (ρ : En), pre ++ ds = tot → I pre ρ → ∃ ρ', forF g f n ds ρ = some (.nx ρ') ∧ I tot ρ'
  | [], pre, ρ, e, h => ⟨ρ, rfl, by rw [List.append_nil] at e; rw [← e]; exact h⟩
  | d :: ds, pre, ρ, e, h => by
    obtain ⟨ρ1, ρ2, h1, h2, h3⟩ := step pre d ds ρ e h
    obtain ⟨ρ', h4, h5⟩ := forF_inv I tot step ds (pre ++ [d]) ρ2 (by rw [List.append_assoc]; exact e) h3
    refine ⟨ρ', ?_, h5⟩
    unfold forF
    rw [h1]
    dsimp only
    rcases h2 with h2 | h2 <;> rw [h2] <;> exact h4
theorem for_inv {g : FG} {f : FS} {n : Nat} {ds : List D} {ρ : En} (I : List D → En → Prop) (h : I [] ρ) (step : ∀ pre d post ρ, pre ++ d :: post = ds → I pre ρ → ∃ ρ1 ρ2, g d ρ = some ρ1 ∧ (f n ρ1 = some (.nx ρ2) ∨ f n ρ1 = some (.ct ρ2)) ∧ I (pre ++ [d]) ρ2) : ∃ ρ', forF g f n ds ρ = some (.nx ρ') ∧ I ds ρ' :=
  forF_inv I ds step ds [] ρ rfl h
/-- a comprehension by an invariant over what it has taken and made -/
theorem lcF_inv {N : Nat} {g : FG} {t : Fn Bool} {e : Fn Bv} {vs : List Nat} {n : Nat} (I : List D → List D → En → Prop) (tot : List D)
    (step : ∀ pre d post acc ρ, pre ++ d :: post = tot → I pre acc ρ → ∃ ρ2, g d ρ = some ρ2 ∧ ρ2.length = N ∧ ((∃ ρ3 y ρ4, t n ρ2 = some (.ok true ρ3) ∧ fFz e n ρ3 = some (.ok (.fz y) ρ4) ∧ I (pre ++ [d]) (acc ++ [y]) (wipR ρ4 vs)) ∨ (∃ ρ3, t n ρ2 = some (.ok false ρ3) ∧ I (pre ++ [d]) acc (wipR ρ3 vs)))) :
    ∀ (ds pre : List D) (acc : List D) (ρ : En), pre ++ ds = tot → I pre acc ρ → ∃ acc' ρ', lcF N g t e vs n ds ρ acc = some (.ok (.lst acc') ρ') ∧ I tot acc' ρ'
  | [], pre, acc, ρ, e, h => ⟨acc, ρ, rfl, by rw [List.append_nil] at e; rw [← e]; exact h⟩
  | d :: ds, pre, acc, ρ, e, h => by
    obtain ⟨ρ2, h1, h2, h3⟩ := step pre d ds acc ρ e h
    unfold lcF
    rw [h1]
    dsimp only
    rw [if_pos h2]
    rcases h3 with ⟨ρ3, y, ρ4, h4, h5, h6⟩ | ⟨ρ3, h4, h6⟩
    · rw [h4]
      dsimp only
      rw [h5]
      exact lcF_inv I tot step ds (pre ++ [d]) (acc ++ [y]) _ (by rw [List.append_assoc]; exact e) h6
    · rw [h4]
      exact lcF_inv I tot step ds (pre ++ [d]) acc _ (by rw [List.append_assoc]; exact e) h6
theorem lc_inv {N : Nat} {g : FG} {t : Fn Bool} {e : Fn Bv} {vs : List Nat} {n : Nat} {ds : List D} {ρ : En} (I : List D → List D → En → Prop) (h : I [] [] ρ)
    (step : ∀ pre d post acc ρ, pre ++ d :: post = ds → I pre acc ρ → ∃ ρ2, g d ρ = some ρ2 ∧ ρ2.length = N ∧ ((∃ ρ3 y ρ4, t n ρ2 = some (.ok true ρ3) ∧ fFz e n ρ3 = some (.ok (.fz y) ρ4) ∧ I (pre ++ [d]) (acc ++ [y]) (wipR ρ4 vs)) ∨ (∃ ρ3, t n ρ2 = some (.ok false ρ3) ∧ I (pre ++ [d]) acc (wipR ρ3 vs)))) :
    ∃ acc' ρ', lcF N g t e vs n ds ρ [] = some (.ok (.lst acc') ρ') ∧ I ds acc' ρ' := lcF_inv I ds step ds [] [] ρ rfl h
/-- a comprehension that changes nothing beside its own slots -/
theorem lc_map {N : Nat} {g : FG} {e : Fn Bv} {vs : List Nat} {n : Nat} {ρ : En} (φ : D → D) : ∀ (ds acc : List D), (∀ d ∈ ds, ∃ ρ2 ρ4, g d ρ = some ρ2 ∧ ρ2.length = N ∧ fFz e n ρ2 = some (.ok (.fz (φ d)) ρ4) ∧ wipR ρ4 vs = ρ) → lcF N g fYes e vs n ds ρ acc = some (.ok (.lst (acc ++ ds.map φ)) ρ)
  | [], acc, _ => by
    unfold lcF
    rw [List.map_nil, List.append_nil]
  | d :: ds, acc, h => by
    obtain ⟨ρ2, ρ4, h1, h2, h3, h4⟩ := h d List.mem_cons_self
    unfold lcF
    rw [h1]
    dsimp only
    rw [if_pos h2]
    show (match fFz e n ρ2 with
        | some (.ok (.fz y) ρ4) => lcF N g fYes e vs n ds (wipR ρ4 vs) (acc ++ [y])
        | _ => none) = _
    rw [h3]
    dsimp only
    rw [h4, lc_map φ ds (acc ++ [φ d]) fun d hd => h d (List.mem_cons_of_mem _ hd), List.append_assoc]
    rfl
@[simp] theorem e_fOf (f : Fn Cl) (n : Nat) (ρ : En) : fOf f n ρ = (bnd (f n ρ) fun c ρ' => some (.ok (.vl c) ρ')) := rfl
@[simp] theorem e_fPl (i : Nat) (n0 : Nat) (ρ : En) : fPl i n0 ρ = (if ((ρ[i]?).join).isSome then some (.ok (.pl i) ρ) else none) := rfl
@[simp] theorem e_fNil (n0 : Nat) (ρ : En) : fNil  n0 ρ = (some (.ok [] ρ)) := rfl
@[simp] theorem e_fCons (f : Fn Bv) (g : Fn (List Bv)) (n : Nat) (ρ : En) : fCons f g n ρ = (bnd (f n ρ) fun b ρ1 => bnd (g n ρ1) fun bs ρ2 => some (.ok (b :: bs) ρ2)) := rfl
@[simp] theorem e_fPr (f : Fn (List Bv)) (g : List Cl → Option Cl) (n : Nat) (ρ : En) : fPr f g n ρ = (bnd (f n ρ) fun bs ρ1 => match lks ρ1 bs with
    | some cs => match g cs with
      | some c => some (.ok c ρ1)
      | none => none
    | none => none) := rfl
@[simp] theorem e_fFz (f : Fn Bv) (n : Nat) (ρ : En) : fFz f n ρ = (bnd (f n ρ) fun b ρ1 => match fzB ρ1 b with
    | some (d, ρ2) => some (.ok (.fz d) ρ2)
    | none => none) := rfl
@[simp] theorem e_fMv (i : Nat) (n0 : Nat) (ρ : En) : fMv i n0 ρ = (match (ρ[i]?).join with
    | some c => some (.ok c (ρ.set i none))
    | none => none) := rfl
@[simp] theorem e_fC (d : D) (n0 : Nat) (ρ : En) : fC d n0 ρ = (some (.ok (.fz d) ρ)) := rfl
@[simp] theorem e_fTup (f : Fn (List Bv)) (n : Nat) (ρ : En) : fTup f n ρ = (bnd (f n ρ) fun bs ρ1 => match fzBs ρ1 bs with
    | some (ds, ρ2) => if ds.length ≤ 1000 then some (.ok (.fz (.tuple ds)) ρ2) else none
    | none => none) := rfl
@[simp] theorem e_fLst (f : Fn (List Bv)) (n : Nat) (ρ : En) : fLst f n ρ = (bnd (f n ρ) fun bs ρ1 => match fzBs ρ1 bs with
    | some (ds, ρ2) => if ds.length ≤ 1000 then some (.ok (.lst ds) ρ2) else none
    | none => none) := rfl
@[simp] theorem e_fTst (f : Fn Cl) (n : Nat) (ρ : En) : fTst f n ρ = (bnd (f n ρ) fun c ρ1 => match asB c with
    | some b => some (.ok b ρ1)
    | none => none) := rfl
@[simp] theorem e_fAnd (t u : Fn Bool) (n : Nat) (ρ : En) : fAnd t u n ρ = (bnd (t n ρ) fun c ρ1 => if c = true then u n ρ1 else some (.ok false ρ1)) := rfl
@[simp] theorem e_fOr (t u : Fn Bool) (n : Nat) (ρ : En) : fOr t u n ρ = (bnd (t n ρ) fun c ρ1 => if c = true then some (.ok true ρ1) else u n ρ1) := rfl
@[simp] theorem e_fNot (t : Fn Bool) (n : Nat) (ρ : En) : fNot t n ρ = (bnd (t n ρ) fun c ρ1 => some (.ok (!c) ρ1)) := rfl
@[simp] theorem e_fBv (t : Fn Bool) (n : Nat) (ρ : En) : fBv t n ρ = (bnd (t n ρ) fun c ρ1 => some (.ok (.fz (.bool c)) ρ1)) := rfl
@[simp] theorem e_fAndV (f : Fn Cl) (g : Fn Cl) (n : Nat) (ρ : En) : fAndV f g n ρ = (bnd (fTst f n ρ) fun c ρ1 => if c = true then g n ρ1 else some (.ok (.fz (.bool false)) ρ1)) := rfl
@[simp] theorem e_fOrV (f : Fn Cl) (g : Fn Cl) (n : Nat) (ρ : En) : fOrV f g n ρ = (bnd (fTst f n ρ) fun c ρ1 => if c = true then some (.ok (.fz (.bool true)) ρ1) else g n ρ1) := rfl
@[simp] theorem e_fIf (t : Fn Bool) (f g : Fn Cl) (n : Nat) (ρ : En) : fIf t f g n ρ = (bnd (t n ρ) fun c ρ1 => if c = true then f n ρ1 else g n ρ1) := rfl
@[simp] theorem e_fCh (fa fb fc : Fn Bv) (g g' : List Cl → Option Cl) (n : Nat) (ρ : En) : fCh fa fb fc g g' n ρ = (bnd (fa n ρ) fun ba ρ0 => bnd (fb n ρ0) fun bb ρ1 => match lks ρ1 [ba, bb] with
    | some cs => match g cs with
      | some (.fz (.bool true)) => bnd (fc n ρ1) fun bc ρ2 => match lks ρ2 [bb, bc] with
        | some cs' => match g' cs' with
          | some c' => some (.ok c' ρ2)
          | none => none
        | none => none
      | some (.fz (.bool false)) => some (.ok (.fz (.bool false)) ρ1)
      | _ => none
    | none => none) := rfl
@[simp] theorem e_fFzs (f : Fn (List Bv)) (n : Nat) (ρ : En) : fFzs f n ρ = (bnd (f n ρ) fun bs ρ1 => match fzBs ρ1 bs with
    | some (ds, ρ2) => some (.ok ds ρ2)
    | none => none) := rfl
@[simp] theorem e_fISeq (f : Fn Bv) (n : Nat) (ρ : En) : fISeq f n ρ = (bnd (fFzs (fCons f fNil) n ρ) fun ds ρ1 => match ds with
    | [d] => match asSeq d with
      | some xs => some (.ok xs ρ1)
      | none => none
    | _ => none) := rfl
@[simp] theorem e_fIEnum (f : Fn Bv) (n : Nat) (ρ : En) : fIEnum f n ρ = (bnd (fISeq f n ρ) fun ds ρ1 => some (.ok (enumD 0 ds) ρ1)) := rfl
@[simp] theorem e_fIZip (f g : Fn Bv) (n : Nat) (ρ : En) : fIZip f g n ρ = (bnd (fFzs (fCons f (fCons g fNil)) n ρ) fun ds ρ1 => match ds with
    | [.list xs, .list ys] => some (.ok (zipD xs ys) ρ1)
    | [.tuple xs, .tuple ys] => some (.ok (zipD xs ys) ρ1)
    | _ => none) := rfl
@[simp] theorem e_fIR1 (f : Fn Bv) (n : Nat) (ρ : En) : fIR1 f n ρ = (bnd (fFzs (fCons f fNil) n ρ) fun ds ρ1 => match ds with
    | [.int j] => if smI j = true then some (.ok (rngD 0 j.toNat) ρ1) else none
    | _ => none) := rfl
@[simp] theorem e_fIR2 (f g : Fn Bv) (n : Nat) (ρ : En) : fIR2 f g n ρ = (bnd (fFzs (fCons f (fCons g fNil)) n ρ) fun ds ρ1 => match ds with
    | [.int i, .int j] => if (smI i && smI j) = true then some (.ok (rngD i (j - i).toNat) ρ1) else none
    | _ => none) := rfl
@[simp] theorem e_fIR3 (f g h : Fn Bv) (n : Nat) (ρ : En) : fIR3 f g h n ρ = (bnd (fFzs (fCons f (fCons g (fCons h fNil))) n ρ) fun ds ρ1 => match ds with
    | [.int i, .int j, .int c] => if (smI i && smI j && decide (c = -1)) = true then some (.ok (rngCD i (-1) (i - j).toNat) ρ1) else none
    | _ => none) := rfl
@[simp] theorem e_sNil (n0 : Nat) (ρ : En) : sNil  n0 ρ = (some (.nx ρ)) := rfl
@[simp] theorem e_sSeq (f g : FS) (n : Nat) (ρ : En) : sSeq f g n ρ = (match f n ρ with
    | some (.nx ρ1) => g n ρ1
    | o => o) := rfl
@[simp] theorem e_sExpr (f : Fn Bv) (n : Nat) (ρ : En) : sExpr f n ρ = (bS (f n ρ) fun _ ρ1 => some (.nx ρ1)) := rfl
@[simp] theorem e_sRet (f : Fn Cl) (n : Nat) (ρ : En) : sRet f n ρ = (bS (f n ρ) fun c ρ1 => some (.rt c ρ1)) := rfl
@[simp] theorem e_sIf (t : Fn Bool) (f g : FS) (n : Nat) (ρ : En) : sIf t f g n ρ = (bS (t n ρ) fun c ρ1 => if c = true then f n ρ1 else g n ρ1) := rfl
@[simp] theorem e_sSet (i : Nat) (f : Fn Cl) (n : Nat) (ρ : En) : sSet i f n ρ = (bS (f n ρ) fun c ρ1 => if i < ρ1.length then some (.nx (ρ1.set i (some c))) else none) := rfl
@[simp] theorem e_sPar (i j : Nat) (f g : Fn Cl) (n : Nat) (ρ : En) : sPar i j f g n ρ = (bS (f n ρ) fun c ρ1 => bS (g n ρ1) fun d ρ2 => if i < ρ2.length ∧ j < ρ2.length then some (.nx ((ρ2.set i (some c)).set j (some d))) else none) := rfl
@[simp] theorem e_sAsg (g : FG) (f : Fn Bv) (n : Nat) (ρ : En) : sAsg g f n ρ = (bS (fFz f n ρ) fun c ρ1 => match c with
    | .fz d => match g d ρ1 with
      | some ρ2 => some (.nx ρ2)
      | none => none
    | _ => none) := rfl
@[simp] theorem e_sFor (i : Fn (List D)) (g : FG) (f : FS) (n : Nat) (ρ : En) : sFor i g f n ρ = (bS (i n ρ) fun ds ρ1 => forF g f n ds ρ1) := rfl
@[simp] theorem e_sWh (t : Fn Bool) (f : FS) (n : Nat) (ρ : En) : sWh t f n ρ = (whF t f n n ρ) := rfl
@[simp] theorem e_fLc (N : Nat) (vs : List Nat) (i : Fn (List D)) (g : FG) (t : Fn Bool) (e : Fn Bv) (n : Nat) (ρ : En) : fLc N vs i g t e n ρ = (bnd (i n ρ) fun ds ρ1 =>
    if (vs.all (fun j => decide (j < N)) && decide (ρ1.length = N) && decide (ds.length ≤ 1000000)) = true then lcF N g t e vs n ds (wipR ρ1 vs) [] else none) := rfl
@[simp] theorem e_fYes (n0 : Nat) (ρ : En) : fYes  n0 ρ = (some (.ok true ρ)) := rfl
@[simp] theorem e_fCall (m : Mr) (f : Fn (List Bv)) (n : Nat) (ρ : En) : fCall m f n ρ = (bnd (f n ρ) fun bs ρ1 => match takeA ρ1 bs with
    | some (cs, ρ2) => match m cs with
      | some (.ok c outs) => some (.ok c (giveA ρ2 bs outs))
      | some (.ex x outs) => some (.ex x (giveA ρ2 bs outs))
      | none => none
    | none => none) := rfl
@[simp] theorem e_fCall0 (m : Mr) (n0 : Nat) (ρ : En) : fCall0 m n0 ρ = (match m [] with
    | some (.ok c _) => some (.ok c ρ)
    | _ => none) := rfl
@[simp] theorem e_sRaise (c : Str) (n0 : Nat) (ρ : En) : sRaise c n0 ρ = (some (.ex ⟨c, []⟩ ρ)) := rfl
@[simp] theorem e_sRaiseI (c : Str) (fs : List Str) (f : Fn (List Bv)) (n : Nat) (ρ : En) : sRaiseI c fs f n ρ = (bS (fFzs f n ρ) fun ds ρ1 => if ds.length = fs.length ∧ ds.length ≤ 100 then some (.ex ⟨c, mkFsD fs ds⟩ ρ1) else none) := rfl
@[simp] theorem e_fIsi (T : String) (f : Fn Bv) (n : Nat) (ρ : En) : fIsi T f n ρ = (bnd (fFz f n ρ) fun c ρ1 => match c with
    | .fz d => match isiD T d with
      | some b => some (.ok (.fz (.bool b)) ρ1)
      | none => none
    | _ => none) := rfl
@[simp] theorem e_fSlL (f g : Fn Bv) (n : Nat) (ρ : En) : fSlL f g n ρ = (bnd (f n ρ) fun b ρ1 => bnd (fFz g n ρ1) fun c ρ2 => match c, lk ρ2 b with
    | .fz (.int i), some cb => match gSl (some i) none cb with
      | some c' => some (.ok c' ρ2)
      | none => none
    | _, _ => none) := rfl
@[simp] theorem e_fSlU (f g : Fn Bv) (n : Nat) (ρ : En) : fSlU f g n ρ = (bnd (f n ρ) fun b ρ1 => bnd (fFz g n ρ1) fun c ρ2 => match c, lk ρ2 b with
    | .fz (.int i), some cb => match gSl none (some i) cb with
      | some c' => some (.ok c' ρ2)
      | none => none
    | _, _ => none) := rfl
@[simp] theorem e_dNil (n0 : Nat) (ρ : En) : dNil  n0 ρ = (some (.ok [] ρ)) := rfl
@[simp] theorem e_dCons (f : Fn Bv) (g : Fn (List D)) (n : Nat) (ρ : En) : dCons f g n ρ = (bnd (fFz f n ρ) fun c ρ1 => match c with
    | .fz d => bnd (g n ρ1) fun ds ρ2 => some (.ok (d :: ds) ρ2)
    | _ => none) := rfl
@[simp] theorem e_dStar (f : Fn Bv) (g : Fn (List D)) (n : Nat) (ρ : En) : dStar f g n ρ = (bnd (fFz f n ρ) fun c ρ1 => match c with
    | .fz d => match asSeq d with
      | some xs => bnd (g n ρ1) fun ds ρ2 => some (.ok (xs ++ ds) ρ2)
      | none => none
    | _ => none) := rfl
@[simp] theorem e_fLstD (f : Fn (List D)) (n : Nat) (ρ : En) : fLstD f n ρ = (bnd (f n ρ) fun ds ρ1 => if lsz ds.length = true then some (.ok (.lst ds) ρ1) else none) := rfl
@[simp] theorem e_fTupD (f : Fn (List D)) (n : Nat) (ρ : En) : fTupD f n ρ = (bnd (f n ρ) fun ds ρ1 => if lsz ds.length = true then some (.ok (.fz (.tuple ds)) ρ1) else none) := rfl
@[simp] theorem e_sTry (i : Nat) (fb : FS) (l : List ((Ex → Option Bool) × (Ex → FS))) (n : Nat) (ρ : En) : sTry i fb l n ρ = (match fb n ρ with
    | some (.ex x ρ1) => hdl i l x n ρ1
    | o => o) := rfl
@[simp] theorem e_sSetIx (k : Nat) (fe fi : Fn Bv) (n : Nat) (ρ : En) : sSetIx k fe fi n ρ = (bS (fFz fe n ρ) fun c ρ1 => match c with
    | .fz d => if ((ρ1[k]?).join).isSome = true then bS (fFz fi n ρ1) fun c2 ρ2 => match c2 with
      | .fz j => match setIx ρ2 k j d with
        | some ρ3 => some (.nx ρ3)
        | none => none
      | _ => none
    else none
    | _ => none) := rfl
@[simp] theorem e_sAugIx (k : Nat) (fi fe : Fn Bv) (g : D → D → Option D) (n : Nat) (ρ : En) : sAugIx k fi fe g n ρ = (if ((ρ[k]?).join).isSome = true then bS (fFz fi n ρ) fun c ρ1 => match c with
    | .fz j => match getIx ρ1 k j with
      | some a => bS (fFz fe n ρ1) fun c2 ρ2 => match c2 with
        | .fz b => match g a b with
          | some d => match setIx ρ2 k j d with
            | some ρ3 => some (.nx ρ3)
            | none => none
          | none => none
        | _ => none
      | none => none
    | _ => none
    else none) := rfl
@[simp] theorem e_sAug (k : Nat) (fe : Fn Bv) (g : D → D → Option D) (n : Nat) (ρ : En) : sAug k fe g n ρ = (match (ρ[k]?).join with
    | some (.fz a) => bS (fFz fe n ρ) fun c ρ1 => match c with
      | .fz b => match g a b with
        | some d => if k < ρ1.length then some (.nx (ρ1.set k (some (.fz d)))) else none
        | none => none
      | _ => none
    | _ => none) := rfl
@[simp] theorem e_fDct0 (n0 : Nat) (ρ : En) : fDct0  n0 ρ = (some (.ok (.dct []) ρ)) := rfl
@[simp] theorem e_fRevT (f : Fn Bv) (n : Nat) (ρ : En) : fRevT f n ρ = (bnd (fFz f n ρ) fun c ρ1 => match c with
    | .fz (.tuple ds) => some (.ok (.fz (.tuple ds.reverse)) ρ1)
    | _ => none) := rfl
@[simp] theorem e_fIsi2 (T U : String) (f : Fn Bv) (n : Nat) (ρ : En) : fIsi2 T U f n ρ = (bnd (fFz f n ρ) fun c ρ1 => match c with
    | .fz d => match isiD2 T U d with
      | some b => some (.ok (.fz (.bool b)) ρ1)
      | none => none
    | _ => none) := rfl
@[simp] theorem e_fMth (ok : Cl → Bool) (k : Nat) (f : Fn (List Bv)) (g : Cl → List D → Option (D × Cl)) (n : Nat) (ρ : En) : fMth ok k f g n ρ = (match (ρ[k]?).join with
    | some c0 => if ok c0 = true then bnd (fFzs f n ρ) fun as ρ1 => match (ρ1[k]?).join with
      | some c => match g c as with
        | some (d, c') => some (.ok (.fz d) (ρ1.set k (some c')))
        | none => none
      | none => none
    else none
    | none => none) := rfl
@[simp] theorem e_fDc (N : Nat) (vs : List Nat) (i : Fn (List D)) (g : FG) (t : Fn Bool) (ek ev : Fn Bv) (n : Nat) (ρ : En) : fDc N vs i g t ek ev n ρ = (bnd (i n ρ) fun ds ρ1 =>
    if (vs.all (fun j => decide (j < N)) && decide (ρ1.length = N) && decide (ds.length ≤ 1000000)) = true then dcF N g t ek ev vs n ds (wipR ρ1 vs) [] else none) := rfl
@[simp] theorem e_fIDct (k : Nat) (n : Nat) (ρ : En) : fIDct k n ρ = (match (ρ[k]?).join with
    | some (.dct es) => some (.ok (keysD es) (ρ.set k (some (.dlk es))))
    | some (.dlk es) => some (.ok (keysD es) ρ)
    | _ => none) := rfl
@[simp] theorem e_fDG (k : Nat) (f : Fn (List Bv)) (n : Nat) (ρ : En) : fDG k f n ρ = (match (ρ[k]?).join with
    | some c0 => if (dctE c0).isSome = true then bnd (fFzs f n ρ) fun as ρ1 => match (ρ1[k]?).join, as with
      | some c, [kd, dd] => match dctE c, keyD kd with
        | some es, some key => some (.ok (.fz ((getK es key).getD dd)) ρ1)
        | _, _ => none
      | _, _ => none
    else none
    | none => none) := rfl
@[simp] theorem e_sSetIxD (k : Nat) (fe fi : Fn Bv) (n : Nat) (ρ : En) : sSetIxD k fe fi n ρ = (bS (fFz fe n ρ) fun c ρ1 => match c with
    | .fz d => if ((ρ1[k]?).join).isSome = true then bS (fFz fi n ρ1) fun c2 ρ2 => match c2 with
      | .fz j => match setIxD ρ2 k j d with
        | some ρ3 => some (.nx ρ3)
        | none => none
      | _ => none
    else none
    | _ => none) := rfl
@[simp] theorem e_fRest (vs : List Nat) (f : Fn Cl) (n : Nat) (ρ : En) : fRest vs f n ρ = (match f n ρ with
    | some (.ok c ρ') => some (.ok c (restR ρ vs ρ'))
    | r => r) := rfl
@[simp] theorem e_sUnp (k n : Nat) (g : FGs) (n0 : Nat) (ρ : En) : sUnp k n g n0 ρ = (match (ρ[k]?).join with
    | some (.lst ds) => if ds.length = n then (match g ds ρ with
      | some ρ2 => some (.nx ρ2)
      | none => none) else none
    | _ => none) := rfl
@[simp] theorem e_fIStr (f : Fn Bv) (n : Nat) (ρ : En) : fIStr f n ρ = (bnd (fFz f n ρ) fun c ρ1 => match c with
    | .fz (.str x) => some (.ok (signsD x) ρ1)
    | _ => none) := rfl
@[simp] theorem e_fMvS (f0 : Fn Bv) (fs : Fn (List Bv)) (g : Str → List D → Option Cl) (n : Nat) (ρ : En) : fMvS f0 fs g n ρ = (bnd (fFz f0 n ρ) fun c ρ1 => match c with
    | .fz (.str x) => bnd (fFzs fs n ρ1) fun as ρ2 => match g x as with
      | some r => some (.ok r ρ2)
      | none => none
    | _ => none) := rfl
@[simp] theorem e_fDct1 (f g : Fn Bv) (n : Nat) (ρ : En) : fDct1 f g n ρ = (bnd (fFz f n ρ) fun c1 ρ1 => bnd (fFz g n ρ1) fun c2 ρ2 => match c1, c2 with
    | .fz kd, .fz d => match keyD kd with
      | some k => some (.ok (.dct [(k, d)]) ρ2)
      | none => none
    | _, _ => none) := rfl
@[simp] theorem e_fBx (f : Fn Bv) (k : Nat) (n : Nat) (ρ : En) : fBx f k n ρ = (bnd (fFz f n ρ) fun c ρ1 => match c, (ρ1[k]?).join with
    | .fz d, some (.dct es) => some (.ok (.bx d es) (ρ1.set k none))
    | _, _ => none) := rfl
@[simp] theorem e_sUnb (i j : Nat) (f : Fn Cl) (n : Nat) (ρ : En) : sUnb i j f n ρ = (bS (f n ρ) fun c ρ1 => match c with
    | .bx d es => if i < ρ1.length ∧ j < ρ1.length ∧ i ≠ j then some (.nx ((ρ1.set i (some (.fz d))).set j (some (.dct es)))) else none
    | _ => none) := rfl
end L3

namespace L3
open PySem PySem.Spec L2
/-! ### answers compared by a check that the kernel runs -/
mutual
def deq : D → D → Bool
  | .none, .none => true
  | .bool a, .bool b => a == b
  | .int a, .int b => decide (a = b)
  | .str a, .str b => decide (a = b)
  | .list a, .list b => deqs a b
  | .tuple a, .tuple b => deqs a b
  | .dict a, .dict b => deqp a b
  | _, _ => false
def deqs : List D → List D → Bool
  | [], [] => true
  | a :: as, b :: bs => deq a b && deqs as bs
  | _, _ => false
def deqp : List (D × D) → List (D × D) → Bool
  | [], [] => true
  | (a, x) :: as, (b, y) :: bs => deq a b && (deq x y && deqp as bs)
  | _, _ => false
end
mutual
theorem deq_of : ∀ a b : D, deq a b = true → a = b
  | .none, b, h => by
    cases b <;> first | rfl | (exact absurd h (by simp [deq]))
  | .bool x, b, h => by
    cases b with
    | bool y => simp [deq] at h; rw [h]
    | _ => exact absurd h (by simp [deq])
  | .int x, b, h => by
    cases b with
    | int y => simp [deq] at h; rw [h]
    | _ => exact absurd h (by simp [deq])
  | .str x, b, h => by
    cases b with
    | str y => simp [deq] at h; rw [h]
    | _ => exact absurd h (by simp [deq])
  | .list x, b, h => by
    cases b with
    | list y => rw [deq] at h; rw [deqs_of x y h]
    | _ => exact absurd h (by simp [deq])
  | .tuple x, b, h => by
    cases b with
    | tuple y => rw [deq] at h; rw [deqs_of x y h]
    | _ => exact absurd h (by simp [deq])
  | .dict x, b, h => by
    cases b with
    | dict y => rw [deq] at h; rw [deqp_of x y h]
    | _ => exact absurd h (by simp [deq])
theorem deqs_of : ∀ a b : List D, deqs a b = true → a = b
  | [], b, h => by
    cases b <;> first | rfl | (exact absurd h (by simp [deqs]))
  | x :: xs, b, h => by
    cases b with
    | nil => exact absurd h (by simp [deqs])
    | cons y ys =>
      rw [deqs, Bool.and_eq_true] at h
      rw [deq_of x y h.1, deqs_of xs ys h.2]
theorem deqp_of : ∀ a b : List (D × D), deqp a b = true → a = b
  | [], b, h => by
    cases b <;> first | rfl | (exact absurd h (by simp [deqp]))
  | (x, u) :: xs, b, h => by
    cases b with
    | nil => exact absurd h (by simp [deqp])
    | cons y ys =>
      obtain ⟨y, v⟩ := y
      rw [deqp, Bool.and_eq_true, Bool.and_eq_true] at h
      rw [deq_of x y h.1, deq_of u v h.2.1, deqp_of xs ys h.2.2]
end
def ceq : Cl → Cl → Bool
  | .fz a, .fz b => deq a b
  | .lst a, .lst b => deqs a b
  | _, _ => false
theorem ceq_of : ∀ a b : Cl, ceq a b = true → a = b := fun a b h => by
  unfold ceq at h
  split at h
  · rw [deq_of _ _ h]
  · rw [deqs_of _ _ h]
  · cases h
def oeq : List (Option Cl) → List (Option Cl) → Bool
  | [], [] => true
  | none :: as, none :: bs => oeq as bs
  | some a :: as, some b :: bs => ceq a b && oeq as bs
  | _, _ => false
theorem oeq_of : ∀ a b : List (Option Cl), oeq a b = true → a = b
  | [], b, h => by
    cases b <;> first | rfl | (exact absurd h (by simp [oeq]))
  | none :: as, b, h => by
    cases b with
    | nil => exact absurd h (by simp [oeq])
    | cons y ys =>
      cases y with
      | none => rw [oeq] at h; rw [oeq_of as ys h]
      | some _ => exact absurd h (by simp [oeq])
  | some a :: as, b, h => by
    cases b with
    | nil => exact absurd h (by simp [oeq])
    | cons y ys =>
      cases y with
      | none => exact absurd h (by simp [oeq])
      | some y =>
        rw [oeq, Bool.and_eq_true] at h
        rw [ceq_of a y h.1, oeq_of as ys h.2]
def fseq : List (Str × D) → List (Str × D) → Bool
  | [], [] => true
  | (s, a) :: as, (t, b) :: bs => decide (s = t) && (deq a b && fseq as bs)
  | _, _ => false
theorem fseq_of : ∀ a b : List (Str × D), fseq a b = true → a = b
  | [], b, h => by
    cases b <;> first | rfl | (exact absurd h (by simp [fseq]))
  | (s, a) :: as, b, h => by
    cases b with
    | nil => exact absurd h (by simp [fseq])
    | cons y ys =>
      obtain ⟨t, y⟩ := y
      rw [fseq, Bool.and_eq_true, Bool.and_eq_true] at h
      rw [of_decide_eq_true h.1, deq_of a y h.2.1, fseq_of as ys h.2.2]
def moB : Option Mo → Mo → Bool
  | some (.ok c o), .ok c2 o2 => ceq c c2 && oeq o o2
  | some (.ex x o), .ex x2 o2 => decide (x.cls = x2.cls) && (fseq x.fs x2.fs && oeq o o2)
  | _, _ => false
theorem mo_of {a : Option Mo} {b : Mo} (h : moB a b = true) : a = some b := by
  unfold moB at h
  split at h
  · rw [Bool.and_eq_true] at h
    rw [ceq_of _ _ h.1, oeq_of _ _ h.2]
  · rename_i x o x2 o2
    rw [Bool.and_eq_true, Bool.and_eq_true] at h
    obtain ⟨c, f⟩ := x
    obtain ⟨c2, f2⟩ := x2
    have h1 : c = c2 := of_decide_eq_true h.1
    have h2 : f = f2 := fseq_of _ _ h.2.1
    rw [oeq_of _ _ h.2.2, h1, h2]
  · cases h
end L3

namespace L3
open PySem PySem.Spec L2
/-! ### what the defs are worth -/
def trim : List Int → List Int
  | [] => []
  | x :: xs => match trim xs with
    | [] => if x = 0 then [] else [x]
    | y :: ys => x :: y :: ys
def isF (v : D) (lo hi : Int) : Bool := match v with
  | .int x => decide (lo ≤ x) && decide (x ≤ hi)
  | _ => false
def FAR : Int := 1000000000
def badAt : Nat → List D → Option Nat
  | _, [] => none
  | k, d :: ds => if isF d (-FAR) FAR = true then badAt (k + 1) ds else some k
/-- the index of BadPoly -/
def chk (v : D) : Option D := match v with
  | .tuple ds => if 13 < ds.length then some .none else match badAt 0 ds with
    | some k => some (.int k)
    | none => match ds.getLast? with
      | some (.int 0) => some (.int (ds.length - 1 : Nat))
      | _ => none
  | _ => some .none
def bad (i : D) : Ex := ⟨"BadPoly", [("index", i)]⟩
/-- the frozen ints of a tuple -/
def tupI : Cl → Option (List Int)
  | .fz (.tuple ds) => intsD ds
  | _ => none
def lstI : Cl → Option (List Int)
  | .lst ds => intsD ds
  | _ => none
abbrev T (ns : List Int) : Cl := .fz (.tuple (zs ns))
def cf (ns : List Int) (k : Nat) : Int := (ns[k]?).getD 0
def addL (a b : List Int) : List Int := (List.range (max a.length b.length)).map fun k => cf a k + cf b k
/-- found with x added at k -/
def bump (found : List Int) (k : Nat) (x : Int) : List Int := found.set k (cf found k + x)
def mulRow (found : List Int) (i : Nat) (x : Int) : Nat → List Int → List Int
  | _, [] => found
  | j, y :: ys => mulRow (bump found (i + j) (x * y)) i x (j + 1) ys
def mulAll (found : List Int) (b : List Int) : Nat → List Int → List Int
  | _, [] => found
  | i, x :: xs => mulAll (mulRow found i x 0 b) b (i + 1) xs
def mulL (a b : List Int) : List Int := if a = [] ∨ b = [] then [] else trim (mulAll (List.replicate (a.length + b.length - 1) 0) b 0 a)
def derL : Nat → List Int → List Int
  | _, [] => []
  | k, x :: xs => (k : Int) * x :: derL (k + 1) xs
def derivL (a : List Int) : List Int := trim ((derL 0 a).drop 1)
def m_is_from : Mr
  | [.fz v, .fz (.int lo), .fz (.int hi)] => some (.ok (.b (isF v lo hi)) [some (.fz v), some (.i lo), some (.i hi)])
  | _ => none
def m_check_poly : Mr
  | [.fz v] => match chk v with
    | some i => some (.ex (bad i) [some (.fz v)])
    | none => some (.ok (.fz .none) [some (.fz v)])
  | _ => none
def m_trimmed : Mr
  | [.lst ds] => match intsD ds with
    | some ns => some (.ok (T (trim ns)) [some (.lst ds)])
    | none => none
  | _ => none
def small (ns : List Int) : Bool := decide (ns.length ≤ 1000) && ns.all fun x => decide (x.natAbs < 2 ^ 64)
/-! ### sums, multiples, products; where the numbers are not too great -/
def mOk (a b : List Int) : Bool := a.all fun x => b.all fun y => !mulBad x y
def sml (n : Nat) : Bool := Nat.ble n 1000
def scL (a : List Int) (n : Int) : List Int := trim (a.map fun x => n * x)
def m_plus_of : Mr
  | [a, b] => match tupI a, tupI b with
    | some x, some y => if (sml x.length && sml y.length) = true then some (.ok (T (trim (addL x y))) [some a, some b]) else none
    | _, _ => none
  | _ => none
def m_scaled : Mr
  | [a, .fz (.int n)] => match tupI a with
    | some x => if (sml x.length && mOk [n] x) = true then some (.ok (T (scL x n)) [some a, some (.i n)]) else none
    | none => none
  | _ => none
def m_times_of : Mr
  | [a, b] => match tupI a, tupI b with
    | some x, some y => if (sml x.length && sml y.length && mOk x y) = true then some (.ok (T (mulL x y)) [some a, some b]) else none
    | _, _ => none
  | _ => none
/-- the divisor: the slots are stored to -/
def m_divisor : Mr
  | [.fz (.int i), .fz (.int j)] => some (.ok (.i (Int.gcd i j)) [none, none])
  | _ => none
/-- the law's row of numbers: the script, the place, the great number, the seed -/
structure Rw where
  s : List Int
  p : Nat
  b : Int
  r : Int
def Rw.ds (x : Rw) : List D := [.list (zs x.s), .int x.p, .int x.b, .int x.r]
def m__law_draws : Mr
  | [.fz (.list ds)] => match intsD ds with
    | some ns => some (.ok (.lst (Rw.ds ⟨ns, 0, 0, 7⟩)) [some (.fz (.list ds))])
    | none => none
  | _ => none
def Rw.of : List D → Option Rw
  | [.list s, .int p, .int b, .int r] => match intsD s with
    | some ns => if 0 ≤ p then some ⟨ns, p.toNat, b, r⟩ else none
    | none => none
  | _ => none
/-- the row after it was asked, ahead of the answer -/
def Rw.next (x : Rw) : Rw := if x.b = 0 then match x.s[x.p]? with
    | some c => if (10 : Int) ^ 18 ≤ c then ⟨x.s, x.p + 1, c, x.r⟩ else ⟨x.s, x.p + 1, x.b, (x.r * 48271 + c * 69621 + 11).fmod 2147483647⟩
    | none => ⟨x.s, x.p, x.b, (x.r * 48271 + 7).fmod 2147483647⟩
  else x
def Rw.pick (x : Rw) (many : Int) : Int × Rw := if 0 < x.next.b then (x.next.b.fmod many, { x.next with b := x.next.b.fdiv many }) else (((x.next.r * 16807).fmod 2147483629).fmod many, x.next)
def m__law_pick : Mr
  | [.lst ds, .fz (.int many)] => match Rw.of ds with
    | some x => if 0 < many ∧ many < 2 ^ 64 then some (.ok (.i (x.pick many).1) [some (.lst (x.pick many).2.ds), some (.i many)]) else none
    | none => none
  | _ => none
def m__law_end : Mr
  | [c] => match lstI c with
    | some ns => if ns.length ≤ 1000000 then some (.ok (T (trim ns)) [some c]) else none
    | none => none
  | _ => none
/-! ### the parts of polynomials: what the defs are worth -/
def gcdF (a : List Int) (g : Nat) : Nat := a.foldl (fun g x => Int.gcd g x) g
def cont (a : List Int) : Int := if 0 < (a.getLast?).getD 0 then gcdF a 0 else -(gcdF a 0 : Int)
def plainL (a : List Int) : List Int := if a = [] then [] else a.map fun x => x.fdiv (cont a)
def lastI (a : List Int) : Int := (a.getLast?).getD 0
def shiftL (s : Nat) (b : List Int) : List Int := List.replicate s 0 ++ b
def lessL (a b : List Int) : List Int := trim (addL a (scL b (-1)))
def stepA (a b : List Int) : List Int := lessL (scL a (lastI b)) (scL (shiftL (a.length - b.length) b) (lastI a))
def leftL : Nat → List Int → List Int → Option (List Int)
  | 0, a, b => if a.length < b.length then some a else none
  | n + 1, a, b => if a.length < b.length then some a else if (!decide (a = []) && !decide (b = []) && (sml a.length && mOk [lastI b] a && mOk [lastI a] b)) = true then leftL n (stepA a b) b else none
def pyl (x y : Int) : Bool := Builtin.divisionGoesByPylong x y
def plainO (a : List Int) : Option (List Int) := if (sml a.length && (decide (a = []) || (!decide (cont a = 0) && a.all fun x => !pyl x (cont a)))) = true then some (plainL a) else none
def leftO (a b : List Int) : Option (List Int) := leftL (a.length + 1) a b
def comL : Nat → List Int → List Int → Option (List Int)
  | 0, _, _ => none
  | n + 1, a, b => if b = [] then some a else match leftO a b with
    | some r => match plainO r with
      | some p => comL n b p
      | none => none
    | none => none
def quoStep (a b found : List Int) : List Int := found.set (a.length - b.length) ((lastI a).fdiv (lastI b))
def quoNext (a b : List Int) : List Int := lessL a (scL (shiftL (a.length - b.length) b) ((lastI a).fdiv (lastI b)))
def quoL : Nat → List Int → List Int → List Int → Option (List Int)
  | 0, _, _, _ => none
  | n + 1, found, a, b => if a = [] then some found else
    if (decide (b.length ≤ a.length) && !decide (b = []) && (decide (a.length - b.length < found.length) && sml a.length && !decide (lastI b = 0)) && (!pyl (lastI a) (lastI b) && mOk [(lastI a).fdiv (lastI b)] b)) = true then quoL n (quoStep a b found) (quoNext a b) b else none
def quoO (a b : List Int) : Option (List Int) := quoL (a.length + 1) (List.replicate (a.length + 1 - b.length) 0) a b
def comO (a b : List Int) : Option (List Int) := match plainO a, plainO b with
  | some p, some q => comL 1000 p q
  | _, _ => none
def bareO (a : List Int) : Option (List Int) := match plainO a with
  | some w => if small w = true then (match comO w (derivL w) with
    | some g => match quoO w g with
      | some q => plainO q
      | none => none
    | none => none) else none
  | none => none
def okT (r : Option (List Int)) (outs : List (Option Cl)) : Option Mo := r.map fun p => .ok (T p) outs
def m_less_of : Mr
  | [a, b] => match tupI a, tupI b with
    | some x, some y => if (sml x.length && sml y.length) = true then some (.ok (T (lessL x y)) [some a, some b]) else none
    | _, _ => none
  | _ => none
def m_derived_of : Mr
  | [a] => match tupI a with
    | some x => if small x then some (.ok (T (derivL x)) [some a]) else none
    | _ => none
  | _ => none
def m_plain : Mr
  | [a] => match tupI a with
    | some x => okT (plainO x) [some a]
    | none => none
  | _ => none
def m_left_over : Mr
  | [a, b] => match tupI a, tupI b with
    | some x, some y => if (sml x.length && sml y.length) = true then okT (leftO x y) [none, some b] else none
    | _, _ => none
  | _ => none
def m_common_of : Mr
  | [a, b] => match tupI a, tupI b with
    | some x, some y => okT (comO x y) [none, none]
    | _, _ => none
  | _ => none
def m_quotient : Mr
  | [a, b] => match tupI a, tupI b with
    | some x, some y => if (sml x.length && sml y.length) = true then okT (quoO x y) [none, some b] else none
    | _, _ => none
  | _ => none
def m_bare_of : Mr
  | [a] => match tupI a with
    | some x => okT (bareO x) [some a]
    | none => none
  | _ => none
def m_many_roots : Mr
  | [a] => match tupI a with
    | some x => (bareO x).map fun p => .ok (.i ((p.length : Int) - 1)) [some a]
    | none => none
  | _ => none
def zeroX : Ex := ⟨"Zero", []⟩
def m_check_zero : Mr
  | [a] => match tupI a with
    | some x => some (if x = [] then .ex zeroX [some a] else .ok (.fz .none) [some a])
    | none => none
  | _ => none
def polyD (v : D) : Option (List Int) := match v with
  | .tuple ds => intsD ds
  | _ => none
/-! ### the law's own sums and products -/
def m__law_add : Mr
  | [a, b] => match tupI a, tupI b with
    | some x, some y => if (sml x.length && sml y.length) = true then some (.ok (T (trim (addL x y))) [some a, some b]) else none
    | _, _ => none
  | _ => none
def lmul (x y : List Int) : List Int := trim (mulAll (List.replicate (x.length + y.length + 1) 0) y 0 x)
def m__law_mul : Mr
  | [a, b] => match tupI a, tupI b with
    | some x, some y => if (sml x.length && sml y.length && mOk x y) = true then some (.ok (T (lmul x y)) [some a, some b]) else none
    | _, _ => none
  | _ => none
def odds : List D := [.tuple [.none, .none], .tuple [.list [.int 1], .none], .tuple [.str "1", .none], .tuple [.tuple (zs (List.replicate 14 1)), .none], .tuple [.tuple [.bool true], .int 0], .tuple [.tuple [.int 1, .int 0], .int 1], .tuple [.tuple [.int 0], .int 0], .tuple [.int 5, .none],
  .tuple [.tuple [.int 1, .none], .int 1], .tuple [.tuple [.int 1, .int 1000000001], .int 1], .tuple [.tuple [.int (-1000000001), .int 1], .int 0], .tuple [.tuple [.int 1, .str "1", .int 0], .int 1], .tuple [.dict [], .none]]
def m__law_odd_poly : Mr
  | [.lst ds] => match Rw.of ds with
    | some x => match odds[(x.pick 13).1.toNat]? with
      | some d => some (.ok (.fz d) [some (.lst (x.pick 13).2.ds)])
      | none => none
    | none => none
  | _ => none
/-! ### whole roots -/
def vaL (p : List Int) (x : Int) : Int := p.foldr (fun a t => a + x * t) 0
def m_value_of : Mr
  | [a, .fz (.int n)] => match tupI a with
    | some x => if (sml x.length && Nat.ble n.natAbs.log2 62) = true then some (.ok (.i (vaL x n)) [some a, some (.i n)]) else none
    | none => none
  | _ => none
/-- the first one that is not 0 -/
def fstL (x : List Int) : Nat := match x.filter fun a => !decide (a = 0) with
  | a :: _ => a.natAbs
  | [] => 0
def putT (es : List (Key × D)) (i : Int) : List (Key × D) := putD es (.inl i) (.bool true)
def put4 (es : List (Key × D)) (f k : Nat) : List (Key × D) := putT (putT (putT (putT es k) (-(k : Int))) ((f / k : Nat) : Int)) (-((f / k : Nat) : Int))
def canD (f : Nat) : Nat → Nat → List (Key × D) → List (Key × D)
  | 0, _, es => es
  | n + 1, k, es => if k * k ≤ f then canD f n (k + 1) (if f % k = 0 then put4 es f k else es) else es
def keysI (es : List (Key × D)) : List Int := (intKeys es).getD []
def canL (f : Nat) : List Int := sortI (keysI (canD f (f + 1) 1 [(.inl 0, .bool true)]))
def m_candidates : Mr
  | [a] => match tupI a with
    | some x => if (sml x.length && (Nat.ble 1 (fstL x) && Nat.ble (fstL x) 10000000000)) = true then some (.ok (.lst ((canL (fstL x)).map PyData.int)) [some a]) else none
    | none => none
  | _ => none
/-- how often a root stands, and the rest -/
def cntL : Nat → List Int → Int → Nat → Option (Nat × List Int)
  | 0, _, _, _ => none
  | n + 1, rest, r, t => if rest = [] then some (t, rest) else if vaL rest r = 0 then (match quoO rest [-r, 1] with
    | some q => if (sml rest.length && sml q.length) = true then cntL n q r (t + 1) else none
    | none => none) else some (t, rest)
def wrD (p : Int × Nat) : D := .tuple [.int p.1, .int p.2]
def wrL : List Int → List Int → List (Int × Nat) → Option (List (Int × Nat))
  | [], _, acc => some acc
  | r :: rs, rest, acc => if ((sml rest.length && sml acc.length) && Nat.ble r.natAbs.log2 62) = true then (match cntL 1000 rest r 0 with
    | some (t, q) => wrL rs q (if 0 < t then acc ++ [(r, t)] else acc)
    | none => none) else none
def m_whole_roots : Mr
  | [.fz v] => match chk v with
    | some i => some (.ex (bad i) [some (.fz v)])
    | none => match polyD v with
      | some x => if x = [] then some (.ex zeroX [some (.fz v)]) else if (sml x.length && (Nat.ble 1 (fstL x) && Nat.ble (fstL x) 10000000000)) = true then
        (wrL (canL (fstL x)) x []).map fun l => .ok (.lst (l.map wrD)) [some (.fz v)] else none
      | none => none
  | _ => none
/-! ### drawn roots -/
def asI (es : List (Key × D)) (r : Int) : Int := match getK es (.inl r) with
  | some (.int n) => n
  | _ => 0
def incD (es : List (Key × D)) (r : Int) : List (Key × D) := putD es (.inl r) (.int (asI es r + 1))
def rooL : Nat → Rw → List Int → List (Key × D) → (List Int × List (Key × D)) × Rw
  | 0, x, f, es => ((f, es), x)
  | n + 1, x, f, es => rooL n (x.pick 7).2 (lmul f [0 - ((x.pick 7).1 - 3), 1]) (incD es ((x.pick 7).1 - 3))
def m__law_rooted : Mr
  | [.lst ds, .fz (.int most)] => match Rw.of ds with
    | some x => if 0 ≤ most ∧ most ≤ 8 then (let k := x.pick (most + 1); let w := rooL k.1.toNat k.2 [1] []; some (.ok (.bx (.tuple (zs w.1.1)) w.1.2) [some (.lst w.2.ds), some (.i most)])) else none
    | none => none
  | _ => none
def m_law : Mr
  | [.fz (.list ds)] => match intsD ds with
    | some ns => some (.ok (.b true) [some (.fz (.list ds))])
    | none => none
  | _ => none
end L3

namespace L3
open PySem PySem.Spec L2
def g_is_from : FS := (sRet (fAndV (fIsi "int" (fPl 0)) (fAndV (fBv (fNot (fTst (fIsi "bool" (fPl 0))))) (fCh (fPl 1) (fPl 0) (fPl 2) (gI fun i j => decide (i ≤ j)) (gI fun i j => decide (i ≤ j))))))
def gl_check_poly_1 : FG := (gTp 2 (gsCons (gN 1) (gsCons (gN 2) gsNil)))
def bl_check_poly_1 : FS := (sIf (fNot (fTst (fCall m_is_from (fCons (fPl 2) (fCons (fOf (f1 (fOf (fC (.int 1000000000))) gNeg)) (fCons (fOf (fC (.int 1000000000))) fNil)))))) (sRaiseI "BadPoly" ["index"] (fCons (fPl 1) fNil)) sNil)
def g_check_poly : FS := (sSeq (sIf (fOr (fNot (fTst (fIsi "tuple" (fPl 0)))) (fTst (f2 (fOf (fPr (fCons (fPl 0) fNil) gLenA)) (fOf (fC (.int 13))) (gI fun i j => decide (j < i))))) (sRaiseI "BadPoly" ["index"] (fCons (fOf (fC .none)) fNil)) sNil) (sSeq (sFor (fIEnum (fPl 0)) gl_check_poly_1 bl_check_poly_1) (sIf (fAnd (fTst (f2 (fPl 0) (fOf (fTup fNil)) gNe)) (fTst (f2 (fOf (f2 (fPl 0) (fOf (f1 (fOf (fC (.int 1))) gNeg)) gIx)) (fOf (fC (.int 0))) gEq))) (sRaiseI "BadPoly" ["index"] (fCons (fOf (f2 (fOf (fPr (fCons (fPl 0) fNil) gLenA)) (fOf (fC (.int 1))) gSub)) fNil)) sNil)))
def wt_trimmed_1 : Fn Bool := (fAnd (fTst (f2 (fPl 1) (fOf (fC (.int 0))) (gI fun i j => decide (j < i)))) (fTst (f2 (fOf (f2 (fPl 0) (fOf (f2 (fPl 1) (fOf (fC (.int 1))) gSub)) gIx)) (fOf (fC (.int 0))) gEq)))
def wb_trimmed_1 : FS := (sAug 1 (fOf (fC (.int 1))) (gIp fun i j => i - j))
def g_trimmed : FS := (sSeq (sSet 1 (fPr (fCons (fPl 0) fNil) gLenA)) (sSeq (sWh wt_trimmed_1 wb_trimmed_1) (sRet (fPr (fCons (fOf (fSlU (fPl 0) (fPl 1))) fNil) gTuple))))
def cg_plus_of_1 : FG := (gTp 2 (gsCons (gN 5) (gsCons (gN 6) gsNil)))
def ce_plus_of_1 : Fn Bv := (fOf (f2 (fPl 5) (fPl 6) gAdd))
def g_plus_of : FS := (sSeq (sSet 2 (fPr (fCons (fOf (fPr (fCons (fPl 0) fNil) gLenA)) (fCons (fOf (fPr (fCons (fPl 1) fNil) gLenA)) fNil)) gMax2)) (sSeq (sPar 3 4 (fLstD (dStar (fPl 0) (dStar (fOf (f2 (fOf (fLst (fCons (fOf (fC (.int 0))) fNil))) (fOf (f2 (fPl 2) (fOf (fPr (fCons (fPl 0) fNil) gLenA)) gSub)) gMul)) dNil))) (fLstD (dStar (fPl 1) (dStar (fOf (f2 (fOf (fLst (fCons (fOf (fC (.int 0))) fNil))) (fOf (f2 (fPl 2) (fOf (fPr (fCons (fPl 1) fNil) gLenA)) gSub)) gMul)) dNil)))) (sRet (fCall m_trimmed (fCons (fOf (fLc 7 [5, 6] (fIZip (fPl 3) (fPl 4)) cg_plus_of_1 fYes ce_plus_of_1)) fNil)))))
def cg_scaled_1 : FG := (gN 2)
def ce_scaled_1 : Fn Bv := (fOf (f2 (fPl 1) (fPl 2) gMul))
def g_scaled : FS := (sRet (fCall m_trimmed (fCons (fOf (fLc 3 [2] (fISeq (fPl 0)) cg_scaled_1 fYes ce_scaled_1)) fNil)))
def g_less_of : FS := (sRet (fCall m_plus_of (fCons (fPl 0) (fCons (fOf (fCall m_scaled (fCons (fPl 1) (fCons (fOf (f1 (fOf (fC (.int 1))) gNeg)) fNil)))) fNil))))
def gl_value_of_1 : FG := (gN 3)
def bl_value_of_1 : FS := (sSet 2 (f2 (fOf (f2 (fPl 2) (fPl 1) gMul)) (fPl 3) gAdd))
def g_value_of : FS := (sSeq (sSet 2 (fC (.int 0))) (sSeq (sFor (fISeq (fOf (fRevT (fPl 0)))) gl_value_of_1 bl_value_of_1) (sRet (fMv 2))))
def wt_quotient_1 : Fn Bool := (fTst (f2 (fPl 0) (fOf (fTup fNil)) gNe))
def wb_quotient_1 : FS := (sSeq (sSet 3 (f2 (fOf (fPr (fCons (fPl 0) fNil) gLenA)) (fOf (fPr (fCons (fPl 1) fNil) gLenA)) gSub)) (sSeq (sSetIx 2 (fOf (f2 (fOf (f2 (fPl 0) (fOf (f1 (fOf (fC (.int 1))) gNeg)) gIx)) (fOf (f2 (fPl 1) (fOf (f1 (fOf (fC (.int 1))) gNeg)) gIx)) gFdiv)) (fPl 3)) (sSet 0 (fCall m_less_of (fCons (fPl 0) (fCons (fOf (fCall m_scaled (fCons (fOf (fTupD (dStar (fOf (f2 (fOf (fTup (fCons (fOf (fC (.int 0))) fNil))) (fPl 3) gMul)) (dStar (fPl 1) dNil)))) (fCons (fOf (f2 (fPl 2) (fPl 3) gIx)) fNil)))) fNil))))))
def g_quotient : FS := (sSeq (sSet 2 (f2 (fOf (fLst (fCons (fOf (fC (.int 0))) fNil))) (fOf (fPr (fCons (fOf (fC (.int 0))) (fCons (fOf (f2 (fOf (f2 (fOf (fPr (fCons (fPl 0) fNil) gLenA)) (fOf (fPr (fCons (fPl 1) fNil) gLenA)) gSub)) (fOf (fC (.int 1))) gAdd)) fNil)) gMax2)) gMul)) (sSeq (sWh wt_quotient_1 wb_quotient_1) (sRet (fPr (fCons (fPl 2) fNil) gTuple))))
def g_check_zero : FS := (sIf (fTst (f2 (fPl 0) (fOf (fTup fNil)) gEq)) (sRaise "Zero") sNil)
def ct_candidates_1 : Fn Bool := (fTst (f2 (fPl 2) (fOf (fC (.int 0))) gNe))
def cg_candidates_1 : FG := (gN 2)
def ce_candidates_1 : Fn Bv := (fOf (fPr (fCons (fPl 2) fNil) gAbs))
def st_candidates_1 : FS := (sSet 1 (f2 (fOf (fLc 6 [2] (fISeq (fPl 0)) cg_candidates_1 ct_candidates_1 ce_candidates_1)) (fOf (fC (.int 0))) gIx))
def st_candidates_2 : FS := (sSet 3 (fDct1 (fOf (fC (.int 0))) (fOf (fC (.bool true)))))
def st_candidates_3 : FS := (sSet 4 (fC (.int 1)))
def gl_candidates_1 : FG := (gN 5)
def bl_candidates_1 : FS := (sSeq (sSetIxD 3 (fOf (fC (.bool true))) (fPl 5)) (sSetIxD 3 (fOf (fC (.bool true))) (fOf (f1 (fPl 5) gNeg))))
def wt_candidates_1 : Fn Bool := (fTst (f2 (fOf (f2 (fPl 4) (fPl 4) gMul)) (fPl 1) (gI fun i j => decide (i ≤ j))))
def wb_candidates_1 : FS := (sSeq (sIf (fTst (f2 (fOf (f2 (fPl 1) (fPl 4) gMod)) (fOf (fC (.int 0))) gEq)) (sFor (fISeq (fOf (fTup (fCons (fPl 4) (fCons (fOf (f2 (fPl 1) (fPl 4) gFdiv)) fNil))))) gl_candidates_1 bl_candidates_1) sNil) (sAug 4 (fOf (fC (.int 1))) (gIp fun i j => i + j)))
def st_candidates_4 : FS := (sWh wt_candidates_1 wb_candidates_1)
def st_candidates_5 : FS := (sRet (fPr (fCons (fPl 3) fNil) gSortD))
def g_candidates : FS := (sSeq st_candidates_1 (sSeq st_candidates_2 (sSeq st_candidates_3 (sSeq st_candidates_4 st_candidates_5))))
def st_whole_roots_1 : FS := (sExpr (fOf (fCall m_check_poly (fCons (fPl 0) fNil))))
def st_whole_roots_2 : FS := (sExpr (fOf (fCall m_check_zero (fCons (fPl 0) fNil))))
def st_whole_roots_3 : FS := (sPar 1 2 (fLst fNil) (fFz (fPl 0)))
def wt_whole_roots_1 : Fn Bool := (fAnd (fTst (f2 (fPl 2) (fOf (fTup fNil)) gNe)) (fTst (f2 (fOf (fCall m_value_of (fCons (fPl 2) (fCons (fPl 3) fNil)))) (fOf (fC (.int 0))) gEq)))
def wb_whole_roots_1 : FS := (sSeq (sSet 2 (fCall m_quotient (fCons (fPl 2) (fCons (fOf (fTup (fCons (fOf (f1 (fPl 3) gNeg)) (fCons (fOf (fC (.int 1))) fNil)))) fNil)))) (sAug 4 (fOf (fC (.int 1))) (gIp fun i j => i + j)))
def gl_whole_roots_1 : FG := (gN 3)
def bl_whole_roots_1 : FS := (sSeq (sSet 4 (fC (.int 0))) (sSeq (sWh wt_whole_roots_1 wb_whole_roots_1) (sIf (fTst (f2 (fPl 4) (fOf (fC (.int 0))) (gI fun i j => decide (j < i)))) (sExpr (fOf (fMth isL 1 (fCons (fOf (fTup (fCons (fPl 3) (fCons (fPl 4) fNil)))) fNil) gApp))) sNil)))
def st_whole_roots_4 : FS := (sFor (fISeq (fOf (fCall m_candidates (fCons (fPl 0) fNil)))) gl_whole_roots_1 bl_whole_roots_1)
def st_whole_roots_5 : FS := (sRet (fMv 1))
def g_whole_roots : FS := (sSeq st_whole_roots_1 (sSeq st_whole_roots_2 (sSeq st_whole_roots_3 (sSeq st_whole_roots_4 st_whole_roots_5))))
def g__law_draws : FS := (sRet (fLst (fCons (fOf (fPr (fCons (fPl 0) fNil) gList)) (fCons (fOf (fC (.int 0))) (fCons (fOf (fC (.int 0))) (fCons (fOf (fC (.int 7))) fNil))))))
def g__law_pick : FS := (sSeq (sIf (fTst (f2 (fOf (f2 (fPl 0) (fOf (fC (.int 2))) gIx)) (fOf (fC (.int 0))) gEq)) (sIf (fTst (f2 (fOf (f2 (fPl 0) (fOf (fC (.int 1))) gIx)) (fOf (fPr (fCons (fOf (f2 (fPl 0) (fOf (fC (.int 0))) gIx)) fNil) gLenA)) (gI fun i j => decide (i < j)))) (sSeq (sSet 2 (f2 (fOf (f2 (fPl 0) (fOf (fC (.int 0))) gIx)) (fOf (f2 (fPl 0) (fOf (fC (.int 1))) gIx)) gIx)) (sSeq (sSetIx 0 (fOf (f2 (fOf (f2 (fPl 0) (fOf (fC (.int 1))) gIx)) (fOf (fC (.int 1))) gAdd)) (fOf (fC (.int 1)))) (sIf (fTst (f2 (fPl 2) (fOf (f2 (fOf (fC (.int 10))) (fOf (fC (.int 18))) gPow)) (gI fun i j => decide (j ≤ i)))) (sSetIx 0 (fPl 2) (fOf (fC (.int 2)))) (sSetIx 0 (fOf (f2 (fOf (fPr (fCons (fOf (f2 (fOf (f2 (fOf (f2 (fOf (f2 (fPl 0) (fOf (fC (.int 3))) gIx)) (fOf (fC (.int 48271))) gMul)) (fOf (f2 (fPl 2) (fOf (fC (.int 69621))) gMul)) gAdd)) (fOf (fC (.int 11))) gAdd)) fNil) gInt)) (fOf (fC (.int 2147483647))) gMod)) (fOf (fC (.int 3))))))) (sSetIx 0 (fOf (f2 (fOf (fPr (fCons (fOf (f2 (fOf (f2 (fOf (f2 (fPl 0) (fOf (fC (.int 3))) gIx)) (fOf (fC (.int 48271))) gMul)) (fOf (fC (.int 7))) gAdd)) fNil) gInt)) (fOf (fC (.int 2147483647))) gMod)) (fOf (fC (.int 3))))) sNil) (sSeq (sIf (fTst (f2 (fOf (f2 (fPl 0) (fOf (fC (.int 2))) gIx)) (fOf (fC (.int 0))) (gI fun i j => decide (j < i)))) (sSeq (sSet 3 (f2 (fOf (fPr (fCons (fOf (f2 (fPl 0) (fOf (fC (.int 2))) gIx)) fNil) gInt)) (fPl 1) gMod)) (sSeq (sSetIx 0 (fOf (f2 (fOf (f2 (fPl 0) (fOf (fC (.int 2))) gIx)) (fPl 1) gFdiv)) (fOf (fC (.int 2)))) (sRet (fMv 3)))) sNil) (sRet (f2 (fOf (f2 (fOf (fPr (fCons (fOf (f2 (fOf (f2 (fPl 0) (fOf (fC (.int 3))) gIx)) (fOf (fC (.int 16807))) gMul)) fNil) gInt)) (fOf (fC (.int 2147483629))) gMod)) (fPl 1) gMod))))
def gl__law_end_1 : FG := (gN 2)
def bl__law_end_1 : FS := (sSeq (sIf (fTst (f2 (fOf (f2 (fPl 1) (fOf (f1 (fOf (fC (.int 1))) gNeg)) gIx)) (fOf (fC (.int 0))) gEq)) (sSet 1 (fSlU (fPl 1) (fOf (f1 (fOf (fC (.int 1))) gNeg)))) sNil) (sIf (fTst (f2 (fPl 1) (fOf (fLst fNil)) gEq)) (sRet (fTup fNil)) sNil))
def g__law_end : FS := (sSeq (sSet 1 (fPr (fCons (fPl 0) fNil) gList)) (sSeq (sFor (fIR1 (fOf (fPr (fCons (fPl 0) fNil) gLenA))) gl__law_end_1 bl__law_end_1) (sRet (fPr (fCons (fPl 1) fNil) gTuple))))
def gl__law_mul_1 : FG := (gN 4)
def bl__law_mul_1 : FS := (sSetIx 2 (fOf (f2 (fOf (f2 (fPl 2) (fOf (f2 (fPl 3) (fPl 4) gAdd)) gIx)) (fOf (f2 (fOf (f2 (fPl 0) (fPl 3) gIx)) (fOf (f2 (fPl 1) (fPl 4) gIx)) gMul)) gAdd)) (fOf (f2 (fPl 3) (fPl 4) gAdd)))
def gl__law_mul_2 : FG := (gN 3)
def bl__law_mul_2 : FS := (sFor (fIR1 (fOf (fPr (fCons (fPl 1) fNil) gLenA))) gl__law_mul_1 bl__law_mul_1)
def g__law_mul : FS := (sSeq (sSet 2 (f2 (fOf (fLst (fCons (fOf (fC (.int 0))) fNil))) (fOf (f2 (fOf (f2 (fOf (fPr (fCons (fPl 0) fNil) gLenA)) (fOf (fPr (fCons (fPl 1) fNil) gLenA)) gAdd)) (fOf (fC (.int 1))) gAdd)) gMul)) (sSeq (sFor (fIR1 (fOf (fPr (fCons (fPl 0) fNil) gLenA))) gl__law_mul_2 bl__law_mul_2) (sRet (fCall m__law_end (fCons (fPl 2) fNil)))))
def st__law_rooted_1 : FS := (sPar 2 3 (fTup (fCons (fOf (fC (.int 1))) fNil)) fDct0)
def gl__law_rooted_1 : FG := (gN 4)
def bl__law_rooted_1 : FS := (sSeq (sSet 5 (f2 (fOf (fCall m__law_pick (fCons (fPl 0) (fCons (fOf (fC (.int 7))) fNil)))) (fOf (fC (.int 3))) gSub)) (sSeq (sSetIxD 3 (fOf (f2 (fOf (fDG 3 (fCons (fPl 5) (fCons (fOf (fC (.int 0))) fNil)))) (fOf (fC (.int 1))) gAdd)) (fPl 5)) (sSet 2 (fCall m__law_mul (fCons (fPl 2) (fCons (fOf (fTup (fCons (fOf (f2 (fOf (fC (.int 0))) (fPl 5) gSub)) (fCons (fOf (fC (.int 1))) fNil)))) fNil))))))
def st__law_rooted_2 : FS := (sFor (fIR1 (fOf (fCall m__law_pick (fCons (fPl 0) (fCons (fOf (f2 (fPl 1) (fOf (fC (.int 1))) gAdd)) fNil))))) gl__law_rooted_1 bl__law_rooted_1)
def st__law_rooted_3 : FS := (sRet (fBx (fPl 2) 3))
def g__law_rooted : FS := (sSeq st__law_rooted_1 (sSeq st__law_rooted_2 st__law_rooted_3))
def g__law_odd_poly : FS := (sSeq (sSet 1 (fLst (fCons (fOf (fTup (fCons (fOf (fC .none)) (fCons (fOf (fC .none)) fNil)))) (fCons (fOf (fTup (fCons (fOf (fLst (fCons (fOf (fC (.int 1))) fNil))) (fCons (fOf (fC .none)) fNil)))) (fCons (fOf (fTup (fCons (fOf (fC (.str "1"))) (fCons (fOf (fC .none)) fNil)))) (fCons (fOf (fTup (fCons (fOf (f2 (fOf (fTup (fCons (fOf (fC (.int 1))) fNil))) (fOf (fC (.int 14))) gMul)) (fCons (fOf (fC .none)) fNil)))) (fCons (fOf (fTup (fCons (fOf (fTup (fCons (fOf (fC (.bool true))) fNil))) (fCons (fOf (fC (.int 0))) fNil)))) (fCons (fOf (fTup (fCons (fOf (fTup (fCons (fOf (fC (.int 1))) (fCons (fOf (fC (.int 0))) fNil)))) (fCons (fOf (fC (.int 1))) fNil)))) (fCons (fOf (fTup (fCons (fOf (fTup (fCons (fOf (fC (.int 0))) fNil))) (fCons (fOf (fC (.int 0))) fNil)))) (fCons (fOf (fTup (fCons (fOf (fC (.int 5))) (fCons (fOf (fC .none)) fNil)))) fNil)))))))))) (sSeq (sSet 1 (f2 (fPl 1) (fOf (fLst (fCons (fOf (fTup (fCons (fOf (fTup (fCons (fOf (fC (.int 1))) (fCons (fOf (fC .none)) fNil)))) (fCons (fOf (fC (.int 1))) fNil)))) (fCons (fOf (fTup (fCons (fOf (fTup (fCons (fOf (fC (.int 1))) (fCons (fOf (fC (.int 1000000001))) fNil)))) (fCons (fOf (fC (.int 1))) fNil)))) (fCons (fOf (fTup (fCons (fOf (fTup (fCons (fOf (f1 (fOf (fC (.int 1000000001))) gNeg)) (fCons (fOf (fC (.int 1))) fNil)))) (fCons (fOf (fC (.int 0))) fNil)))) (fCons (fOf (fTup (fCons (fOf (fTup (fCons (fOf (fC (.int 1))) (fCons (fOf (fC (.str "1"))) (fCons (fOf (fC (.int 0))) fNil))))) (fCons (fOf (fC (.int 1))) fNil)))) (fCons (fOf (fTup (fCons (fOf fDct0) (fCons (fOf (fC .none)) fNil)))) fNil))))))) gAdd)) (sRet (f2 (fPl 1) (fOf (fCall m__law_pick (fCons (fPl 0) (fCons (fOf (fC (.int 13))) fNil)))) gIx))))
def tb__law_wrong_1 : FS := (sSet 1 (fCall m_whole_roots (fCons (fPl 0) fNil)))
def g__law_wrong : FS := (sSeq (sSet 1 (fC .none)) (sSeq (sTry 2 tb__law_wrong_1 [(tblO [("BadPoly", true), ("Zero", false)], (fSu 1 (tblB ["BadPoly"]) (fun x => ((fun x => ((fun x => (seF ["BadPoly"] "index" x).bind fun d => ((fun _ => some []) x).map (d :: ·)) x).map (.str "poly" :: ·)) x).map .lst))), (tblO [("BadPoly", false), ("Zero", true)], (fSu 1 (tblB ["Zero"]) (fun _ => some (.fz (.str "zero")))))]) (sRet (fMv 1))))
def m__law_wrong : Mr := fun cs => (g__law_wrong 1000 (startR 3 cs)).bind (fin [true])
theorem h__law_wrong : ∀ cs o, m__law_wrong cs = some o → ∃ n out, g__law_wrong n (startR 3 cs) = some out ∧ fin [true] out = some o := fun cs o h => ⟨1000, Option.bind_eq_some_iff.mp h⟩
def st_law_1 : FS := (sSet 1 (fCall m__law_draws (fCons (fPl 0) fNil)))
def sb_law_1 : FS := (sUnb 3 4 (fCall m__law_rooted (fCons (fPl 1) (fCons (fOf (fC (.int 5))) fNil))))
def sb_law_2 : FS := (sSet 5 (f2 (fOf (fLst (fCons (fOf (fTup (fCons (fOf (fC (.int 1))) fNil))) (fCons (fOf (fTup (fCons (fOf (f1 (fOf (fC (.int 1))) gNeg)) (fCons (fOf (fC (.int 2))) fNil)))) (fCons (fOf (fTup (fCons (fOf (fC (.int 1))) (fCons (fOf (fC (.int 0))) (fCons (fOf (fC (.int 1))) fNil))))) (fCons (fOf (fTup (fCons (fOf (f1 (fOf (fC (.int 2))) gNeg)) (fCons (fOf (fC (.int 0))) (fCons (fOf (fC (.int 1))) fNil))))) (fCons (fOf (fTup (fCons (fOf (fC (.int 7))) fNil))) (fCons (fOf (fTup (fCons (fOf (f1 (fOf (fC (.int 3))) gNeg)) fNil))) fNil)))))))) (fOf (fCall m__law_pick (fCons (fPl 1) (fCons (fOf (fC (.int 6))) fNil)))) gIx))
def sb_law_3 : FS := (sSet 6 (fCall m__law_mul (fCons (fPl 3) (fCons (fPl 5) fNil))))
def sb_law_4 : FS := (sIf (fTst (f2 (fOf (fCall m__law_pick (fCons (fPl 1) (fCons (fOf (fC (.int 3))) fNil)))) (fOf (fC (.int 0))) gEq)) (sSeq (sSet 7 (f2 (fOf (fLst (fCons (fOf (fC (.int 40))) (fCons (fOf (f1 (fOf (fC (.int 77))) gNeg)) (fCons (fOf (fC (.int 1000))) fNil))))) (fOf (fCall m__law_pick (fCons (fPl 1) (fCons (fOf (fC (.int 3))) fNil)))) gIx)) (sSeq (sSetIxD 4 (fOf (fC (.int 1))) (fPl 7)) (sSet 6 (fCall m__law_mul (fCons (fPl 6) (fCons (fOf (fTup (fCons (fOf (f2 (fOf (fC (.int 0))) (fPl 7) gSub)) (fCons (fOf (fC (.int 1))) fNil)))) fNil)))))) sNil)
def cg_law_1 : FG := (gN 7)
def ce_law_1 : Fn Bv := (fOf (fTup (fCons (fPl 7) (fCons (fOf (f2 (fPl 4) (fPl 7) gIxD)) fNil))))
def sb_law_5 : FS := (sIf (fTst (f2 (fOf (fCall m_whole_roots (fCons (fPl 6) fNil))) (fOf (fRest [7] (fLc 10 [7] (fISeq (fOf (fPr (fCons (fPl 4) fNil) gSortD))) cg_law_1 fYes ce_law_1))) gNe)) (sRet (fC (.bool false))) sNil)
def sb_law_6 : FS := (sAsg (gTp 2 (gsCons (gN 8) (gsCons (gN 9) gsNil))) (fOf (fCall m__law_odd_poly (fCons (fPl 1) fNil))))
def sb_law_7 : FS := (sIf (fOr (fTst (f2 (fOf (fCall m__law_wrong (fCons (fPl 8) fNil))) (fOf (fLst (fCons (fOf (fC (.str "poly"))) (fCons (fPl 9) fNil)))) gNe)) (fTst (f2 (fOf (fCall m__law_wrong (fCons (fOf (fTup fNil)) fNil))) (fOf (fC (.str "zero"))) gNe))) (sRet (fC (.bool false))) sNil)
def gl_law_1 : FG := (gN 2)
def bl_law_1 : FS := (sSeq sb_law_1 (sSeq sb_law_2 (sSeq sb_law_3 (sSeq sb_law_4 (sSeq sb_law_5 (sSeq sb_law_6 sb_law_7))))))
def st_law_2 : FS := (sFor (fIR1 (fOf (fC (.int 3)))) gl_law_1 bl_law_1)
def st_law_3 : FS := (sRet (fC (.bool true)))
def g_law : FS := (sSeq st_law_1 (sSeq st_law_2 st_law_3))
end L3

namespace L3
open PySem PySem.Spec L2
theorem h_is_from : ∀ cs o, m_is_from cs = some o → ∃ n out, g_is_from n (startR 3 cs) = some out ∧ fin [true, true, true] out = some o := fun cs o h => by
  unfold m_is_from at h
  split at h
  · rename_i v lo hi
    cases h
    refine ⟨0, .rt (.b (isF v lo hi)) [some (.fz v), some (.i lo), some (.i hi)], ?_, rfl⟩
    cases v with
    | int x =>
      by_cases h1 : lo ≤ x <;> simp [g_is_from, startR, is_int, is_bool, isF, h1]
    | _ => simp [g_is_from, startR, is_int, is_bool, isF]
  · cases h
theorem chk_loop (v : D) (n : Nat) : ∀ (ds : List D) (k : Nat) (x y : Option Cl), ∃ x' y', forF gl_check_poly_1 bl_check_poly_1 n (enumD k ds) [some (.fz v), x, y] = some (match badAt k ds with
    | none => .nx [some (.fz v), x', y']
    | some j => .ex (bad (.int j)) [some (.fz v), x', y'])
  | [], k, x, y => ⟨x, y, rfl⟩
  | d :: ds, k, x, y => by
    by_cases h : isF d (-FAR) FAR = true
    · obtain ⟨x', y', e⟩ := chk_loop v n ds (k + 1) (some (.fz (.int (k : Nat)))) (some (.fz d))
      refine ⟨x', y', ?_⟩
      unfold badAt
      rw [if_pos h, ← e]
      unfold FAR at h
      simp [forF, enumD, gl_check_poly_1, bl_check_poly_1, m_is_from, h, FAR]
    · refine ⟨some (.fz (.int (k : Nat))), some (.fz d), ?_⟩
      unfold badAt
      rw [if_neg h]
      unfold FAR at h
      simp [forF, enumD, gl_check_poly_1, bl_check_poly_1, m_is_from, h, FAR, bad, mkFsD]
theorem badAt_none : ∀ (ds : List D) (k : Nat), badAt k ds = none → ∃ ns : List Int, ds = zs ns ∧ ∀ x ∈ ns, -1000000000 ≤ x ∧ x ≤ 1000000000
  | [], k, _ => ⟨[], rfl, fun x hx => by cases hx⟩
  | d :: ds, k, h => by
    unfold badAt at h
    split at h
    · rename_i hd
      obtain ⟨ns, e, q⟩ := badAt_none ds (k + 1) h
      cases d with
      | int x =>
        refine ⟨x :: ns, by rw [e]; rfl, fun y hy => ?_⟩
        rcases List.mem_cons.mp hy with r | hy
        · subst r
          unfold isF FAR at hd
          simpa using hd
        · exact q y hy
      | _ => cases hd
    · cases h
theorem h_check_poly : ∀ cs o, m_check_poly cs = some o → ∃ n out, g_check_poly n (startR 3 cs) = some out ∧ fin [true] out = some o := fun cs o h => by
  unfold m_check_poly at h
  split at h
  case h_2 => cases h
  rename_i v
  by_cases hv : is_tuple v = true
  case neg =>
    have e1 : chk v = some .none := by cases v <;> first | rfl | exact absurd rfl hv
    rw [e1] at h
    cases h
    exact ⟨0, .ex (bad .none) [some (.fz v), none, none], by simp [g_check_poly, startR, hv, bad, mkFsD], rfl⟩
  cases v with
  | tuple ds =>
    by_cases hl : 13 < ds.length
    · have e1 : chk (.tuple ds) = some .none := if_pos hl
      rw [e1] at h
      cases h
      have hl : (13 : Int) < (ds.length : Int) := by omega
      exact ⟨0, .ex (bad .none) [some (.fz (.tuple ds)), none, none], by simp [g_check_poly, startR, is_tuple, hl, bad, mkFsD], rfl⟩
    · obtain ⟨x', y', e⟩ := chk_loop (.tuple ds) 0 ds 0 none none
      unfold chk at h
      dsimp only at h
      rw [if_neg hl] at h
      cases q : badAt 0 ds with
      | some j =>
        rw [q] at h e
        cases h
        have hl : ¬ (13 : Int) < (ds.length : Int) := by omega
        refine ⟨0, .ex (bad (.int j)) [some (.fz (.tuple ds)), x', y'], ?_, rfl⟩
        simp [g_check_poly, startR, is_tuple, hl, asSeq, e]
      | none =>
        rw [q] at h e
        obtain ⟨ns, rfl, hb⟩ := badAt_none ds 0 q
        have hl : ¬ (13 : Int) < (ns.length : Int) := by rw [zs_len] at hl; omega
        by_cases h0 : ns = []
        · subst h0
          cases h
          exact ⟨0, .nx [some (T []), x', y'], by simp [g_check_poly, startR, is_tuple, hl, asSeq, e, T], rfl⟩
        · have el : (zs ns).getLast? = some (.int (ns.getLast h0)) := by
            show (ns.map PyData.int).getLast? = _
            rw [List.getLast?_map, List.getLast?_eq_getLast h0]; rfl
          have ea : atI (zs ns) (-1) = some (.int (ns.getLast h0)) := by rw [atI_neg1, List.getLast?_eq_getLast h0]; rfl
          have h1 : 1 ≤ ns.length := Nat.pos_of_ne_zero fun z => h0 (List.eq_nil_of_length_eq_zero z)
          dsimp only at h
          rw [el] at h
          by_cases hz : ns.getLast h0 = 0
          · rw [hz] at h ea
            cases h
            refine ⟨0, .ex (bad (.int ((zs ns).length - 1 : Nat))) [some (T ns), x', y'], ?_, rfl⟩
            simp [g_check_poly, startR, is_tuple, hl, asSeq, e, T, ea, h0, bad, mkFsD]
            omega
          · have h : some (Mo.ok (.fz .none) [some (.fz (.tuple (zs ns)))]) = some o := by
              rw [← h]
              split
              · rename_i i hi
                split at hi
                · rename_i z; exact absurd (PyData.int.inj (Option.some.inj z)) hz
                · cases hi
              · rfl
            cases h
            exact ⟨0, .nx [some (T ns), x', y'], by simp [g_check_poly, startR, is_tuple, hl, asSeq, e, T, ea, h0, hz], rfl⟩
  | _ => exact absurd hv (by simp [is_tuple])
/-! ### trim -/
theorem trim_snoc0 : ∀ xs : List Int, trim (xs ++ [0]) = trim xs
  | [] => rfl
  | x :: xs => by
    show (match trim (xs ++ [0]) with | [] => if x = 0 then [] else [x] | y :: ys => x :: y :: ys) = _
    rw [trim_snoc0 xs]; rfl
theorem trim_snoc {a : Int} (h : a ≠ 0) : ∀ xs : List Int, trim (xs ++ [a]) = xs ++ [a]
  | [] => by
    show (if a = 0 then [] else [a]) = [a]
    rw [if_neg h]
  | x :: xs => by
    show (match trim (xs ++ [a]) with | [] => if x = 0 then [] else [x] | y :: ys => x :: y :: ys) = _
    rw [trim_snoc h xs]
    cases xs <;> rfl
theorem trim_len : ∀ xs : List Int, (trim xs).length ≤ xs.length
  | [] => Nat.le_refl _
  | x :: xs => by
    have ih := trim_len xs
    show (match trim xs with | [] => if x = 0 then [] else [x] | y :: ys => x :: y :: ys).length ≤ _
    split
    · split <;> simp
    · rename_i y ys e
      rw [e] at ih
      simp only [List.length_cons] at ih ⊢
      omega
theorem trim_take : ∀ xs : List Int, xs.take (trim xs).length = trim xs
  | [] => rfl
  | x :: xs => by
    have ih := trim_take xs
    unfold trim
    split
    · split
      · rfl
      · rfl
    · rename_i y ys e
      rw [e] at ih
      show (x :: xs).take ((y :: ys).length + 1) = _
      rw [List.take_succ_cons, ih]
theorem cutD_take {α : Type} (xs : List α) (k : Nat) : cutD xs none (some (k : Int)) = xs.take k := by
  unfold cutD
  rw [HT.sIx_none, HT.sIx_nat, List.drop_zero, Nat.sub_zero]
  by_cases h : k ≤ xs.length
  · rw [Nat.min_eq_left h]
  · rw [Nat.min_eq_right (by omega), List.take_of_length_le (Nat.le_refl _), List.take_of_length_le (by omega)]
theorem cutD_drop {α : Type} (xs : List α) (k : Nat) : cutD xs (some (k : Int)) none = xs.drop k := by
  unfold cutD
  rw [HT.sIx_none, HT.sIx_nat]
  by_cases h : k ≤ xs.length
  · rw [Nat.min_eq_left h, List.take_of_length_le (by rw [List.length_drop]; omega)]
  · rw [Nat.min_eq_right (by omega), List.drop_of_length_le (Nat.le_refl _), List.drop_of_length_le (by omega), List.take_nil]
theorem trim_loop (ns : List Int) (n : Nat) : ∀ (k m : Nat), k ≤ ns.length → k < m → whF wt_trimmed_1 wb_trimmed_1 n m [some (.lst (zs ns)), some (.i k)] = some (.nx [some (.lst (zs ns)), some (.i (trim (ns.take k)).length)])
  | 0, m + 1, _, _ => wh_stop (by simp [wt_trimmed_1, trim])
  | k + 1, m + 1, h1, h2 => by
    have hx : ns[k]? = some ns[k] := List.getElem?_eq_getElem h1
    have ha : atI (zs ns) (k : Int) = some (.int ns[k]) := atI_zs hx
    have et : ns.take (k + 1) = ns.take k ++ [ns[k]] := by rw [List.take_add_one, hx]; rfl
    by_cases h0 : ns[k] = 0
    · rw [et, h0, trim_snoc0]
      rw [h0] at ha
      have ih := trim_loop ns n k m (by omega) (by omega)
      have e1 : (0 : Int) < (k : Int) + 1 := by omega
      rw [wh_step (ρ1 := [some (.lst (zs ns)), some (.i (k + 1 : Nat))]) (ρ2 := [some (.lst (zs ns)), some (.i k)]) (by simp [wt_trimmed_1, ha, e1]) (by simp [wb_trimmed_1, gIp]), ih]
    · rw [et, trim_snoc h0]
      have e1 : (0 : Int) < (k : Int) + 1 := by omega
      rw [wh_stop (ρ1 := [some (.lst (zs ns)), some (.i (k + 1 : Nat))]) (by simp [wt_trimmed_1, ha, h0, e1])]
      rw [List.length_append, List.length_take, Nat.min_eq_left (by omega)]
      rfl
theorem h_trimmed : ∀ cs o, m_trimmed cs = some o → ∃ n out, g_trimmed n (startR 2 cs) = some out ∧ fin [true] out = some o := fun cs o h => by
  unfold m_trimmed at h
  split at h
  case h_2 => cases h
  rename_i ds
  cases q : intsD ds with
  | none => rw [q] at h; cases h
  | some ns =>
    rw [q] at h
    cases h
    cases zs_of q
    have e := trim_loop ns (ns.length + 1) ns.length (ns.length + 1) (Nat.le_refl _) (by omega)
    rw [List.take_length] at e
    refine ⟨ns.length + 1, .rt (T (trim ns)) [some (.lst (zs ns)), some (.i (trim ns).length)], ?_, rfl⟩
    have e2 : cutD (zs ns) none (some ((trim ns).length : Int)) = zs (trim ns) := by
      rw [cutD_take]
      unfold zs
      rw [← List.map_take, trim_take]
    simp [g_trimmed, startR, e, gSl, asO, e2, T]
theorem tupI_of {c : Cl} {ns : List Int} (h : tupI c = some ns) : c = T ns := by
  unfold tupI at h
  split at h
  · rename_i ds
    cases zs_of h
    rfl
  · cases h
theorem cf_get {ns : List Int} {k : Nat} (h : k < ns.length) : ns[k]? = some (cf ns k) := by
  unfold cf
  rw [List.getElem?_eq_getElem h]; rfl
theorem bump_len (f : List Int) (k : Nat) (x : Int) : (bump f k x).length = f.length := by unfold bump; rw [List.length_set]
theorem mulRow_len (i : Nat) (x : Int) : ∀ (ys : List Int) (j : Nat) (f : List Int), (mulRow f i x j ys).length = f.length
  | [], _, _ => rfl
  | y :: ys, j, f => by
    show (mulRow (bump f (i + j) (x * y)) i x (j + 1) ys).length = _
    rw [mulRow_len i x ys, bump_len]
theorem zs_set (ns : List Int) (k : Nat) (x : Int) : (zs ns).set k (.int x) = zs (ns.set k x) := by
  unfold zs
  rw [List.map_set]
theorem small_of {ns : List Int} (h : small ns = true) : ns.length ≤ 1000 ∧ ∀ x ∈ ns, x.natAbs < 2 ^ 64 := by
  unfold small at h
  rw [Bool.and_eq_true] at h
  exact ⟨of_decide_eq_true h.1, fun x hx => of_decide_eq_true (List.all_eq_true.mp h.2 x hx)⟩
theorem plus_lc (c0 c1 c2 c3 c4 : Option Cl) (n : Nat) : ∀ (x y : List Int) (acc : List D), lcF 7 cg_plus_of_1 fYes ce_plus_of_1 [5, 6] n (zipD (zs x) (zs y)) [c0, c1, c2, c3, c4, none, none] acc = some (.ok (.lst (acc ++ zs (List.zipWith (· + ·) x y))) [c0, c1, c2, c3, c4, none, none])
  | [], y, acc => by
    show some (Rz.ok (Cl.lst acc) _) = some (Rz.ok (Cl.lst (acc ++ [])) _)
    rw [List.append_nil]
  | x :: xs, [], acc => by
    show some (Rz.ok (Cl.lst acc) _) = some (Rz.ok (Cl.lst (acc ++ [])) _)
    rw [List.append_nil]
  | x :: xs, y :: ys, acc => by
    rw [show zipD (zs (x :: xs)) (zs (y :: ys)) = .tuple [.int x, .int y] :: zipD (zs xs) (zs ys) from rfl]
    rw [lc_step (ρ2 := [c0, c1, c2, c3, c4, some (.i x), some (.i y)]) (y := .int (x + y)) (ρ4 := [c0, c1, c2, c3, c4, some (.i x), some (.i y)]) (ρ5 := [c0, c1, c2, c3, c4, none, none]) (by simp [cg_plus_of_1]) (by rfl) (by simp [ce_plus_of_1]) (by rfl), plus_lc c0 c1 c2 c3 c4 n xs ys, List.append_assoc]
    rfl
theorem zw_pad (a b : List Int) : List.zipWith (· + ·) (a ++ List.replicate (max a.length b.length - a.length) 0) (b ++ List.replicate (max a.length b.length - b.length) 0) = addL a b := by
  refine List.ext_getElem? fun k => ?_
  have key : ∀ c : List Int, ∀ m : Nat, (c ++ List.replicate (m - c.length) (0 : Int))[k]? = if k < max c.length m then some (cf c k) else none := fun c m => by
    unfold cf
    by_cases h : k < c.length
    · rw [List.getElem?_append_left h, if_pos (by omega), List.getElem?_eq_getElem h]; rfl
    · rw [List.getElem?_append_right (by omega), List.getElem?_replicate, List.getElem?_eq_none (by omega)]
      by_cases h2 : k < m
      · rw [if_pos (by omega), if_pos (by omega)]; rfl
      · rw [if_neg (by omega), if_neg (by omega)]
  rw [List.getElem?_zipWith, key, key]
  unfold addL
  rw [List.getElem?_map]
  by_cases h : k < max a.length b.length
  · rw [if_pos (by omega), if_pos (by omega), List.getElem?_range h]; rfl
  · rw [if_neg (by omega), List.getElem?_eq_none (by rw [List.length_range]; omega)]; rfl
theorem h_plus_of : ∀ cs o, m_plus_of cs = some o → ∃ n out, g_plus_of n (startR 7 cs) = some out ∧ fin [true, true] out = some o := fun cs o h => by
  unfold m_plus_of at h
  split at h
  case h_2 => cases h
  rename_i ca cb
  split at h
  case h_2 => cases h
  rename_i a b ea eb
  cases tupI_of ea
  cases tupI_of eb
  split at h
  case isFalse => cases h
  rename_i hs
  rw [Bool.and_eq_true] at hs
  have ha : a.length ≤ 1000 := Nat.le_of_ble_eq_true hs.1
  have hb : b.length ≤ 1000 := Nat.le_of_ble_eq_true hs.2
  cases h
  have e1 := e_gRep (x := 0) (k := (max (a.length : Int) b.length) - a.length) (by omega) (by omega)
  have e2 := e_gRep (x := 0) (k := (max (a.length : Int) b.length) - b.length) (by omega) (by omega)
  have t1 : ((max (a.length : Int) b.length) - a.length).toNat = max a.length b.length - a.length := by omega
  have t2 : ((max (a.length : Int) b.length) - b.length).toNat = max a.length b.length - b.length := by omega
  rw [t1] at e1
  rw [t2] at e2
  have l1 : lsz (a.length + (max a.length b.length - a.length)) = true := decide_eq_true (by omega)
  have l2 : lsz (b.length + (max a.length b.length - b.length)) = true := decide_eq_true (by omega)
  have e3 := plus_lc (some (T a)) (some (T b)) (some (.i (max (a.length : Int) b.length))) (some (.fz (.list (zs (a ++ List.replicate (max a.length b.length - a.length) 0))))) (some (.fz (.list (zs (b ++ List.replicate (max a.length b.length - b.length) 0))))) 0 (a ++ List.replicate (max a.length b.length - a.length) 0) (b ++ List.replicate (max a.length b.length - b.length) 0) []
  rw [zw_pad, List.nil_append] at e3
  have lz : (zipD (zs (a ++ List.replicate (max a.length b.length - a.length) 0)) (zs (b ++ List.replicate (max a.length b.length - b.length) 0))).length ≤ 1000000 := by
    rw [zipD_len, zs_len, List.length_append, List.length_replicate]
    omega
  refine ⟨0, .rt (T (trim (addL a b))) [some (T a), some (T b), some (.i (max (a.length : Int) b.length)), some (.fz (.list (zs (a ++ List.replicate (max a.length b.length - a.length) 0)))), some (.fz (.list (zs (b ++ List.replicate (max a.length b.length - b.length) 0)))), none, none], ?_, rfl⟩
  simp [g_plus_of, startR, e1, e2, l1, l2, asSeq, m_trimmed, ← zs_app, wipR, lz, e3]
theorem e_gMulB {i j : Int} (h : mulBad i j = false) : gMul [.fz (.int i), .fz (.int j)] = some (.fz (.int (i * j))) := by
  show (if mulBad i j = true then none else some (Cl.fz (.int (i * j)))) = _
  rw [h]; rfl
theorem mOk_of {a b : List Int} (h : mOk a b = true) : ∀ x ∈ a, ∀ y ∈ b, mulBad x y = false := fun x hx y hy => by
  have := List.all_eq_true.mp (List.all_eq_true.mp h x hx) y hy
  simpa using this
theorem mOk_mk {a b : List Int} (h : ∀ x ∈ a, ∀ y ∈ b, mulBad x y = false) : mOk a b = true :=
  List.all_eq_true.mpr fun x hx => List.all_eq_true.mpr fun y hy => by rw [h x hx y hy]; rfl
theorem scaled_lc (A : Option Cl) (k : Int) (n : Nat) : ∀ (xs : List Int) (acc : List D), (∀ x ∈ xs, mulBad k x = false) → lcF 3 cg_scaled_1 fYes ce_scaled_1 [2] n (zs xs) [A, some (.i k), none] acc = some (.ok (.lst (acc ++ zs (xs.map fun x => k * x))) [A, some (.i k), none])
  | [], acc, _ => by
    show some (Rz.ok (Cl.lst acc) _) = some (Rz.ok (Cl.lst (acc ++ [])) _)
    rw [List.append_nil]
  | x :: xs, acc, h => by
    rw [zs_cons, lc_step (ρ2 := [A, some (.i k), some (.i x)]) (y := .int (k * x)) (ρ4 := [A, some (.i k), some (.i x)]) (ρ5 := [A, some (.i k), none]) (by simp [cg_scaled_1]) (by rfl) (by simp [ce_scaled_1, e_gMulB (h x List.mem_cons_self)]) (by rfl), scaled_lc A k n xs _ (fun y hy => h y (List.mem_cons_of_mem _ hy)), List.append_assoc]
    rfl
theorem h_scaled : ∀ cs o, m_scaled cs = some o → ∃ n out, g_scaled n (startR 3 cs) = some out ∧ fin [true, true] out = some o := fun cs o h => by
  unfold m_scaled at h
  split at h
  case h_2 => cases h
  rename_i ca k
  split at h
  case h_2 => cases h
  rename_i a ea
  cases tupI_of ea
  split at h
  case isFalse => cases h
  rename_i hs
  rw [Bool.and_eq_true] at hs
  have ha : a.length ≤ 1000 := Nat.le_of_ble_eq_true hs.1
  cases h
  have e1 := scaled_lc (some (T a)) k 0 a [] (fun x hx => mOk_of hs.2 k List.mem_cons_self x hx)
  have lz : (zs a).length ≤ 1000000 := by rw [zs_len]; omega
  have lz' : a.length ≤ 1000000 := by omega
  refine ⟨0, .rt (T (scL a k)) [some (T a), some (.i k), none], ?_, rfl⟩
  simp [g_scaled, startR, asSeq, wipR, lz', e1, m_trimmed, scL]
theorem fmod_nat (a b : Nat) : Int.fmod (a : Int) (b : Int) = ((a % b : Nat) : Int) := by
  rw [Int.fmod_eq_emod_of_nonneg _ (by omega)]
  rfl
theorem rngD_succ (lo : Int) (n : Nat) : rngD lo (n + 1) = .int lo :: rngD (lo + 1) n := by
  unfold rngD
  rw [List.range_succ_eq_map, List.map_cons, List.map_map]
  congr 1
  · rw [Int.natCast_zero, Int.add_zero]
  · refine List.map_congr_left fun i _ => ?_
    show PyData.int (lo + ((i + 1 : Nat) : Int)) = PyData.int (lo + 1 + (i : Int))
    congr 1
    omega
theorem rngD_zero (lo : Int) : rngD lo 0 = [] := rfl
theorem rngD_len (lo : Int) (n : Nat) : (rngD lo n).length = n := by
  unfold rngD
  rw [List.length_map, List.length_range]
theorem h__law_draws : ∀ cs o, m__law_draws cs = some o → ∃ n out, g__law_draws n (startR 1 cs) = some out ∧ fin [true] out = some o := fun cs o h => by
  unfold m__law_draws at h
  split at h
  case h_2 => cases h
  rename_i ds
  cases q : intsD ds with
  | none => rw [q] at h; cases h
  | some ns =>
    rw [q] at h
    cases h
    cases zs_of q
    exact ⟨0, .rt (.lst (Rw.ds ⟨ns, 0, 0, 7⟩)) [some (.fz (.list (zs ns)))], by simp [g__law_draws, startR, Rw.ds], rfl⟩
theorem rw_of {ds : List D} {x : Rw} (h : Rw.of ds = some x) : ds = x.ds := by
  unfold Rw.of at h
  split at h
  · rename_i s p b r
    split at h
    · rename_i ns q
      split at h
      · rename_i hp
        cases h
        cases zs_of q
        unfold Rw.ds
        rw [Int.toNat_of_nonneg hp]
      · cases h
    · cases h
  · cases h
theorem of_rw (x : Rw) : Rw.of x.ds = some x := by
  unfold Rw.of Rw.ds
  simp [intsD_zs]
theorem pow18 : gPow [.fz (.int 10), .fz (.int 18)] = some (.fz (.int 1000000000000000000)) := by rfl
theorem fm_pos (a : Int) {b : Int} (h : 0 < b) : 0 ≤ a.fmod b ∧ a.fmod b < b := ⟨Int.fmod_nonneg_of_pos a h, Int.fmod_lt_of_pos a h⟩
def pickHd : FS := (sIf (fTst (f2 (fOf (f2 (fPl 0) (fOf (fC (.int 2))) gIx)) (fOf (fC (.int 0))) gEq)) (sIf (fTst (f2 (fOf (f2 (fPl 0) (fOf (fC (.int 1))) gIx)) (fOf (fPr (fCons (fOf (f2 (fPl 0) (fOf (fC (.int 0))) gIx)) fNil) gLenA)) (gI fun i j => decide (i < j)))) (sSeq (sSet 2 (f2 (fOf (f2 (fPl 0) (fOf (fC (.int 0))) gIx)) (fOf (f2 (fPl 0) (fOf (fC (.int 1))) gIx)) gIx)) (sSeq (sSetIx 0 (fOf (f2 (fOf (f2 (fPl 0) (fOf (fC (.int 1))) gIx)) (fOf (fC (.int 1))) gAdd)) (fOf (fC (.int 1)))) (sIf (fTst (f2 (fPl 2) (fOf (f2 (fOf (fC (.int 10))) (fOf (fC (.int 18))) gPow)) (gI fun i j => decide (j ≤ i)))) (sSetIx 0 (fPl 2) (fOf (fC (.int 2)))) (sSetIx 0 (fOf (f2 (fOf (fPr (fCons (fOf (f2 (fOf (f2 (fOf (f2 (fOf (f2 (fPl 0) (fOf (fC (.int 3))) gIx)) (fOf (fC (.int 48271))) gMul)) (fOf (f2 (fPl 2) (fOf (fC (.int 69621))) gMul)) gAdd)) (fOf (fC (.int 11))) gAdd)) fNil) gInt)) (fOf (fC (.int 2147483647))) gMod)) (fOf (fC (.int 3))))))) (sSetIx 0 (fOf (f2 (fOf (fPr (fCons (fOf (f2 (fOf (f2 (fOf (f2 (fPl 0) (fOf (fC (.int 3))) gIx)) (fOf (fC (.int 48271))) gMul)) (fOf (fC (.int 7))) gAdd)) fNil) gInt)) (fOf (fC (.int 2147483647))) gMod)) (fOf (fC (.int 3))))) sNil)
def pickTl : FS := (sSeq (sIf (fTst (f2 (fOf (f2 (fPl 0) (fOf (fC (.int 2))) gIx)) (fOf (fC (.int 0))) (gI fun i j => decide (j < i)))) (sSeq (sSet 3 (f2 (fOf (fPr (fCons (fOf (f2 (fPl 0) (fOf (fC (.int 2))) gIx)) fNil) gInt)) (fPl 1) gMod)) (sSeq (sSetIx 0 (fOf (f2 (fOf (f2 (fPl 0) (fOf (fC (.int 2))) gIx)) (fPl 1) gFdiv)) (fOf (fC (.int 2)))) (sRet (fMv 3)))) sNil) (sRet (f2 (fOf (f2 (fOf (fPr (fCons (fOf (f2 (fOf (f2 (fPl 0) (fOf (fC (.int 3))) gIx)) (fOf (fC (.int 16807))) gMul)) fNil) gInt)) (fOf (fC (.int 2147483629))) gMod)) (fPl 1) gMod)))
theorem pick_eq : g__law_pick = sSeq pickHd pickTl := rfl
theorem pick_tail (x : Rw) (many : Int) (h1 : 0 < many) (h2 : many < 2 ^ 64) (c2 c3 : Option Cl) (n : Nat) :
    ∃ c2' c3', pickTl n [some (.lst x.ds), some (.i many), c2, c3] = some (if 0 < x.b then .rt (.i (x.b.fmod many)) [some (.lst { x with b := x.b.fdiv many }.ds), some (.i many), c2', c3'] else .rt (.i (((x.r * 16807).fmod 2147483629).fmod many)) [some (.lst x.ds), some (.i many), c2', c3']) := by
  have e0 : many ≠ 0 := by omega
  have e1 := e_gModI (i := x.b) (j := many) e0
  have e2 := e_gFdivS (i := x.b) (j := many) e0 (by omega)
  have e3 := e_gMulI (i := x.r) (j := 16807) (.inr (by decide))
  have e4 := e_gModI (i := x.r * 16807) (j := 2147483629) (by decide)
  have e5 := e_gModI (i := (x.r * 16807).fmod 2147483629) (j := many) e0
  have a2 : atI x.ds 2 = some (.int x.b) := rfl
  have a3 : atI x.ds 3 = some (.int x.r) := rfl
  have i2 : ixN x.ds.length 2 = some 2 := rfl
  have s2 : ∀ v : Int, x.ds.set 2 (.int v) = ({ x with b := v } : Rw).ds := fun _ => rfl
  by_cases hb : 0 < x.b
  · refine ⟨c2, none, ?_⟩
    rw [if_pos hb]
    simp [pickTl, a2, hb, e1, e2, setIx, i2, s2]
  · refine ⟨c2, c3, ?_⟩
    rw [if_neg hb]
    simp [pickTl, a2, a3, hb, e3, e4, e5]
theorem rw_a0 (x : Rw) : atI x.ds 0 = some (.list (zs x.s)) := rfl
theorem rw_a1 (x : Rw) : atI x.ds 1 = some (.int x.p) := rfl
theorem rw_a2 (x : Rw) : atI x.ds 2 = some (.int x.b) := rfl
theorem rw_a3 (x : Rw) : atI x.ds 3 = some (.int x.r) := rfl
theorem rw_i1 (x : Rw) : ixN x.ds.length 1 = some 1 := rfl
theorem rw_i2 (x : Rw) : ixN x.ds.length 2 = some 2 := rfl
theorem rw_i3 (x : Rw) : ixN x.ds.length 3 = some 3 := rfl
theorem rw_s1 (x : Rw) : x.ds.set 1 (.int ((x.p : Int) + 1)) = (⟨x.s, x.p + 1, x.b, x.r⟩ : Rw).ds := rfl
theorem rw_s2 (x : Rw) (v : Int) : x.ds.set 2 (.int v) = (⟨x.s, x.p, v, x.r⟩ : Rw).ds := rfl
theorem rw_s3 (x : Rw) (v : Int) : x.ds.set 3 (.int v) = (⟨x.s, x.p, x.b, v⟩ : Rw).ds := rfl
theorem pick_head (x : Rw) (m : Option Cl) (n : Nat) : ∃ c2, pickHd n [some (.lst x.ds), m, none, none] = some (.nx [some (.lst x.next.ds), m, c2, none]) := by
  have e3 := e_gMulI (i := x.r) (j := 48271) (.inr (by decide))
  unfold Rw.next
  by_cases hb : x.b = 0
  · rw [if_pos hb]
    cases hs : x.s[x.p]? with
    | some c =>
      have hp : x.p < x.s.length := (List.getElem?_eq_some_iff.mp hs).1
      have hp' : (x.p : Int) < (x.s.length : Int) := by omega
      have ac : atI (zs x.s) (x.p : Int) = some (.int c) := atI_zs hs
      have e4 := e_gMulI (i := c) (j := 69621) (.inr (by decide))
      have e5 := e_gModI (i := x.r * 48271 + c * 69621 + 11) (j := 2147483647) (by decide)
      refine ⟨some (.i c), ?_⟩
      by_cases hc : (10 : Int) ^ 18 ≤ c
      · have hc' : (1000000000000000000 : Int) ≤ c := hc
        dsimp only
        rw [if_pos hc]
        simp [pickHd, rw_a0, rw_a1, rw_a2, hb, hp', ac, pow18, hc', setIx, rw_i1, rw_s1, rw_i2, rw_s2]
      · have hc' : ¬ (1000000000000000000 : Int) ≤ c := hc
        dsimp only
        rw [if_neg hc]
        simp [pickHd, rw_a0, rw_a1, rw_a2, rw_a3, hb, hp', ac, pow18, hc', setIx, rw_i1, rw_s1, e3, e4, e5, rw_i3, rw_s3]
    | none =>
      have hp : x.s.length ≤ x.p := List.getElem?_eq_none_iff.mp hs
      have hp' : ¬ (x.p : Int) < (x.s.length : Int) := by omega
      have e5 := e_gModI (i := x.r * 48271 + 7) (j := 2147483647) (by decide)
      refine ⟨none, ?_⟩
      simp [pickHd, rw_a0, rw_a1, rw_a2, rw_a3, hb, hp', e3, e5, setIx, rw_i3, rw_s3]
  · rw [if_neg hb]
    refine ⟨none, ?_⟩
    simp [pickHd, rw_a2, hb]
theorem h__law_pick : ∀ cs o, m__law_pick cs = some o → ∃ n out, g__law_pick n (startR 4 cs) = some out ∧ fin [true, true] out = some o := fun cs o h => by
  unfold m__law_pick at h
  split at h
  case h_2 => cases h
  rename_i ds many
  cases q : Rw.of ds with
  | none => rw [q] at h; cases h
  | some x =>
    rw [q] at h
    cases rw_of q
    dsimp only at h
    split at h
    case isFalse => cases h
    rename_i hm
    cases h
    obtain ⟨c2, e1⟩ := pick_head x (some (.i many)) 0
    obtain ⟨c2', c3', e2⟩ := pick_tail x.next many hm.1 hm.2 c2 none 0
    refine ⟨0, if 0 < x.next.b then .rt (.i (x.next.b.fmod many)) [some (.lst { x.next with b := x.next.b.fdiv many }.ds), some (.i many), c2', c3'] else .rt (.i (((x.next.r * 16807).fmod 2147483629).fmod many)) [some (.lst x.next.ds), some (.i many), c2', c3'], ?_, ?_⟩
    · show g__law_pick 0 [some (.lst x.ds), some (.i many), none, none] = _
      rw [pick_eq, e_sSeq, e1]
      exact e2
    · unfold Rw.pick
      split <;> rfl
theorem lstI_of {c : Cl} {ns : List Int} (h : lstI c = some ns) : c = .lst (zs ns) := by
  unfold lstI at h
  split at h
  · rename_i ds
    cases zs_of h
    rfl
  · cases h
theorem cutD_neg1 {α : Type} (xs : List α) : cutD xs none (some (-1)) = xs.dropLast := by
  unfold cutD
  rw [HT.sIx_none, List.drop_zero, Nat.sub_zero]
  have e : HT.sIx xs.length xs.length (some (-1)) = xs.length - 1 := by
    unfold HT.sIx
    dsimp only
    rw [if_pos (by decide)]
    omega
  rw [e, List.dropLast_eq_take]
theorem zs_dropLast (ns : List Int) : (zs ns).dropLast = zs ns.dropLast := by
  unfold zs
  rw [List.map_dropLast]
theorem end_stay (C : Option Cl) (n : Nat) {f : List Int} {x : Int} (h : f.getLast? = some x) (hx : x ≠ 0) : ∀ (ds : List Int) (p : Option Cl), ∃ p', forF gl__law_end_1 bl__law_end_1 n (zs ds) [C, some (.lst (zs f)), p] = some (.nx [C, some (.lst (zs f)), p'])
  | [], p => ⟨p, rfl⟩
  | d :: ds, p => by
    obtain ⟨p', e⟩ := end_stay C n h hx ds (some (.i d))
    refine ⟨p', ?_⟩
    have ha : atI (zs f) (-1) = some (.int x) := by rw [atI_neg1, h]; rfl
    have h0 : f ≠ [] := fun z => by rw [z] at h; cases h
    rw [zs_cons, for_step (ρ1 := [C, some (.lst (zs f)), some (.i d)]) (ρ2 := [C, some (.lst (zs f)), some (.i d)]) (by simp [gl__law_end_1]) (by simp [bl__law_end_1, ha, hx, h0]), e]
theorem end_loop (C : Option Cl) (n : Nat) : ∀ (ds : List Int) (f : List Int) (p : Option Cl), f ≠ [] → f.length ≤ ds.length → ∃ p', forF gl__law_end_1 bl__law_end_1 n (zs ds) [C, some (.lst (zs f)), p] = some (if trim f = [] then .rt (T []) [C, some (.lst []), p'] else .nx [C, some (.lst (zs (trim f))), p'])
  | [], f, p, h0, hl => absurd (List.eq_nil_of_length_eq_zero (Nat.le_zero.mp hl)) h0
  | d :: ds, f, p, h0, hl => by
    have ef : f.dropLast ++ [f.getLast h0] = f := List.dropLast_concat_getLast h0
    have hg : f.getLast? = some (f.getLast h0) := List.getLast?_eq_getLast h0
    have ha : atI (zs f) (-1) = some (.int (f.getLast h0)) := by rw [atI_neg1, hg]; rfl
    by_cases hz : f.getLast h0 = 0
    · have et : trim f = trim f.dropLast := by
        rw [← ef, hz, trim_snoc0, ← hz, ef]
      rw [hz] at ha
      have ec : cutD (zs f) none (some (-1)) = zs f.dropLast := by rw [cutD_neg1, zs_dropLast]
      by_cases h1 : f.dropLast = []
      · refine ⟨some (.i d), ?_⟩
        rw [et, h1, if_pos (show trim [] = [] from rfl)]
        have b1 : gl__law_end_1 (.int d) [C, some (.lst (zs f)), p] = some [C, some (.lst (zs f)), some (.i d)] := by simp [gl__law_end_1]
        rw [h1] at ec
        exact for_rt b1 (by simp [bl__law_end_1, ha, gSl, ec, zs_nil])
      · obtain ⟨p', e⟩ := end_loop C n ds f.dropLast (some (.i d)) h1 (by rw [List.length_dropLast]; have : (d :: ds).length = ds.length + 1 := rfl; omega)
        refine ⟨p', ?_⟩
        rw [et, ← e, zs_cons]
        exact for_step (ρ1 := [C, some (.lst (zs f)), some (.i d)]) (by simp [gl__law_end_1]) (by simp [bl__law_end_1, ha, gSl, ec, h1])
    · obtain ⟨p', e⟩ := end_stay C n hg hz (d :: ds) p
      refine ⟨p', ?_⟩
      have et : trim f = f := by rw [← ef, trim_snoc hz]
      rw [e, et, if_neg h0]
theorem smI0 : smI 0 = true := by rfl
theorem h__law_end : ∀ cs o, m__law_end cs = some o → ∃ n out, g__law_end n (startR 3 cs) = some out ∧ fin [true] out = some o := fun cs o h => by
  unfold m__law_end at h
  split at h
  case h_2 => cases h
  rename_i c
  split at h
  case h_2 => cases h
  rename_i ns e
  cases lstI_of e
  split at h
  case isFalse => cases h
  rename_i hl
  cases h
  have hs : smI (ns.length : Int) = true := smI_nat hl
  by_cases h0 : ns = []
  · subst h0
    exact ⟨0, .rt (T []) [some (.lst []), some (.lst []), none], by simp [g__law_end, startR, zs_nil, smI0, rngD, forF], rfl⟩
  · have er : rngD 0 ns.length = zs ((List.range ns.length).map fun (i : Nat) => (0 + (i : Int))) := by
      unfold rngD zs
      rw [List.map_map]; rfl
    obtain ⟨p', e1⟩ := end_loop (some (.lst (zs ns))) 0 ((List.range ns.length).map fun (i : Nat) => (0 + (i : Int))) ns none h0 (by rw [List.length_map, List.length_range]; exact Nat.le_refl _)
    rw [← er] at e1
    by_cases ht : trim ns = []
    · rw [if_pos ht] at e1
      refine ⟨0, .rt (T []) [some (.lst (zs ns)), some (.lst []), p'], ?_, by rw [ht]; rfl⟩
      simp [g__law_end, startR, hs, e1]
    · rw [if_neg ht] at e1
      refine ⟨0, .rt (T (trim ns)) [some (.lst (zs ns)), some (.lst (zs (trim ns))), p'], ?_, rfl⟩
      simp [g__law_end, startR, hs, e1]
theorem m_end_ok {ns : List Int} (h : ns.length ≤ 1000000) : m__law_end [.lst (zs ns)] = some (.ok (T (trim ns)) [some (.lst (zs ns))]) := by
  show (match intsD (zs ns) with
    | some ns' => if ns'.length ≤ 1000000 then some (Mo.ok (T (trim ns')) [some (.lst (zs ns))]) else none
    | none => none) = _
  rw [intsD_zs]
  exact if_pos h
theorem mul_row (a : List Int) (n k : Nat) (hk : k < a.length) (b : List Int) (hx : ∀ y ∈ b, mulBad (cf a k) y = false) : ∀ (m j : Nat) (f : List Int) (p : Option Cl), j + m = b.length → k + b.length ≤ f.length → ∃ p', forF gl__law_mul_1 bl__law_mul_1 n (rngD j m) [some (T a), some (T b), some (.lst (zs f)), some (.i k), p] = some (.nx [some (T a), some (T b), some (.lst (zs (mulRow f k (cf a k) j (b.drop j)))), some (.i k), p'])
  | 0, j, f, p, h, _ => ⟨p, by
    rw [List.drop_of_length_le (by omega)]; rfl⟩
  | m + 1, j, f, p, h, hf => by
    obtain ⟨p', e⟩ := mul_row a n k hk b hx m (j + 1) (bump f (k + j) (cf a k * cf b j)) (some (.i j)) (by omega) (by rw [bump_len]; omega)
    refine ⟨p', ?_⟩
    have hj : j < b.length := by omega
    have ed : b.drop j = cf b j :: b.drop (j + 1) := by
      rw [List.drop_eq_getElem_cons hj]
      congr 1
      unfold cf
      rw [List.getElem?_eq_getElem hj]; rfl
    have ha : atI (zs f) ((k : Int) + (j : Int)) = some (.int (cf f (k + j))) := by
      rw [← Int.natCast_add]
      exact atI_zs (cf_get (by omega))
    have hi : ixN f.length ((k : Int) + (j : Int)) = some (k + j) := by
      rw [← Int.natCast_add]
      exact ixN_nat (by omega)
    have hak := atI_zs (cf_get hk)
    have hbj := atI_zs (cf_get hj)
    rw [rngD_succ, ed]
    rw [for_step (ρ1 := [some (T a), some (T b), some (.lst (zs f)), some (.i k), some (.i j)]) (ρ2 := [some (T a), some (T b), some (.lst (zs (bump f (k + j) (cf a k * cf b j)))), some (.i k), some (.i j)]) (by simp [gl__law_mul_1]) (by simp [bl__law_mul_1, setIx, ha, hi, hak, hbj, e_gMulB (hx _ (List.mem_of_getElem? (cf_get hj))), zs_set, bump])]
    rw [show ((j : Int) + 1) = ((j + 1 : Nat) : Int) from by omega, e]
    rfl
theorem mulAll_len (b : List Int) : ∀ (xs : List Int) (i : Nat) (f : List Int), (mulAll f b i xs).length = f.length
  | [], _, _ => rfl
  | x :: xs, i, f => by
    show (mulAll (mulRow f i x 0 b) b (i + 1) xs).length = _
    rw [mulAll_len b xs, mulRow_len]
theorem mul_loop (a b : List Int) (n : Nat) (hb : b.length ≤ 1000) (hx : mOk a b = true) : ∀ (m k : Nat) (f : List Int) (p q : Option Cl), k + m = a.length → a.length + b.length ≤ f.length + 1 → ∃ p' q', forF gl__law_mul_2 bl__law_mul_2 n (rngD k m) [some (T a), some (T b), some (.lst (zs f)), p, q] = some (.nx [some (T a), some (T b), some (.lst (zs (mulAll f b k (a.drop k)))), p', q'])
  | 0, k, f, p, q, h, _ => ⟨p, q, by
    rw [List.drop_of_length_le (by omega)]; rfl⟩
  | m + 1, k, f, p, q, h, hf => by
    have hk : k < a.length := by omega
    have ed : a.drop k = cf a k :: a.drop (k + 1) := by
      rw [List.drop_eq_getElem_cons hk]
      congr 1
      unfold cf
      rw [List.getElem?_eq_getElem hk]; rfl
    have hxk : ∀ y ∈ b, mulBad (cf a k) y = false := fun y hy => mOk_of hx _ (List.mem_of_getElem? (cf_get hk)) y hy
    obtain ⟨q1, e1⟩ := mul_row a n k hk b hxk b.length 0 f q (by omega) (by omega)
    obtain ⟨p', q', e⟩ := mul_loop a b n hb hx m (k + 1) (mulRow f k (cf a k) 0 b) (some (.i k)) q1 (by omega) (by rw [mulRow_len]; omega)
    refine ⟨p', q', ?_⟩
    rw [rngD_succ, ed]
    have e1 : forF gl__law_mul_1 bl__law_mul_1 n (rngD 0 b.length) [some (T a), some (T b), some (.lst (zs f)), some (.i k), q] = _ := e1
    rw [for_step (ρ1 := [some (T a), some (T b), some (.lst (zs f)), some (.i k), q]) (ρ2 := [some (T a), some (T b), some (.lst (zs (mulRow f k (cf a k) 0 b))), some (.i k), q1]) (by simp [gl__law_mul_2]) (by simp [bl__law_mul_2, smI_nat (n := b.length) (by omega), e1])]
    rw [show ((k : Int) + 1) = ((k + 1 : Nat) : Int) from by omega, e]
    rfl
theorem h__law_mul : ∀ cs o, m__law_mul cs = some o → ∃ n out, g__law_mul n (startR 5 cs) = some out ∧ fin [true, true] out = some o := fun cs o h => by
  unfold m__law_mul at h
  split at h
  case h_2 => cases h
  rename_i ca cb
  split at h
  case h_2 => cases h
  rename_i a b ea eb
  cases tupI_of ea
  cases tupI_of eb
  split at h
  case isFalse => cases h
  rename_i hs
  rw [Bool.and_eq_true, Bool.and_eq_true] at hs
  have ha : a.length ≤ 1000 := Nat.le_of_ble_eq_true hs.1.1
  have hb : b.length ≤ 1000 := Nat.le_of_ble_eq_true hs.1.2
  have hax := hs.2
  cases h
  have e1 := e_gRep (x := 0) (k := (a.length : Int) + b.length + 1) (by omega) (by omega)
  rw [show ((a.length : Int) + b.length + 1).toNat = a.length + b.length + 1 by omega] at e1
  obtain ⟨p, q, e2⟩ := mul_loop a b 0 hb hax a.length 0 (List.replicate (a.length + b.length + 1) 0) none none (by omega) (by rw [List.length_replicate]; omega)
  have e2 : forF gl__law_mul_2 bl__law_mul_2 0 (rngD 0 a.length) [some (T a), some (T b), some (.lst (zs (List.replicate (a.length + b.length + 1) 0))), none, none] = _ := e2
  have l2 : (mulAll (List.replicate (a.length + b.length + 1) 0) b 0 a).length ≤ 1000000 := by rw [mulAll_len, List.length_replicate]; omega
  refine ⟨0, .rt (T (lmul a b)) [some (T a), some (T b), some (.lst (zs (mulAll (List.replicate (a.length + b.length + 1) 0) b 0 a))), p, q], ?_, rfl⟩
  simp [g__law_mul, startR, smI_nat (n := a.length) (by omega), e1, e2, m__law_end, lstI, l2, lmul]
end L3

namespace L3
open PySem PySem.Spec L2
theorem tupI_T (ns : List Int) : tupI (T ns) = some ns := by
  show intsD (zs ns) = some ns
  exact intsD_zs ns
theorem m_plus_ok {a b : List Int} (h1 : a.length ≤ 1000) (h2 : b.length ≤ 1000) : m_plus_of [T a, T b] = some (.ok (T (trim (addL a b))) [some (T a), some (T b)]) := by
  unfold m_plus_of
  dsimp only
  rw [tupI_T, tupI_T]
  dsimp only
  rw [show sml a.length = true from Nat.ble_eq_true_of_le h1, show sml b.length = true from Nat.ble_eq_true_of_le h2]; rfl
theorem m_scaled_ok {a : List Int} {n : Int} (h1 : a.length ≤ 1000) (h2 : mOk [n] a = true) : m_scaled [T a, .fz (.int n)] = some (.ok (T (scL a n)) [some (T a), some (.i n)]) := by
  unfold m_scaled
  dsimp only
  rw [tupI_T]
  dsimp only
  rw [show sml a.length = true from Nat.ble_eq_true_of_le h1, h2]; rfl
theorem m_less_ok {a b : List Int} (h1 : a.length ≤ 1000) (h2 : b.length ≤ 1000) : m_less_of [T a, T b] = some (.ok (T (lessL a b)) [some (T a), some (T b)]) := by
  unfold m_less_of
  dsimp only
  rw [tupI_T, tupI_T]
  dsimp only
  rw [show sml a.length = true from Nat.ble_eq_true_of_le h1, show sml b.length = true from Nat.ble_eq_true_of_le h2]; rfl
theorem scL_le (a : List Int) (n : Int) : (scL a n).length ≤ a.length := by
  unfold scL
  refine Nat.le_trans (trim_len _) ?_
  rw [List.length_map]
  exact Nat.le_refl _
theorem mOk_m1 (b : List Int) : mOk [-1] b = true := mOk_mk fun x hx y _ => by
  rw [List.mem_singleton.mp hx]
  exact mulOk (.inl (by decide))
theorem h_less_of : ∀ cs o, m_less_of cs = some o → ∃ n out, g_less_of n (startR 2 cs) = some out ∧ fin [true, true] out = some o := fun cs o h => by
  unfold m_less_of at h
  split at h
  case h_2 => cases h
  rename_i ca cb
  split at h
  case h_2 => cases h
  rename_i a b ea eb
  cases tupI_of ea
  cases tupI_of eb
  split at h
  case isFalse => cases h
  rename_i hs
  rw [Bool.and_eq_true] at hs
  have ha : a.length ≤ 1000 := Nat.le_of_ble_eq_true hs.1
  have hb : b.length ≤ 1000 := Nat.le_of_ble_eq_true hs.2
  cases h
  have e1 := m_scaled_ok hb (mOk_m1 b)
  have e2 := m_plus_ok ha (Nat.le_trans (scL_le b (-1)) hb)
  refine ⟨0, .rt (T (lessL a b)) [some (T a), some (T b)], ?_, rfl⟩
  simp [g_less_of, startR, e1, e2, lessL]
theorem e_gFdivP {i j : Int} (h : j ≠ 0) (h2 : pyl i j = false) : gFdiv [.fz (.int i), .fz (.int j)] = some (.fz (.int (i.fdiv j))) := by
  show (if (decide (j ≠ 0) && !Builtin.divisionGoesByPylong i j) = true then some (Cl.fz (.int (i.fdiv j))) else none) = _
  have h2 : Builtin.divisionGoesByPylong i j = false := h2
  rw [h2, decide_eq_true h]; rfl
theorem e_gRepT {x k : Int} (h2 : k.natAbs ≤ 1000) : gMul [.fz (.tuple [.int x]), .fz (.int k)] = some (T (List.replicate k.toNat x)) := by
  show (if (Nat.ble k.natAbs 1000 && Nat.ble [PyData.int x].length 1000) = true then some (Cl.fz (.tuple (List.replicate k.toNat [PyData.int x]).flatten)) else none) = _
  rw [show Nat.ble k.natAbs 1000 = true from Nat.ble_eq_true_of_le h2]
  show some (Cl.fz (.tuple (List.replicate k.toNat [PyData.int x]).flatten)) = some (Cl.fz (.tuple (zs (List.replicate k.toNat x))))
  rw [rep1, zs_rep]
theorem mul0_ok (q : Int) : mulBad q 0 = false := mulOk (.inr (by decide))
theorem mOk_shift {q : Int} {b : List Int} (s : Nat) (h : mOk [q] b = true) : mOk [q] (shiftL s b) = true := mOk_mk fun x hx y hy => by
  rw [List.mem_singleton.mp hx]
  rcases List.mem_append.mp hy with hy | hy
  · rw [(List.mem_replicate.mp hy).2]
    exact mul0_ok q
  · exact mOk_of h q List.mem_cons_self y hy
theorem shift_len (s : Nat) (b : List Int) : (shiftL s b).length = s + b.length := by
  unfold shiftL
  rw [List.length_append, List.length_replicate]
theorem lastI_at {a : List Int} (h : a ≠ []) : atI (zs a) (-1) = some (.int (lastI a)) := by
  rw [atI_neg1]
  unfold lastI
  rw [List.getLast?_eq_getLast h]; rfl
theorem quo_loop (n : Nat) : ∀ (m : Nat) (f a b r : List Int) (p : Option Cl), quoL m f a b = some r → b.length ≤ 1000 → ∃ p' q', whF wt_quotient_1 wb_quotient_1 n m [some (T a), some (T b), some (.lst (zs f)), p] = some (.nx [p', some (T b), some (.lst (zs r)), q'])
  | 0, f, a, b, r, p, h, _ => by cases h
  | m + 1, f, a, b, r, p, h, hb => by
    unfold quoL at h
    split at h
    · rename_i h0
      cases h
      exact ⟨some (T a), p, wh_stop (by simp [wt_quotient_1, h0, zs_nil])⟩
    · rename_i h0
      split at h
      case isFalse => cases h
      rename_i hc
      simp only [Bool.and_eq_true, Bool.not_eq_true', decide_eq_false_iff_not, decide_eq_true_eq] at hc
      obtain ⟨⟨⟨hl, hb0⟩, ⟨hf, c1⟩, hlb⟩, c2, c3⟩ := hc
      have c1 : a.length ≤ 1000 := Nat.le_of_ble_eq_true c1
      obtain ⟨p', q', e⟩ := quo_loop n m (quoStep a b f) (quoNext a b) b r (some (.i ((a.length : Int) - b.length))) h hb
      refine ⟨p', q', ?_⟩
      have la := lastI_at h0
      have lb := lastI_at hb0
      have e0 := e_gFdivP hlb c2
      have ea : ((a.length : Int) - b.length) = ((a.length - b.length : Nat) : Int) := by omega
      have ei : ixN f.length ((a.length : Int) - b.length) = some (a.length - b.length) := by
        rw [ea]
        exact ixN_nat hf
      have es := zs_set f (a.length - b.length) ((lastI a).fdiv (lastI b))
      have eg : atI (zs (f.set (a.length - b.length) ((lastI a).fdiv (lastI b)))) ((a.length : Int) - b.length) = some (.int ((lastI a).fdiv (lastI b))) := by
        rw [ea]
        refine atI_zs ?_
        rw [List.getElem?_set_self hf]
      have e1 := e_gRepT (x := 0) (k := (a.length : Int) - b.length) (by omega)
      rw [show ((a.length : Int) - b.length).toNat = a.length - b.length by omega] at e1
      have sl := shift_len (a.length - b.length) b
      have e3 := m_scaled_ok (a := shiftL (a.length - b.length) b) (by omega) (mOk_shift (a.length - b.length) c3)
      have e4 := m_less_ok (a := a) (b := scL (shiftL (a.length - b.length) b) ((lastI a).fdiv (lastI b))) c1 (Nat.le_trans (scL_le _ _) (by omega))
      have eb : zs (List.replicate (a.length - b.length) 0) ++ zs b = zs (shiftL (a.length - b.length) b) := (zs_app _ _).symm
      have lz : lsz (shiftL (a.length - b.length) b).length = true := decide_eq_true (by omega)
      rw [wh_step (ρ1 := [some (T a), some (T b), some (.lst (zs f)), p]) (ρ2 := [some (T (quoNext a b)), some (T b), some (.lst (zs (quoStep a b f))), some (.i ((a.length : Int) - b.length))]) (by simp [wt_quotient_1, h0]) (by simp [wb_quotient_1, la, lb, e0, setIx, ei, es, eg, e1, asSeq, eb, e3, e4, lz, quoNext, quoStep]), e]
theorem h_quotient : ∀ cs o, m_quotient cs = some o → ∃ n out, g_quotient n (startR 4 cs) = some out ∧ fin [false, true] out = some o := fun cs o h => by
  unfold m_quotient at h
  split at h
  case h_2 => cases h
  rename_i ca cb
  split at h
  case h_2 => cases h
  rename_i a b ea eb
  cases tupI_of ea
  cases tupI_of eb
  split at h
  case isFalse => cases h
  rename_i hs
  rw [Bool.and_eq_true] at hs
  have ha : a.length ≤ 1000 := Nat.le_of_ble_eq_true hs.1
  have hb : b.length ≤ 1000 := Nat.le_of_ble_eq_true hs.2
  cases q : quoO a b with
  | none => rw [q] at h; cases h
  | some r =>
    rw [q] at h
    cases h
    obtain ⟨p', q', e⟩ := quo_loop (a.length + 1) (a.length + 1) (List.replicate (a.length + 1 - b.length) 0) a b r none q hb
    have e1 := e_gRep (x := 0) (k := max 0 ((a.length : Int) - b.length + 1)) (by omega) (by omega)
    rw [show (max 0 ((a.length : Int) - b.length + 1)).toNat = a.length + 1 - b.length by omega] at e1
    refine ⟨a.length + 1, .rt (T r) [p', some (T b), some (.lst (zs r)), q'], ?_, rfl⟩
    simp [g_quotient, startR, e1, e]
theorem m_quo_ok {a b r : List Int} (h1 : a.length ≤ 1000) (h2 : b.length ≤ 1000) (h : quoO a b = some r) : m_quotient [T a, T b] = some (.ok (T r) [none, some (T b)]) := by
  unfold m_quotient
  dsimp only
  rw [tupI_T, tupI_T]
  dsimp only
  rw [show sml a.length = true from Nat.ble_eq_true_of_le h1, show sml b.length = true from Nat.ble_eq_true_of_le h2, h]; rfl
theorem h_check_zero : ∀ cs o, m_check_zero cs = some o → ∃ n out, g_check_zero n (startR 1 cs) = some out ∧ fin [true] out = some o := fun cs o h => by
  unfold m_check_zero at h
  split at h
  case h_2 => cases h
  rename_i ca
  split at h
  case h_2 => cases h
  rename_i a ea
  cases tupI_of ea
  by_cases h0 : a = []
  · rw [if_pos h0] at h
    cases h
    exact ⟨0, .ex zeroX [some (T a)], by simp [g_check_zero, startR, h0, zs_nil, zeroX], rfl⟩
  · rw [if_neg h0] at h
    cases h
    exact ⟨0, .nx [some (T a)], by simp [g_check_zero, startR, h0], rfl⟩
end L3

namespace L3
open PySem PySem.Spec L2
/-! ### whole roots: the walks -/
theorem val_loop (A : Option Cl) (x : Int) (hx : x.natAbs < 2 ^ 64) (n : Nat) : ∀ (xs : List Int) (f : Int) (p : Option Cl), ∃ p', forF gl_value_of_1 bl_value_of_1 n (zs xs) [A, some (.i x), some (.i f), p] = some (.nx [A, some (.i x), some (.i (xs.foldl (fun f a => f * x + a) f)), p'])
  | [], f, p => ⟨p, rfl⟩
  | a :: xs, f, p => by
    have e1 := e_gMulI (i := f) (j := x) (.inr hx)
    obtain ⟨p', e⟩ := val_loop A x hx n xs (f * x + a) (some (.i a))
    refine ⟨p', ?_⟩
    rw [zs_cons, for_step (ρ1 := [A, some (.i x), some (.i f), some (.i a)]) (ρ2 := [A, some (.i x), some (.i (f * x + a)), some (.i a)]) (by simp [gl_value_of_1]) (by simp [bl_value_of_1, e1]), e]
    rfl
theorem horner (p : List Int) (x : Int) : p.reverse.foldl (fun f a => f * x + a) 0 = vaL p x := by
  rw [List.foldl_reverse]
  unfold vaL
  congr 1
  funext a t
  rw [Int.mul_comm t x, Int.add_comm]
theorem log64 {n : Nat} (h : n.log2 ≤ 62) : n < 2 ^ 64 := by
  by_cases h0 : n = 0
  · rw [h0]; decide
  · exact Nat.lt_of_lt_of_le ((Nat.log2_lt h0).mp (Nat.lt_succ_of_le h)) (by decide)
theorem h_value_of : ∀ cs o, m_value_of cs = some o → ∃ n out, g_value_of n (startR 4 cs) = some out ∧ fin [true, true] out = some o := fun cs o h => by
  unfold m_value_of at h
  split at h
  case h_2 => cases h
  rename_i ca n
  split at h
  case h_2 => cases h
  rename_i a ea
  cases tupI_of ea
  split at h
  case isFalse => cases h
  rename_i hs
  rw [Bool.and_eq_true] at hs
  cases h
  obtain ⟨p', e⟩ := val_loop (some (T a)) n (log64 (Nat.le_of_ble_eq_true hs.2)) 0 a.reverse 0 none
  rw [horner] at e
  have rv : (zs a).reverse = zs a.reverse := by unfold zs; rw [List.map_reverse]
  refine ⟨0, .rt (.i (vaL a n)) [some (T a), some (.i n), none, p'], ?_, rfl⟩
  simp [g_value_of, startR, rv, asSeq, e]
theorem m_val_ok {a : List Int} {x : Int} (h1 : a.length ≤ 1000) (h2 : x.natAbs.log2 ≤ 62) : m_value_of [T a, .fz (.int x)] = some (.ok (.i (vaL a x)) [some (T a), some (.i x)]) := by
  unfold m_value_of
  dsimp only
  rw [tupI_T]
  dsimp only
  rw [show sml a.length = true from Nat.ble_eq_true_of_le h1, show Nat.ble x.natAbs.log2 62 = true from Nat.ble_eq_true_of_le h2]; rfl
theorem fst_lc (A c1 c3 c4 c5 : Option Cl) (n : Nat) : ∀ (xs : List Int) (acc : List D), lcF 6 cg_candidates_1 ct_candidates_1 ce_candidates_1 [2] n (zs xs) [A, c1, none, c3, c4, c5] acc = some (.ok (.lst (acc ++ zs ((xs.filter fun a => !decide (a = 0)).map fun a => (a.natAbs : Int)))) [A, c1, none, c3, c4, c5])
  | [], acc => by
    show some (Rz.ok (Cl.lst acc) _) = some (Rz.ok (Cl.lst (acc ++ [])) _)
    rw [List.append_nil]
  | x :: xs, acc => by
    by_cases h : x = 0
    · subst h
      rw [zs_cons, lc_stepF (ρ2 := [A, c1, some (.i 0), c3, c4, c5]) (ρ3 := [A, c1, some (.i 0), c3, c4, c5]) (ρ5 := [A, c1, none, c3, c4, c5]) (by simp [cg_candidates_1]) (by rfl) (by simp [ct_candidates_1]) (by rfl), fst_lc A c1 c3 c4 c5 n xs]
      rfl
    · rw [zs_cons, lc_stepT (ρ2 := [A, c1, some (.i x), c3, c4, c5]) (ρ3 := [A, c1, some (.i x), c3, c4, c5]) (y := .int x.natAbs) (ρ4 := [A, c1, some (.i x), c3, c4, c5]) (ρ5 := [A, c1, none, c3, c4, c5]) (by simp [cg_candidates_1]) (by rfl) (by simp [ct_candidates_1, h]) (by simp [ce_candidates_1]) (by rfl), fst_lc A c1 c3 c4 c5 n xs, List.filter_cons_of_pos (by simp [h]), List.map_cons, zs_cons, List.append_assoc]
      rfl
theorem putD_le1 {κ : Type} [DecidableEq κ] (es : List (κ × D)) (k : κ) (d : D) : (putD es k d).length ≤ es.length + 1 := by
  unfold putD
  split
  · rw [List.length_map]; omega
  · rw [List.length_append]; exact Nat.le_refl _
theorem put4_len (es : List (Key × D)) (f k : Nat) : (put4 es f k).length ≤ es.length + 4 := by
  unfold put4 putT
  have h1 := putD_le1 es (.inl (k : Int)) (.bool true)
  have h2 := putD_le1 (putD es (.inl (k : Int)) (.bool true)) (.inl (-(k : Int))) (.bool true)
  have h3 := putD_le1 (putD (putD es (.inl (k : Int)) (.bool true)) (.inl (-(k : Int))) (.bool true)) (.inl (((f / k : Nat)) : Int)) (.bool true)
  have h4 := putD_le1 (putD (putD (putD es (.inl (k : Int)) (.bool true)) (.inl (-(k : Int))) (.bool true)) (.inl (((f / k : Nat)) : Int)) (.bool true)) (.inl (-((f / k : Nat) : Int))) (.bool true)
  omega
theorem put2 (A c1 c2 c4 : Option Cl) (n : Nat) (es : List (Key × D)) (r : Int) (h : es.length + 2 ≤ 1000000) (p : Option Cl) : bl_candidates_1 n [A, c1, c2, some (.dct es), c4, some (.i r)] = some (.nx [A, c1, c2, some (.dct (putT (putT es r) (-r))), c4, some (.i r)]) := by
  have l1 := putD_le1 es (.inl r) (.bool true)
  have h1 : es.length ≤ 1000000 := by omega
  have h2 : (putD es (.inl r) (.bool true)).length ≤ 1000000 := by omega
  simp [bl_candidates_1, setIxD, h1, h2, putT]
theorem fdiv_nat (a b : Nat) : Int.fdiv (a : Int) (b : Int) = ((a / b : Nat) : Int) := by
  rw [Int.fdiv_eq_ediv_of_nonneg _ (by omega)]
  rfl
theorem can_loop (A c2 : Option Cl) (f : Nat) (hf : f ≤ 10000000000) (n : Nat) : ∀ (m k : Nat) (es : List (Key × D)) (p : Option Cl), 1 ≤ k → k + m = f + 2 → es.length ≤ 4 * k → ∃ p' k', whF wt_candidates_1 wb_candidates_1 n (m + 1) [A, some (.i f), c2, some (.dct es), some (.i k), p] = some (.nx [A, some (.i f), c2, some (.dct (canD f m k es)), some (.i k'), p'])
  | 0, k, es, p, hk, hm, hl => by
    have hgt : ¬ k * k ≤ f := by
      have : k ≤ k * k := Nat.le_mul_of_pos_left _ hk
      omega
    have e1 := e_gMulI (i := (k : Int)) (j := (k : Int)) (.inl (by
      have : (10000000002 : Nat) < 2 ^ 64 := by decide
      omega))
    have hgt' : ¬ ((k : Int) * (k : Int) ≤ (f : Int)) := by
      rw [← Int.natCast_mul]; omega
    exact ⟨p, k, wh_stop (by simp [wt_candidates_1, e1, hgt', canD])⟩
  | m + 1, k, es, p, hk, hm, hl => by
    have e1 := e_gMulI (i := (k : Int)) (j := (k : Int)) (.inl (by
      have : (10000000002 : Nat) < 2 ^ 64 := by decide
      omega))
    by_cases hle : k * k ≤ f
    · have hle' : (k : Int) * (k : Int) ≤ (f : Int) := by rw [← Int.natCast_mul]; omega
      have k5 : k ≤ 100000 := by
        apply Classical.byContradiction
        intro z
        have : 100001 * 100001 ≤ k * k := Nat.mul_le_mul (by omega) (by omega)
        omega
      have em := e_gModI (i := (f : Int)) (j := (k : Int)) (by omega)
      rw [fmod_nat] at em
      have ed := e_gFdivS (i := (f : Int)) (j := (k : Int)) (by omega) (by
        have : (100000 : Nat) < 2 ^ 64 := by decide
        omega)
      rw [fdiv_nat] at ed
      have ec : canD f (m + 1) k es = canD f m (k + 1) (if f % k = 0 then put4 es f k else es) := by
        show (if k * k ≤ f then _ else _) = _
        rw [if_pos hle]
      rw [ec]
      by_cases hd : f % k = 0
      · rw [if_pos hd]
        have l4 := put4_len es f k
        obtain ⟨p', k', e⟩ := can_loop A c2 f hf n m (k + 1) (put4 es f k) (some (.i ((f / k : Nat) : Int))) (by omega) (by omega) (by omega)
        refine ⟨p', k', ?_⟩
        have l2 : (putT (putT es (k : Int)) (-(k : Int))).length ≤ es.length + 2 := by
          unfold putT
          have h1 := putD_le1 es (.inl (k : Int)) (.bool true)
          have h2 := putD_le1 (putD es (.inl (k : Int)) (.bool true)) (.inl (-(k : Int))) (.bool true)
          omega
        have fo : forF gl_candidates_1 bl_candidates_1 n [.int (k : Int), .int ((f / k : Nat) : Int)] [A, some (.i f), c2, some (.dct es), some (.i k), p] = some (.nx [A, some (.i f), c2, some (.dct (put4 es f k)), some (.i k), some (.i ((f / k : Nat) : Int))]) := by
          rw [for_step (ρ1 := [A, some (.i f), c2, some (.dct es), some (.i k), some (.i (k : Int))]) (by simp [gl_candidates_1]) (put2 A (some (.i f)) c2 (some (.i k)) n es k (by omega) none)]
          rw [for_step (ρ1 := [A, some (.i f), c2, some (.dct (putT (putT es (k : Int)) (-(k : Int)))), some (.i k), some (.i ((f / k : Nat) : Int))]) (by simp [gl_candidates_1]) (put2 A (some (.i f)) c2 (some (.i k)) n _ _ (by omega) none)]
          rfl
        have hd' : ((f % k : Nat) : Int) = 0 := by omega
        rw [hd'] at em
        rw [wh_step (ρ1 := [A, some (.i f), c2, some (.dct es), some (.i k), p]) (ρ2 := [A, some (.i f), c2, some (.dct (put4 es f k)), some (.i ((k + 1 : Nat) : Int)), some (.i ((f / k : Nat) : Int))]) (by simp [wt_candidates_1, e1, hle']) (by
          generalize put4 es f k = es4 at *
          generalize ((f / k : Nat) : Int) = w at *
          simp [wb_candidates_1, em, ed, asSeq, fo, gIp]), e]
      · rw [if_neg hd]
        obtain ⟨p', k', e⟩ := can_loop A c2 f hf n m (k + 1) es p (by omega) (by omega) (by omega)
        refine ⟨p', k', ?_⟩
        have hd' : ¬ ((f % k : Nat) : Int) = 0 := by omega
        generalize ((f % k : Nat) : Int) = w at *
        rw [wh_step (ρ1 := [A, some (.i f), c2, some (.dct es), some (.i k), p]) (ρ2 := [A, some (.i f), c2, some (.dct es), some (.i ((k + 1 : Nat) : Int)), p]) (by simp [wt_candidates_1, e1, hle']) (by simp [wb_candidates_1, em, hd', gIp]), e]
    · have hgt' : ¬ ((k : Int) * (k : Int) ≤ (f : Int)) := by
        rw [← Int.natCast_mul]; omega
      refine ⟨p, k, ?_⟩
      have ec : canD f (m + 1) k es = es := by
        show (if k * k ≤ f then _ else _) = _
        rw [if_neg hle]
      rw [ec]
      exact wh_stop (by simp [wt_candidates_1, e1, hgt'])
theorem put_keys {es : List (Key × D)} {is : List Int} (h : intKeys es = some is) (i : Int) (d : D) : ∃ js, intKeys (putD es (.inl i) d) = some js ∧ ∀ x, x ∈ js ↔ x = i ∨ x ∈ is := by
  have key : ∀ (es : List (Key × D)) (is : List Int), intKeys es = some is → intKeys (es.map fun kv => if kv.1 = (.inl i : Key) then (kv.1, d) else kv) = some is := fun es => by
    induction es with
    | nil => intro is h; exact h
    | cons p es ih =>
      intro is h
      obtain ⟨k, v⟩ := p
      cases k with
      | inr s => cases h
      | inl j =>
        have h : (intKeys es).map (j :: ·) = some is := h
        cases q : intKeys es with
        | none => rw [q] at h; cases h
        | some js =>
          rw [q] at h
          cases h
          have := ih js q
          rw [List.map_cons]
          by_cases e : (Sum.inl j : Key) = Sum.inl i
          · show intKeys ((if (Sum.inl j : Key) = Sum.inl i then (Sum.inl j, d) else (Sum.inl j, v)) :: _) = _
            rw [if_pos e]
            show (intKeys _).map (j :: ·) = _
            rw [this]; rfl
          · show intKeys ((if (Sum.inl j : Key) = Sum.inl i then (Sum.inl j, d) else (Sum.inl j, v)) :: _) = _
            rw [if_neg e]
            show (intKeys _).map (j :: ·) = _
            rw [this]; rfl
  have app : ∀ (es : List (Key × D)) (is : List Int), intKeys es = some is → intKeys (es ++ [(.inl i, d)]) = some (is ++ [i]) := fun es => by
    induction es with
    | nil => intro is h; cases h; rfl
    | cons p es ih =>
      intro is h
      obtain ⟨k, v⟩ := p
      cases k with
      | inr s => cases h
      | inl j =>
        have h : (intKeys es).map (j :: ·) = some is := h
        cases q : intKeys es with
        | none => rw [q] at h; cases h
        | some js =>
          rw [q] at h
          cases h
          show (intKeys (es ++ [(.inl i, d)])).map (j :: ·) = _
          rw [ih js q]; rfl
  have mem : ∀ (es : List (Key × D)) (is : List Int), intKeys es = some is → ((es.any fun kv => decide (kv.1 = (.inl i : Key))) = true ↔ i ∈ is) := fun es => by
    induction es with
    | nil => intro is h; cases h; simp
    | cons p es ih =>
      intro is h
      obtain ⟨k, v⟩ := p
      cases k with
      | inr s => cases h
      | inl j =>
        have h : (intKeys es).map (j :: ·) = some is := h
        cases q : intKeys es with
        | none => rw [q] at h; cases h
        | some js =>
          rw [q] at h
          cases h
          rw [List.any_cons, Bool.or_eq_true, ih js q, List.mem_cons, decide_eq_true_eq]
          constructor
          · rintro (e | e)
            · injection e with e; exact .inl e.symm
            · exact .inr e
          · rintro (e | e)
            · exact .inl (by rw [e])
            · exact .inr e
  unfold putD
  by_cases ha : (es.any fun kv => decide (kv.1 = (.inl i : Key))) = true
  · rw [if_pos ha]
    exact ⟨is, key es is h, fun x => ⟨.inr, fun z => z.elim (fun e => by rw [e]; exact (mem es is h).mp ha) id⟩⟩
  · rw [if_neg ha]
    refine ⟨is ++ [i], app es is h, fun x => ?_⟩
    rw [List.mem_append, List.mem_singleton, or_comm]
theorem put4_keys {es : List (Key × D)} {is : List Int} (h : intKeys es = some is) (f k : Nat) : ∃ js, intKeys (put4 es f k) = some js ∧ ∀ x, x ∈ js ↔ (x = k ∨ x = -(k : Int) ∨ x = ((f / k : Nat) : Int) ∨ x = -((f / k : Nat) : Int)) ∨ x ∈ is := by
  obtain ⟨a, a1, a2⟩ := put_keys h k (.bool true)
  obtain ⟨b, b1, b2⟩ := put_keys a1 (-(k : Int)) (.bool true)
  obtain ⟨c, c1, c2⟩ := put_keys b1 ((f / k : Nat) : Int) (.bool true)
  obtain ⟨d, d1, d2⟩ := put_keys c1 (-((f / k : Nat) : Int)) (.bool true)
  refine ⟨d, d1, fun x => ?_⟩
  rw [d2, c2, b2, a2]
  constructor
  · rintro (h | h | h | h | h)
    · exact .inl (.inr (.inr (.inr h)))
    · exact .inl (.inr (.inr (.inl h)))
    · exact .inl (.inr (.inl h))
    · exact .inl (.inl h)
    · exact .inr h
  · rintro ((h | h | h | h) | h)
    · exact .inr (.inr (.inr (.inl h)))
    · exact .inr (.inr (.inl h))
    · exact .inr (.inl h)
    · exact .inl h
    · exact .inr (.inr (.inr (.inr h)))
/-- the keys are what divides, up to the root -/
theorem canD_keys (f : Nat) : ∀ (m k : Nat) (es : List (Key × D)) (is : List Int), k + m = f + 2 → 1 ≤ k → intKeys es = some is → ∃ js, intKeys (canD f m k es) = some js ∧ ∀ x, x ∈ js ↔ x ∈ is ∨ ∃ j, k ≤ j ∧ j * j ≤ f ∧ f % j = 0 ∧ (x = j ∨ x = -(j : Int) ∨ x = ((f / j : Nat) : Int) ∨ x = -((f / j : Nat) : Int))
  | 0, k, es, is, hk, h1, h => ⟨is, h, fun x => ⟨.inl, fun z => z.elim id fun ⟨j, j1, j2, _⟩ => by
      have : j ≤ j * j := Nat.le_mul_of_pos_left _ (by omega)
      omega⟩⟩
  | m + 1, k, es, is, hk, h1, h => by
    unfold canD
    by_cases hle : k * k ≤ f
    · rw [if_pos hle]
      by_cases hd : f % k = 0
      · rw [if_pos hd]
        obtain ⟨a, a1, a2⟩ := put4_keys h f k
        obtain ⟨js, j1, j2⟩ := canD_keys f m (k + 1) (put4 es f k) a (by omega) (by omega) a1
        refine ⟨js, j1, fun x => ?_⟩
        rw [j2, a2]
        constructor
        · rintro ((z | z) | ⟨j, z1, z2, z3, z4⟩)
          · exact .inr ⟨k, Nat.le_refl _, hle, hd, z⟩
          · exact .inl z
          · exact .inr ⟨j, by omega, z2, z3, z4⟩
        · rintro (z | ⟨j, z1, z2, z3, z4⟩)
          · exact .inl (.inr z)
          · by_cases e : j = k
            · subst e; exact .inl (.inl z4)
            · exact .inr ⟨j, by omega, z2, z3, z4⟩
      · rw [if_neg hd]
        obtain ⟨js, j1, j2⟩ := canD_keys f m (k + 1) es is (by omega) (by omega) h
        refine ⟨js, j1, fun x => ?_⟩
        rw [j2]
        constructor
        · rintro (z | ⟨j, z1, z2, z3, z4⟩)
          · exact .inl z
          · exact .inr ⟨j, by omega, z2, z3, z4⟩
        · rintro (z | ⟨j, z1, z2, z3, z4⟩)
          · exact .inl z
          · exact .inr ⟨j, by
              by_cases e : j = k
              · subst e; exact absurd z3 hd
              · omega, z2, z3, z4⟩
    · rw [if_neg hle]
      refine ⟨is, h, fun x => ⟨.inl, fun z => z.elim id fun ⟨j, j1, j2, _⟩ => ?_⟩⟩
      have := Nat.mul_le_mul j1 j1
      omega
theorem h_candidates : ∀ cs o, m_candidates cs = some o → ∃ n out, g_candidates n (startR 6 cs) = some out ∧ fin [true] out = some o := fun cs o h => by
  unfold m_candidates at h
  split at h
  case h_2 => cases h
  rename_i ca
  split at h
  case h_2 => cases h
  rename_i a ea
  cases tupI_of ea
  split at h
  case isFalse => cases h
  rename_i hs
  rw [Bool.and_eq_true, Bool.and_eq_true] at hs
  have ha : a.length ≤ 1000 := Nat.le_of_ble_eq_true hs.1
  have h1 := Nat.le_of_ble_eq_true hs.2.1
  have h2 := Nat.le_of_ble_eq_true hs.2.2
  cases h
  have e1 := fst_lc (some (T a)) none none none none (fstL a + 2) a []
  rw [List.nil_append] at e1
  have a0 : atI (zs ((a.filter fun a => !decide (a = 0)).map fun a => (a.natAbs : Int))) 0 = some (.int (fstL a)) := by
    unfold fstL at h1 ⊢
    cases q : a.filter fun a => !decide (a = 0) with
    | nil => rw [q] at h1; exact absurd h1 (by decide)
    | cons x xs =>
      have := atI_zs (ns := (x :: xs).map fun a => (a.natAbs : Int)) (i := 0) (x := (x.natAbs : Int)) rfl
      exact this
  obtain ⟨p', k', e2⟩ := can_loop (some (T a)) none (fstL a) h2 (fstL a + 2) (fstL a + 1) 1 [(.inl 0, .bool true)] none (Nat.le_refl _) (by omega) (by decide)
  obtain ⟨js, j1, _⟩ := canD_keys (fstL a) (fstL a + 1) 1 [(.inl 0, .bool true)] [0] (by omega) (Nat.le_refl _) rfl
  have gs : gSortD [.dct (canD (fstL a) (fstL a + 1) 1 [(.inl 0, .bool true)])] = some (.lst ((canL (fstL a)).map PyData.int)) := by
    show (intKeys (canD (fstL a) (fstL a + 1) 1 [(.inl 0, .bool true)])).map _ = _
    unfold canL keysI
    rw [j1]; rfl
  have lz : a.length ≤ 1000000 := by omega
  refine ⟨fstL a + 2, .rt (.lst ((canL (fstL a)).map PyData.int)) [some (T a), some (.i (fstL a)), none, some (.dct (canD (fstL a) (fstL a + 1) 1 [(.inl 0, .bool true)])), some (.i k'), p'], ?_, rfl⟩
  generalize (canL (fstL a)).map PyData.int = CL at *
  generalize canD (fstL a) (fstL a + 1) 1 [(.inl 0, .bool true)] = CD at *
  have e2 : whF wt_candidates_1 wb_candidates_1 (fstL a + 2) (fstL a + 2) [some (T a), some (.i (fstL a)), none, some (.dct [(.inl 0, .bool true)]), some (.i 1), none] = some (.nx [some (T a), some (.i (fstL a)), none, some (.dct CD), some (.i k'), p']) := e2
  generalize (a.filter fun a => !decide (a = 0)).map (fun a => (a.natAbs : Int)) = fl at *
  have s1 : ∀ R : FS, sSeq st_candidates_1 R (fstL a + 2) (startR 6 [T a]) = R (fstL a + 2) [some (T a), some (.i (fstL a)), none, none, none, none] := fun R => by
    simp [st_candidates_1, startR, asSeq, wipR, e1, a0, lz]
  unfold g_candidates
  rw [s1]
  generalize fstL a = F at *
  simp [st_candidates_2, st_candidates_3, st_candidates_4, st_candidates_5, e2, gs]
theorem m_can_ok {a : List Int} (ha : a.length ≤ 1000) (h1 : 1 ≤ fstL a) (h2 : fstL a ≤ 10000000000) : m_candidates [T a] = some (.ok (.lst ((canL (fstL a)).map PyData.int)) [some (T a)]) := by
  unfold m_candidates
  dsimp only
  rw [tupI_T]
  dsimp only
  rw [show sml a.length = true from Nat.ble_eq_true_of_le ha, show Nat.ble 1 (fstL a) = true from Nat.ble_eq_true_of_le h1, show Nat.ble (fstL a) 10000000000 = true from Nat.ble_eq_true_of_le h2]; rfl
theorem cnt_loop (O F : Option Cl) (r : Int) (hr : r.natAbs.log2 ≤ 62) (n : Nat) : ∀ (m : Nat) (rest q : List Int) (t t' : Nat), cntL m rest r t = some (t', q) → rest.length ≤ 1000 → whF wt_whole_roots_1 wb_whole_roots_1 n m [O, F, some (T rest), some (.i r), some (.i t)] = some (.nx [O, F, some (T q), some (.i r), some (.i t')]) ∧ q.length ≤ 1000
  | 0, rest, q, t, t', h, _ => by cases h
  | m + 1, rest, q, t, t', h, hl => by
    unfold cntL at h
    by_cases h0 : rest = []
    · rw [if_pos h0] at h
      cases h
      subst h0
      exact ⟨wh_stop (by simp [wt_whole_roots_1]), hl⟩
    · rw [if_neg h0] at h
      have e1 := m_val_ok hl hr
      by_cases hv : vaL rest r = 0
      · rw [if_pos hv] at h
        rw [hv] at e1
        cases q1 : quoO rest [-r, 1] with
        | none => rw [q1] at h; cases h
        | some q2 =>
          rw [q1] at h
          dsimp only at h
          split at h
          case isFalse => cases h
          rename_i hs
          rw [Bool.and_eq_true] at hs
          have l2 : q2.length ≤ 1000 := Nat.le_of_ble_eq_true hs.2
          have e2 := m_quo_ok hl (b := [-r, 1]) (by simp) q1
          have e2 : m_quotient [T rest, .fz (.tuple [.int (-r), .int 1])] = some (.ok (T q2) [none, some (.fz (.tuple [.int (-r), .int 1]))]) := e2
          obtain ⟨e3, e4⟩ := cnt_loop O F r hr n m q2 q (t + 1) t' h l2
          refine ⟨?_, e4⟩
          rw [wh_step (ρ1 := [O, F, some (T rest), some (.i r), some (.i t)]) (ρ2 := [O, F, some (T q2), some (.i r), some (.i ((t + 1 : Nat) : Int))]) (by simp [wt_whole_roots_1, h0, e1]) (by simp [wb_whole_roots_1, e2, gIp]), e3]
      · rw [if_neg hv] at h
        cases h
        exact ⟨wh_stop (by simp [wt_whole_roots_1, h0, e1, hv]), hl⟩
theorem wr_loop (O : Option Cl) : ∀ (rs rest : List Int) (acc l : List (Int × Nat)) (p t : Option Cl), wrL rs rest acc = some l → ∃ q p' t', forF gl_whole_roots_1 bl_whole_roots_1 1000 (rs.map PyData.int) [O, some (.lst (acc.map wrD)), some (T rest), p, t] = some (.nx [O, some (.lst (l.map wrD)), q, p', t'])
  | [], rest, acc, l, p, t, h => by
    cases h
    exact ⟨_, _, _, rfl⟩
  | r :: rs, rest, acc, l, p, t, h => by
    unfold wrL at h
    split at h
    case isFalse => cases h
    rename_i hs
    rw [Bool.and_eq_true, Bool.and_eq_true] at hs
    have hl : rest.length ≤ 1000 := Nat.le_of_ble_eq_true hs.1.1
    have ha : acc.length ≤ 1000 := Nat.le_of_ble_eq_true hs.1.2
    have ha' : acc.length ≤ 10000000 := by omega
    have hr := Nat.le_of_ble_eq_true hs.2
    cases q1 : cntL 1000 rest r 0 with
    | none => rw [q1] at h; cases h
    | some tq =>
      obtain ⟨t1, q2⟩ := tq
      rw [q1] at h
      dsimp only at h
      obtain ⟨e1, l2⟩ := cnt_loop O (some (.lst (acc.map wrD))) r hr 1000 1000 rest q2 0 t1 q1 hl
      have e1 : whF wt_whole_roots_1 wb_whole_roots_1 1000 1000 [O, some (.lst (acc.map wrD)), some (T rest), some (.i r), some (.i 0)] = some (.nx [O, some (.lst (acc.map wrD)), some (T q2), some (.i r), some (.i t1)]) := e1
      obtain ⟨q, p', t', e2⟩ := wr_loop O rs q2 (if 0 < t1 then acc ++ [(r, t1)] else acc) l (some (.i r)) (some (.i t1)) h
      refine ⟨q, p', t', ?_⟩
      rw [List.map_cons, for_step (ρ1 := [O, some (.lst (acc.map wrD)), some (T rest), some (.i r), t]) (ρ2 := [O, some (.lst ((if 0 < t1 then acc ++ [(r, t1)] else acc).map wrD)), some (T q2), some (.i r), some (.i t1)]) (by simp [gl_whole_roots_1]) (by
        by_cases h0 : 0 < t1
        · have h0' : (0 : Int) < (t1 : Int) := by omega
          rw [if_pos h0, List.map_append]
          simp [bl_whole_roots_1, e1, h0, gApp, wrD, ha']
        · have h0' : ¬ (0 : Int) < (t1 : Int) := by omega
          rw [if_neg h0]
          simp [bl_whole_roots_1, e1, h0]), e2]
theorem polyD_of {v : D} {x : List Int} (h : polyD v = some x) : v = .tuple (zs x) := by
  unfold polyD at h
  split at h
  · rename_i ds
    have : tupI (.fz (.tuple ds)) = some x := h
    have := tupI_of this
    injection this
  · cases h
theorem chkB {v : D} {i : D} (h : chk v = some i) : m_check_poly [.fz v] = some (.ex (bad i) [some (.fz v)]) := by
  unfold m_check_poly
  dsimp only
  rw [h]
theorem chkG {v : D} (h : chk v = none) : m_check_poly [.fz v] = some (.ok (.fz .none) [some (.fz v)]) := by
  unfold m_check_poly
  dsimp only
  rw [h]
theorem m_zero_ex : m_check_zero [T []] = some (.ex zeroX [some (T [])]) := rfl
theorem m_zero_ok {x : List Int} (h : x ≠ []) : m_check_zero [T x] = some (.ok (.fz .none) [some (T x)]) := by
  unfold m_check_zero
  dsimp only
  rw [tupI_T]
  dsimp only
  rw [if_neg h]
theorem h_whole_roots : ∀ cs o, m_whole_roots cs = some o → ∃ n out, g_whole_roots n (startR 5 cs) = some out ∧ fin [true] out = some o := fun cs o h => by
  unfold m_whole_roots at h
  split at h
  case h_2 => cases h
  rename_i v
  cases q1 : chk v with
  | some i =>
    rw [q1] at h
    cases h
    have e1 := chkB q1
    exact ⟨0, .ex (bad i) [some (.fz v), none, none, none, none], by simp [g_whole_roots, st_whole_roots_1, startR, e1], rfl⟩
  | none =>
    rw [q1] at h
    dsimp only at h
    have e1 := chkG q1
    cases q3 : polyD v with
    | none => rw [q3] at h; cases h
    | some x =>
      rw [q3] at h
      dsimp only at h
      have ex := polyD_of q3
      subst ex
      by_cases h0 : x = []
      · subst h0
        rw [if_pos rfl] at h
        cases h
        have e2 := m_zero_ex
        exact ⟨0, .ex zeroX [some (T []), none, none, none, none], by simp [g_whole_roots, st_whole_roots_1, st_whole_roots_2, startR, e1, e2], rfl⟩
      · rw [if_neg h0] at h
        split at h
        case isFalse => cases h
        rename_i hs
        rw [Bool.and_eq_true, Bool.and_eq_true] at hs
        have hl : x.length ≤ 1000 := Nat.le_of_ble_eq_true hs.1
        have e2 := m_zero_ok h0
        have e3 := m_can_ok hl (Nat.le_of_ble_eq_true hs.2.1) (Nat.le_of_ble_eq_true hs.2.2)
        cases q4 : wrL (canL (fstL x)) x [] with
        | none => rw [q4] at h; cases h
        | some l =>
          rw [q4] at h
          cases h
          obtain ⟨q, p', t', e4⟩ := wr_loop (some (T x)) (canL (fstL x)) x [] l none none q4
          have e4 : forF gl_whole_roots_1 bl_whole_roots_1 1000 ((canL (fstL x)).map PyData.int) [some (T x), some (.lst []), some (T x), none, none] = some (.nx [some (T x), some (.lst (l.map wrD)), q, p', t']) := e4
          refine ⟨1000, .rt (.lst (l.map wrD)) [some (T x), none, q, p', t'], ?_, rfl⟩
          generalize (canL (fstL x)).map PyData.int = CL at *
          generalize l.map wrD = LL at *
          simp [g_whole_roots, st_whole_roots_1, st_whole_roots_2, st_whole_roots_3, st_whole_roots_4, st_whole_roots_5, startR, e1, e2, e3, asSeq, e4]
theorem m_wr_ok {x : List Int} {l : List (Int × Nat)} (hx : chk (.tuple (zs x)) = none) (h0 : x ≠ []) (hl : x.length ≤ 1000) (h1 : 1 ≤ fstL x) (h2 : fstL x ≤ 10000000000) (h : wrL (canL (fstL x)) x [] = some l) : m_whole_roots [T x] = some (.ok (.lst (l.map wrD)) [some (T x)]) := by
  unfold m_whole_roots
  dsimp only
  rw [hx]
  dsimp only [polyD]
  rw [intsD_zs]
  dsimp only
  rw [if_neg h0, show sml x.length = true from Nat.ble_eq_true_of_le hl, show Nat.ble 1 (fstL x) = true from Nat.ble_eq_true_of_le h1, show Nat.ble (fstL x) 10000000000 = true from Nat.ble_eq_true_of_le h2, h]; rfl
end L3

namespace L3
open PySem PySem.Spec L2
/-! ### polynomials as lists: values, sums of sizes, lengths -/
def ev (p : List Int) (x : Int) : Int := p.foldr (fun a t => a + x * t) 0
def n1 (p : List Int) : Nat := p.foldr (fun a t => a.natAbs + t) 0
theorem ev_nil (x : Int) : ev [] x = 0 := rfl
theorem ev_cons (a : Int) (p : List Int) (x : Int) : ev (a :: p) x = a + x * ev p x := rfl
theorem n1_cons (a : Int) (p : List Int) : n1 (a :: p) = a.natAbs + n1 p := rfl
theorem n1_mem {p : List Int} {x : Int} (h : x ∈ p) : x.natAbs ≤ n1 p := by
  induction p with
  | nil => cases h
  | cons a p ih =>
    rw [n1_cons]
    rcases List.mem_cons.mp h with e | h
    · subst e; omega
    · have := ih h; omega
theorem trim_cons (x : Int) (xs : List Int) : trim (x :: xs) = (match trim xs with | [] => if x = 0 then [] else [x] | y :: ys => x :: y :: ys) := rfl
theorem ev_trim (x : Int) : ∀ p : List Int, ev (trim p) x = ev p x
  | [] => rfl
  | a :: p => by
    have ih := ev_trim x p
    rw [trim_cons, ev_cons, ← ih]
    split
    · rename_i e
      rw [e]
      split
      · rename_i h0; rw [h0]; simp [ev]
      · simp [ev]
    · rename_i y ys e
      rw [e]; rfl
theorem n1_trim : ∀ p : List Int, n1 (trim p) ≤ n1 p
  | [] => Nat.le_refl _
  | a :: p => by
    have ih := n1_trim p
    rw [trim_cons, n1_cons]
    split
    · split
      · exact Nat.zero_le _
      · rw [n1_cons]; show a.natAbs + 0 ≤ _; omega
    · rename_i y ys e
      rw [n1_cons, ← e]; omega
theorem cf_nil (k : Nat) : cf [] k = 0 := by simp [cf]
theorem cf_zero (a : Int) (p : List Int) : cf (a :: p) 0 = a := rfl
theorem cf_succ (a : Int) (p : List Int) (k : Nat) : cf (a :: p) (k + 1) = cf p k := rfl
theorem bump_zero (a : Int) (p : List Int) (v : Int) : bump (a :: p) 0 v = (a + v) :: p := rfl
theorem bump_succ (a : Int) (p : List Int) (k : Nat) (v : Int) : bump (a :: p) (k + 1) v = a :: bump p k v := rfl
theorem ev_bump (x v : Int) : ∀ (p : List Int) (k : Nat), k < p.length → ev (bump p k v) x = ev p x + v * x ^ k
  | [], k, h => absurd h (Nat.not_lt_zero _)
  | a :: p, 0, _ => by
    rw [bump_zero, ev_cons, ev_cons, Int.pow_zero, Int.mul_one]; omega
  | a :: p, k + 1, h => by
    rw [bump_succ, ev_cons, ev_cons, ev_bump x v p k (Nat.lt_of_succ_lt_succ h), Int.mul_add, Int.pow_succ, Int.mul_left_comm x v, Int.mul_comm x (x ^ k)]; omega
theorem n1_bump (v : Int) : ∀ (p : List Int) (k : Nat), n1 (bump p k v) ≤ n1 p + v.natAbs
  | [], k => by
    show n1 (([] : List Int).set k _) ≤ _
    rw [List.set_nil]; exact Nat.zero_le _
  | a :: p, 0 => by
    rw [bump_zero, n1_cons, n1_cons]
    have := Int.natAbs_add_le a v
    omega
  | a :: p, k + 1 => by
    rw [bump_succ, n1_cons, n1_cons]
    have := n1_bump v p k
    omega
theorem ev_mulRow (x c : Int) (i : Nat) : ∀ (ys : List Int) (j : Nat) (f : List Int), i + j + ys.length ≤ f.length → ev (mulRow f i c j ys) x = ev f x + c * x ^ (i + j) * ev ys x
  | [], j, f, _ => by
    show ev f x = _
    rw [ev_nil, Int.mul_zero, Int.add_zero]
  | y :: ys, j, f, h => by
    have h : i + j + (ys.length + 1) ≤ f.length := h
    show ev (mulRow (bump f (i + j) (c * y)) i c (j + 1) ys) x = _
    rw [ev_mulRow x c i ys (j + 1) _ (by rw [bump_len]; omega), ev_bump x _ f _ (by omega), ev_cons, show i + (j + 1) = i + j + 1 by omega, Int.pow_succ]
    generalize x ^ (i + j) = q
    rw [Int.mul_add, Int.mul_assoc c y q, Int.mul_comm y q, ← Int.mul_assoc c q y, Int.add_assoc]
    congr 2
    rw [← Int.mul_assoc c q x, Int.mul_assoc (c * q) x]
theorem n1_mulRow (c : Int) (i : Nat) : ∀ (ys : List Int) (j : Nat) (f : List Int), n1 (mulRow f i c j ys) ≤ n1 f + c.natAbs * n1 ys
  | [], j, f => Nat.le_add_right _ _
  | y :: ys, j, f => by
    show n1 (mulRow (bump f (i + j) (c * y)) i c (j + 1) ys) ≤ _
    have h1 := n1_mulRow c i ys (j + 1) (bump f (i + j) (c * y))
    have h2 := n1_bump (c * y) f (i + j)
    rw [Int.natAbs_mul] at h2
    rw [n1_cons, Nat.mul_add]
    omega
theorem ev_mulAll (x : Int) (b : List Int) : ∀ (xs : List Int) (i : Nat) (f : List Int), i + xs.length + b.length ≤ f.length + 1 → ev (mulAll f b i xs) x = ev f x + x ^ i * ev xs x * ev b x
  | [], i, f, _ => by
    show ev f x = _
    rw [ev_nil, Int.mul_zero, Int.zero_mul, Int.add_zero]
  | a :: xs, i, f, h => by
    have h : i + (xs.length + 1) + b.length ≤ f.length + 1 := h
    show ev (mulAll (mulRow f i a 0 b) b (i + 1) xs) x = _
    rw [ev_mulAll x b xs (i + 1) _ (by rw [mulRow_len]; omega), ev_mulRow x a i b 0 f (by omega), Nat.add_zero, ev_cons, Int.pow_succ, Int.mul_add, Int.add_mul, Int.add_assoc, Int.mul_comm a (x ^ i), Int.mul_assoc (x ^ i) x]
theorem n1_mulAll (b : List Int) : ∀ (xs : List Int) (i : Nat) (f : List Int), n1 (mulAll f b i xs) ≤ n1 f + n1 xs * n1 b
  | [], i, f => Nat.le_add_right _ _
  | a :: xs, i, f => by
    show n1 (mulAll (mulRow f i a 0 b) b (i + 1) xs) ≤ _
    have h1 := n1_mulAll b xs (i + 1) (mulRow f i a 0 b)
    have h2 := n1_mulRow a i b 0 f
    rw [n1_cons, Nat.add_mul]
    omega
theorem ev_zeros (x : Int) : ∀ n : Nat, ev (List.replicate n 0) x = 0
  | 0 => rfl
  | n + 1 => by
    rw [List.replicate_succ, ev_cons, ev_zeros x n, Int.mul_zero]; rfl
theorem n1_zeros : ∀ n : Nat, n1 (List.replicate n 0) = 0
  | 0 => rfl
  | n + 1 => by
    rw [List.replicate_succ, n1_cons, n1_zeros n]; rfl
theorem ev_mulL (a b : List Int) (x : Int) : ev (mulL a b) x = ev a x * ev b x := by
  unfold mulL
  split
  · rename_i h
    rcases h with rfl | rfl
    · rw [ev_nil, Int.zero_mul]
    · rw [ev_nil, Int.mul_zero]
  · rename_i h
    have l1 : 1 ≤ a.length := Nat.pos_of_ne_zero fun z => h (.inl (List.eq_nil_of_length_eq_zero z))
    rw [ev_trim, ev_mulAll x b a 0 _ (by rw [List.length_replicate]; omega), ev_zeros, Int.pow_zero, Int.one_mul, Int.zero_add]
theorem n1_mulL (a b : List Int) : n1 (mulL a b) ≤ n1 a * n1 b := by
  unfold mulL
  split
  · exact Nat.zero_le _
  · have h1 := n1_mulAll b a 0 (List.replicate (a.length + b.length - 1) 0)
    rw [n1_zeros, Nat.zero_add] at h1
    exact Nat.le_trans (n1_trim _) h1
theorem mulL_len (a b : List Int) : (mulL a b).length ≤ a.length + b.length - 1 := by
  unfold mulL
  split
  · exact Nat.zero_le _
  · refine Nat.le_trans (trim_len _) ?_
    rw [mulAll_len, List.length_replicate]
    exact Nat.le_refl _
def addR : List Int → List Int → List Int
  | [], b => b
  | a, [] => a
  | x :: a, y :: b => (x + y) :: addR a b
theorem addL_eq : ∀ a b : List Int, addL a b = addR a b
  | [], b => by
    refine List.ext_getElem? fun k => ?_
    unfold addL addR
    rw [List.getElem?_map]
    by_cases h : k < b.length
    · rw [List.getElem?_range (by simp; omega), List.getElem?_eq_getElem h]
      show some (cf [] k + cf b k) = _
      rw [cf_nil, Int.zero_add, cf, List.getElem?_eq_getElem h]; rfl
    · rw [List.getElem?_eq_none (by rw [List.length_range]; simp; omega), List.getElem?_eq_none (by omega)]; rfl
  | x :: a, [] => by
    refine List.ext_getElem? fun k => ?_
    unfold addL addR
    rw [List.getElem?_map]
    by_cases h : k < (x :: a).length
    · rw [List.getElem?_range (by simp at h ⊢; omega), List.getElem?_eq_getElem h]
      show some (cf (x :: a) k + cf [] k) = _
      rw [cf_nil, Int.add_zero, cf, List.getElem?_eq_getElem h]; rfl
    · rw [List.getElem?_eq_none (by rw [List.length_range]; simp at h ⊢; omega), List.getElem?_eq_none (by omega)]; rfl
  | x :: a, y :: b => by
    have ih := addL_eq a b
    show addL (x :: a) (y :: b) = (x + y) :: addR a b
    rw [← ih]
    unfold addL
    have e : max (x :: a).length (y :: b).length = max a.length b.length + 1 := by
      rw [List.length_cons, List.length_cons]; omega
    rw [e, List.range_succ_eq_map, List.map_cons, List.map_map]
    rfl
theorem ev_addR (x : Int) : ∀ a b : List Int, ev (addR a b) x = ev a x + ev b x
  | [], b => by
    rw [ev_nil, Int.zero_add]; rfl
  | y :: a, [] => by
    rw [ev_nil, Int.add_zero]; rfl
  | y :: a, z :: b => by
    show ev ((y + z) :: addR a b) x = _
    rw [ev_cons, ev_cons, ev_cons, ev_addR x a b, Int.mul_add]; omega
theorem n1_addR : ∀ a b : List Int, n1 (addR a b) ≤ n1 a + n1 b
  | [], b => by show n1 b ≤ _; omega
  | y :: a, [] => Nat.le_add_right _ _
  | y :: a, z :: b => by
    show n1 ((y + z) :: addR a b) ≤ _
    have := n1_addR a b
    have := Int.natAbs_add_le y z
    rw [n1_cons, n1_cons, n1_cons]; omega
theorem addL_lenR (a b : List Int) : (addL a b).length = max a.length b.length := by
  unfold addL
  rw [List.length_map, List.length_range]
theorem ev_smul (n x : Int) : ∀ a : List Int, ev (a.map fun y => n * y) x = n * ev a x
  | [] => by rw [List.map_nil, ev_nil, Int.mul_zero]
  | a :: p => by
    rw [List.map_cons, ev_cons, ev_cons, ev_smul n x p, Int.mul_add, Int.mul_left_comm x n]
theorem n1_smul (n : Int) : ∀ a : List Int, n1 (a.map fun y => n * y) = n.natAbs * n1 a
  | [] => rfl
  | a :: p => by
    rw [List.map_cons, n1_cons, n1_cons, n1_smul n p, Int.natAbs_mul, Nat.mul_add]
theorem ev_scL (a : List Int) (n x : Int) : ev (scL a n) x = n * ev a x := by
  unfold scL
  rw [ev_trim, ev_smul]
theorem n1_scL (a : List Int) (n : Int) : n1 (scL a n) ≤ n.natAbs * n1 a := by
  unfold scL
  rw [← n1_smul]
  exact n1_trim _
theorem scL_len (a : List Int) (n : Int) : (scL a n).length ≤ a.length := by
  unfold scL
  refine Nat.le_trans (trim_len _) ?_
  rw [List.length_map]
  exact Nat.le_refl _
theorem trim_last : ∀ xs : List Int, (trim xs).getLast? ≠ some 0
  | [] => by simp [trim]
  | x :: xs => by
    have ih := trim_last xs
    unfold trim
    split
    · split
      · simp
      · rename_i h
        simp [h]
    · rename_i y ys e
      rw [e] at ih
      rw [List.getLast?_cons_cons]
      exact ih
/-- a list whose value is 0 at every whole number above a bound is noughts -/
theorem ev_zero_of (N : Int) : ∀ p : List Int, (∀ x : Int, N < x → ev p x = 0) → ∀ a ∈ p, a = 0
  | [], _, a, h => by cases h
  | a :: p, h, b, hb => by
    have ha : a = 0 := by
      have h1 := h (max N 0 + a.natAbs + 1) (by omega)
      rw [ev_cons] at h1
      have hd : (max N 0 + a.natAbs + 1) ∣ a := ⟨-(ev p (max N 0 + a.natAbs + 1)), by rw [Int.mul_neg]; omega⟩
      exact Int.eq_zero_of_dvd_of_natAbs_lt_natAbs hd (by omega)
    have h2 : ∀ x : Int, max N 0 < x → ev p x = 0 := fun x hx => by
      have := h x (by omega)
      rw [ev_cons, ha, Int.zero_add] at this
      exact (Int.mul_eq_zero.mp this).resolve_left (by omega)
    rcases List.mem_cons.mp hb with e | hb
    · rw [e]; exact ha
    · exact ev_zero_of (max N 0) p h2 b hb
theorem last_zero {p : List Int} (h : ∀ a ∈ p, a = 0) (h0 : p ≠ []) : p.getLast? = some 0 := by
  rw [List.getLast?_eq_getLast h0, h _ (List.getLast_mem h0)]
theorem tail_last {a : Int} {p : List Int} (h : (a :: p).getLast? ≠ some 0) : p.getLast? ≠ some 0 := by
  cases p with
  | nil => simp
  | cons b p => rwa [List.getLast?_cons_cons] at h
theorem ev_inj (N : Int) : ∀ p q : List Int, p.getLast? ≠ some 0 → q.getLast? ≠ some 0 → (∀ x : Int, N < x → ev p x = ev q x) → p = q
  | [], [], _, _, _ => rfl
  | [], b :: q, _, hq, h => absurd (last_zero (ev_zero_of N (b :: q) fun x hx => (h x hx).symm) (by simp)) hq
  | a :: p, [], hp, _, h => absurd (last_zero (ev_zero_of N (a :: p) h) (by simp)) hp
  | a :: p, b :: q, hp, hq, h => by
    have key : ∀ x : Int, max N 0 < x → a - b = x * (ev q x - ev p x) := fun x hx => by
      have := h x (by omega)
      rw [ev_cons, ev_cons] at this
      rw [Int.mul_sub]; omega
    have hab : a - b = 0 := by
      have h1 := key (max N 0 + (a - b).natAbs + 1) (by omega)
      exact Int.eq_zero_of_dvd_of_natAbs_lt_natAbs ⟨_, h1⟩ (by omega)
    have h2 : ∀ x : Int, max N 0 < x → ev p x = ev q x := fun x hx => by
      have h1 := key x hx
      rw [hab] at h1
      have := (Int.mul_eq_zero.mp h1.symm).resolve_left (by omega)
      omega
    rw [ev_inj (max N 0) p q (tail_last hp) (tail_last hq) h2, show a = b by omega]
/-- the sign of the values far out is the last coefficient's -/
theorem ev_far : ∀ p : List Int, ∀ l : Int, p.getLast? = some l → l ≠ 0 → ∃ N : Int, ∀ x : Int, N < x → (0 < l → 0 < ev p x) ∧ (l < 0 → ev p x < 0)
  | [], l, h, _ => by cases h
  | [a], l, h, _ => by
    have ha : a = l := Option.some.inj h
    subst ha
    exact ⟨0, fun x _ => by
      have e : ev [a] x = a := by rw [ev_cons, ev_nil, Int.mul_zero, Int.add_zero]
      rw [e]
      exact ⟨id, id⟩⟩
  | a :: b :: p, l, h, h0 => by
    rw [List.getLast?_cons_cons] at h
    obtain ⟨N, hN⟩ := ev_far (b :: p) l h h0
    refine ⟨max N 0 + a.natAbs, fun x hx => ?_⟩
    obtain ⟨h1, h2⟩ := hN x (by omega)
    rw [ev_cons]
    have hx0 : 0 < x := by omega
    constructor
    · intro hl
      have := Int.mul_le_mul_of_nonneg_left (show (1 : Int) ≤ ev (b :: p) x from h1 hl) (show 0 ≤ x by omega)
      omega
    · intro hl
      have := Int.mul_le_mul_of_nonneg_left (show ev (b :: p) x ≤ (-1 : Int) by have := h2 hl; omega) (show 0 ≤ x by omega)
      omega
theorem ev_far_ne {p : List Int} (h : p ≠ []) (hl : p.getLast? ≠ some 0) : ∃ N : Int, ∀ x : Int, N < x → ev p x ≠ 0 := by
  have e := List.getLast?_eq_getLast h
  have h0 : p.getLast h ≠ 0 := fun z => hl (by rw [e, z])
  obtain ⟨N, hN⟩ := ev_far p _ e h0
  refine ⟨N, fun x hx z => ?_⟩
  obtain ⟨h1, h2⟩ := hN x hx
  rcases Int.lt_trichotomy (p.getLast h) 0 with g | g | g
  · have := h2 g; omega
  · exact h0 g
  · have := h1 g; omega
/-! ### products, plainly -/
def mulR : List Int → List Int → List Int
  | [], _ => []
  | a :: p, b => addR (b.map fun y => a * y) (0 :: mulR p b)
theorem ev_mulR (x : Int) : ∀ p b : List Int, ev (mulR p b) x = ev p x * ev b x
  | [], b => by
    rw [ev_nil, Int.zero_mul]; rfl
  | a :: p, b => by
    show ev (addR (b.map fun y => a * y) (0 :: mulR p b)) x = _
    rw [ev_addR, ev_smul, ev_cons, ev_mulR x p b, ev_cons, Int.add_mul, Int.zero_add, Int.mul_assoc]
theorem addR_len : ∀ a b : List Int, (addR a b).length = max a.length b.length
  | [], b => by show b.length = _; simp
  | x :: a, [] => by show (x :: a).length = _; simp
  | x :: a, y :: b => by
    show (addR a b).length + 1 = _
    rw [addR_len a b, List.length_cons, List.length_cons]; omega
theorem addR_last : ∀ a b : List Int, a.length < b.length → (addR a b).getLast? = b.getLast?
  | [], b, _ => rfl
  | x :: a, [], h => absurd h (Nat.not_lt_zero _)
  | x :: a, [y], h => absurd h (by simp)
  | x :: a, y :: z :: b, h => by
    have ih := addR_last a (z :: b) (Nat.lt_of_succ_lt_succ h)
    show ((x + y) :: addR a (z :: b)).getLast? = _
    have hl := addR_len a (z :: b)
    cases q : addR a (z :: b) with
    | nil => rw [q] at hl; simp only [List.length_nil, List.length_cons] at hl; omega
    | cons u w =>
      rw [q] at ih
      rw [List.getLast?_cons_cons, List.getLast?_cons_cons]
      exact ih
theorem mulR_len : ∀ p b : List Int, p ≠ [] → b ≠ [] → (mulR p b).length = p.length + b.length - 1
  | [], b, h, _ => absurd rfl h
  | [a], b, _, hb => by
    show (addR (b.map fun y => a * y) [0]).length = _
    have := List.length_pos_iff.mpr hb
    rw [addR_len, List.length_map, List.length_cons, List.length_cons, List.length_nil]; omega
  | a :: c :: p, b, _, hb => by
    show (addR (b.map fun y => a * y) (0 :: mulR (c :: p) b)).length = _
    have := List.length_pos_iff.mpr hb
    rw [addR_len, List.length_map, List.length_cons, mulR_len (c :: p) b (by simp) hb]; simp only [List.length_cons]; omega
theorem map_last (a : Int) : ∀ (b : List Int) (l : Int), b.getLast? = some l → (b.map fun y => a * y).getLast? = some (a * l) := fun b l h => by
  rw [List.getLast?_map, h]; rfl
theorem mulR_last : ∀ (p b : List Int) (l m : Int), p.getLast? = some l → b.getLast? = some m → (mulR p b).getLast? = some (l * m)
  | [], b, l, m, h, _ => by cases h
  | [a], b, l, m, h, hb => by
    cases h
    show (addR (b.map fun y => a * y) [0]).getLast? = _
    cases b with
    | nil => cases hb
    | cons c b =>
      cases b with
      | nil =>
        cases hb
        show some (a * c + 0) = _
        rw [Int.add_zero]
        rfl
      | cons d b =>
        have h2 := map_last a (c :: d :: b) m hb
        show (addR ((a * c) :: (a * d) :: b.map fun y => a * y) [0]).getLast? = _
        show ((a * c + 0) :: (a * d) :: b.map fun y => a * y).getLast? = _
        rw [List.getLast?_cons_cons]
        have h2 : ((a * c) :: (a * d) :: b.map fun y => a * y).getLast? = some (a * m) := h2
        rw [List.getLast?_cons_cons] at h2
        exact h2
  | a :: c :: p, b, l, m, h, hb => by
    rw [List.getLast?_cons_cons] at h
    have ih := mulR_last (c :: p) b l m h hb
    show (addR (b.map fun y => a * y) (0 :: mulR (c :: p) b)).getLast? = _
    have hbn : b ≠ [] := fun z => by rw [z] at hb; cases hb
    have hl := mulR_len (c :: p) b (by simp) hbn
    have lb := List.length_pos_iff.mpr hbn
    rw [addR_last _ _ (by rw [List.length_map, List.length_cons, hl, List.length_cons]; omega)]
    cases q : mulR (c :: p) b with
    | nil => rw [q] at ih; cases ih
    | cons u w => rw [List.getLast?_cons_cons, ← q]; exact ih
theorem mulL_trim (a b : List Int) : (mulL a b).getLast? ≠ some 0 := by
  unfold mulL
  split
  · simp
  · exact trim_last _
theorem mulL_eq {a b : List Int} {l m : Int} (ha : a.getLast? = some l) (hb : b.getLast? = some m) (hl : l ≠ 0) (hm : m ≠ 0) : mulL a b = mulR a b :=
  ev_inj 0 _ _ (mulL_trim a b) (by
    rw [mulR_last a b l m ha hb]
    exact fun z => Int.mul_ne_zero hl hm (Option.some.inj z)) fun x _ => by rw [ev_mulL, ev_mulR]
theorem mulL_last {a b : List Int} {l m : Int} (ha : a.getLast? = some l) (hb : b.getLast? = some m) (hl : l ≠ 0) (hm : m ≠ 0) : (mulL a b).getLast? = some (l * m) := by
  rw [mulL_eq ha hb hl hm, mulR_last a b l m ha hb]
theorem mulL_length {a b : List Int} {l m : Int} (ha : a.getLast? = some l) (hb : b.getLast? = some m) (hl : l ≠ 0) (hm : m ≠ 0) : (mulL a b).length = a.length + b.length - 1 := by
  rw [mulL_eq ha hb hl hm, mulR_len a b (fun z => by rw [z] at ha; cases ha) (fun z => by rw [z] at hb; cases hb)]
end L3

namespace L3
open PySem PySem.Spec L2
/-! ### polynomial functions -/
def IsP (f : Int → Int) : Prop := ∃ l : List Int, ∀ x, f x = ev l x
theorem IsP.of (l : List Int) : IsP (ev l) := ⟨l, fun _ => rfl⟩
theorem IsP.const (c : Int) : IsP fun _ => c := ⟨[c], fun x => by rw [ev_cons, ev_nil, Int.mul_zero, Int.add_zero]⟩
theorem IsP.add {f g : Int → Int} (h : IsP f) (h' : IsP g) : IsP fun x => f x + g x := by
  obtain ⟨l, h⟩ := h
  obtain ⟨m, h'⟩ := h'
  exact ⟨addR l m, fun x => by show f x + g x = _; rw [ev_addR, h, h']⟩
theorem IsP.mul {f g : Int → Int} (h : IsP f) (h' : IsP g) : IsP fun x => f x * g x := by
  obtain ⟨l, h⟩ := h
  obtain ⟨m, h'⟩ := h'
  exact ⟨mulR l m, fun x => by show f x * g x = _; rw [ev_mulR, h, h']⟩
theorem IsP.sub {f g : Int → Int} (h : IsP f) (h' : IsP g) : IsP fun x => f x - g x := by
  obtain ⟨l, h1⟩ := h.add ((IsP.const (-1)).mul h')
  exact ⟨l, fun x => by rw [← h1]; show f x - g x = f x + -1 * g x; omega⟩
theorem IsP.pow (k : Nat) : IsP fun x => x ^ k := by
  induction k with
  | zero => exact ⟨[1], fun x => by show x ^ 0 = _; rw [Int.pow_zero, ev_cons, ev_nil, Int.mul_zero, Int.add_zero]⟩
  | succ k ih =>
    obtain ⟨l, h⟩ := ih
    exact ⟨0 :: l, fun x => by rw [ev_cons, ← h, Int.zero_add]; show x ^ (k + 1) = x * x ^ k; rw [Int.pow_succ, Int.mul_comm]⟩
/-- trimmed -/
abbrev Tr (a : List Int) : Prop := a.getLast? ≠ some 0
theorem tr_last {a : List Int} (h : Tr a) (h0 : a ≠ []) : ∃ l, a.getLast? = some l ∧ l ≠ 0 := by
  have e := List.getLast?_eq_getLast h0
  exact ⟨_, e, fun z => h (by rw [e, z])⟩
theorem smul_tr {a : List Int} (h : Tr a) {c : Int} (hc : c ≠ 0) : Tr (a.map fun y => c * y) := fun z => by
  rw [List.getLast?_map] at z
  cases q : a.getLast? with
  | none => rw [q] at z; cases z
  | some l =>
    rw [q] at z
    have : c * l = 0 := Option.some.inj z
    rcases Int.mul_eq_zero.mp this with e | e
    · exact hc e
    · exact h (by rw [q, e])
theorem ev_all0 {a : List Int} (h : Tr a) (hz : ∀ x, ev a x = 0) : a = [] :=
  ev_inj 0 a [] h (by simp) fun x _ => by rw [hz x, ev_nil]
/-- what divides has its degree -/
theorem div_deg {a b : List Int} {f : Int → Int} (ha : Tr a) (ha0 : a ≠ []) (hb : Tr b) (hf : IsP f) (h : ∀ x, ev a x = f x * ev b x) : b ≠ [] ∧ ∃ l : List Int, Tr l ∧ l ≠ [] ∧ (∀ x, f x = ev l x) ∧ a = mulR l b ∧ a.length = l.length + b.length - 1 := by
  obtain ⟨l0, hl0⟩ := hf
  have hl : ∀ x, f x = ev (trim l0) x := fun x => by rw [ev_trim, hl0]
  have htr : Tr (trim l0) := trim_last l0
  have hb0 : b ≠ [] := fun z => ha0 (ev_all0 ha fun x => by rw [h, z, ev_nil, Int.mul_zero])
  have hl1 : trim l0 ≠ [] := fun z => ha0 (ev_all0 ha fun x => by rw [h, hl, z, ev_nil, Int.zero_mul])
  obtain ⟨m, h1, h2⟩ := tr_last htr hl1
  obtain ⟨n, h3, h4⟩ := tr_last hb hb0
  have e : a = mulR (trim l0) b := ev_inj 0 _ _ ha (by
    show (mulR (trim l0) b).getLast? ≠ some 0
    rw [mulR_last _ _ m n h1 h3]
    exact fun z => Int.mul_ne_zero h2 h4 (Option.some.inj z)) fun x _ => by rw [h, hl, ev_mulR]
  exact ⟨hb0, trim l0, htr, hl1, hl, e, by rw [e, mulR_len _ _ hl1 hb0]⟩
/-! ### contents -/
theorem gcdF_dvd : ∀ (xs : List Int) (g : Nat), gcdF xs g ∣ g ∧ ∀ x ∈ xs, ((gcdF xs g : Nat) : Int) ∣ x
  | [], g => ⟨Nat.dvd_refl _, fun x hx => by cases hx⟩
  | y :: ys, g => by
    obtain ⟨h1, h2⟩ := gcdF_dvd ys (Int.gcd g y)
    have e : gcdF (y :: ys) g = gcdF ys (Int.gcd g y) := rfl
    rw [e]
    refine ⟨Nat.dvd_trans h1 ?_, fun x hx => ?_⟩
    · have := Int.gcd_dvd_left (a := (g : Int)) (b := y)
      exact Int.natCast_dvd_natCast.mp this
    · rcases List.mem_cons.mp hx with e | hx
      · subst e
        exact Int.dvd_trans (Int.natCast_dvd_natCast.mpr h1) (Int.gcd_dvd_right _ _)
      · exact h2 x hx
theorem dvd_gcdF : ∀ (xs : List Int) (g d : Nat), d ∣ g → (∀ x ∈ xs, (d : Int) ∣ x) → d ∣ gcdF xs g
  | [], g, d, h, _ => h
  | y :: ys, g, d, h, hx => by
    refine dvd_gcdF ys (Int.gcd g y) d ?_ fun x m => hx x (List.mem_cons_of_mem _ m)
    exact Int.dvd_gcd (Int.natCast_dvd_natCast.mpr h) (hx y List.mem_cons_self)
theorem gcdF_smul (c : Int) : ∀ (xs : List Int) (g : Nat), gcdF (xs.map fun y => c * y) (c.natAbs * g) = c.natAbs * gcdF xs g
  | [], g => rfl
  | y :: ys, g => by
    show gcdF (ys.map fun y => c * y) (Int.gcd ((c.natAbs * g : Nat) : Int) (c * y)) = c.natAbs * gcdF ys (Int.gcd g y)
    have e : Int.gcd ((c.natAbs * g : Nat) : Int) (c * y) = c.natAbs * Int.gcd g y := by
      show Nat.gcd ((c.natAbs * g : Nat) : Int).natAbs (c * y).natAbs = c.natAbs * Nat.gcd (g : Int).natAbs y.natAbs
      rw [Int.natAbs_mul, Int.natAbs_natCast, Int.natAbs_natCast, Nat.gcd_mul_left]
    rw [e, gcdF_smul c ys]
theorem gcdF_smul0 (c : Int) (xs : List Int) : gcdF (xs.map fun y => c * y) 0 = c.natAbs * gcdF xs 0 := by
  have := gcdF_smul c xs 0
  rwa [Nat.mul_zero] at this
/-- primitive, the last one above 0 -/
structure Prim (a : List Int) : Prop where
  pos : ∃ l, a.getLast? = some l ∧ 0 < l
  one : gcdF a 0 = 1
theorem Prim.tr {a : List Int} (h : Prim a) : Tr a := fun z => by
  obtain ⟨l, h1, h2⟩ := h.pos
  rw [h1] at z
  have : l = 0 := Option.some.inj z
  omega
theorem Prim.ne {a : List Int} (h : Prim a) : a ≠ [] := fun z => by
  obtain ⟨l, h1, h2⟩ := h.pos
  rw [z] at h1
  cases h1
theorem smul_inj {a : List Int} {c d : Int} {b : List Int} (ha : Tr a) (hb : Tr b) (hc : c ≠ 0) (hd : d ≠ 0) (h : ∀ x, c * ev a x = d * ev b x) : (a.map fun y => c * y) = b.map fun y => d * y :=
  ev_inj 0 _ _ (smul_tr ha hc) (smul_tr hb hd) fun x _ => by rw [ev_smul, ev_smul, h]
theorem map_inj {c : Int} (hc : c ≠ 0) : ∀ {a b : List Int}, (a.map fun y => c * y) = (b.map fun y => c * y) → a = b
  | [], [], _ => rfl
  | [], _ :: _, h => by simp at h
  | _ :: _, [], h => by simp at h
  | x :: a, y :: b, h => by
    rw [List.map_cons, List.map_cons] at h
    injection h with h1 h2
    rw [Int.eq_of_mul_eq_mul_left hc h1, map_inj hc h2]
theorem prim_uniq {a b : List Int} (ha : Prim a) (hb : Prim b) {c d : Int} (hc : c ≠ 0) (hd : d ≠ 0) (h : ∀ x, c * ev a x = d * ev b x) : a = b := by
  have e := smul_inj ha.tr hb.tr hc hd h
  have e2 : c.natAbs = d.natAbs := by
    have := congrArg (gcdF · 0) e
    simp only [gcdF_smul0, ha.one, hb.one, Nat.mul_one] at this
    exact this
  have e3 : c = d := by
    obtain ⟨l, h1, h2⟩ := ha.pos
    obtain ⟨m, h3, h4⟩ := hb.pos
    have := congrArg List.getLast? e
    rw [List.getLast?_map, List.getLast?_map, h1, h3] at this
    have this : c * l = d * m := Option.some.inj this
    rcases Int.natAbs_eq_natAbs_iff.mp e2 with z | z
    · exact z
    · exfalso
      rw [z] at this
      rcases Int.lt_trichotomy d 0 with g | g | g
      · have p1 := Int.mul_pos_of_neg_of_neg (a := d) (b := -l) g (by omega)
        have p2 := Int.mul_neg_of_neg_of_pos (a := d) (b := m) g h4
        have p3 : -d * l = d * -l := by rw [Int.neg_mul, Int.mul_neg]
        omega
      · exact hd g
      · have p1 := Int.mul_neg_of_pos_of_neg (a := d) (b := -l) g (by omega)
        have p2 := Int.mul_pos (a := d) (b := m) g h4
        have p3 : -d * l = d * -l := by rw [Int.neg_mul, Int.mul_neg]
        omega
  rw [e3] at e
  exact map_inj hd e
/-! ### the plain one -/
theorem cont_abs (a : List Int) : (cont a).natAbs = gcdF a 0 := by
  unfold cont
  split <;> omega
theorem cont_ne {a : List Int} (h : Tr a) (h0 : a ≠ []) : cont a ≠ 0 := fun z => by
  have h1 := cont_abs a
  rw [z] at h1
  obtain ⟨l, h2, h3⟩ := tr_last h h0
  have h4 := (gcdF_dvd a 0).2 l (List.mem_of_getLast? h2)
  rw [← h1] at h4
  exact h3 (Int.zero_dvd.mp h4)
theorem plain_smul {a : List Int} (h : Tr a) (h0 : a ≠ []) : (plainL a).map (fun y => cont a * y) = a := by
  unfold plainL
  rw [if_neg h0, List.map_map]
  refine (List.map_congr_left fun x hx => ?_).trans (List.map_id a)
  show cont a * x.fdiv (cont a) = x
  have hd : cont a ∣ x := Int.natAbs_dvd.mp (by rw [cont_abs]; exact (gcdF_dvd a 0).2 x hx)
  exact Int.mul_fdiv_cancel' hd
theorem plain_ev {a : List Int} (h : Tr a) (h0 : a ≠ []) (x : Int) : ev a x = cont a * ev (plainL a) x := by
  conv => lhs; rw [← plain_smul h h0]
  rw [ev_smul]
theorem plain_len (a : List Int) : (plainL a).length = a.length := by
  unfold plainL
  split
  · rename_i h; rw [h]
  · rw [List.length_map]
theorem plain_prim {a : List Int} (h : Tr a) (h0 : a ≠ []) : Prim (plainL a) := by
  have e := plain_smul h h0
  have hc := cont_ne h h0
  refine ⟨?_, ?_⟩
  · obtain ⟨l, h2, h3⟩ := tr_last h h0
    have h4 : plainL a ≠ [] := fun z => h0 (List.eq_nil_of_length_eq_zero (by rw [← plain_len, z]; rfl))
    refine ⟨_, List.getLast?_eq_getLast h4, ?_⟩
    have h5 := congrArg List.getLast? e
    rw [List.getLast?_map, List.getLast?_eq_getLast h4, h2] at h5
    have h5 : cont a * (plainL a).getLast h4 = l := Option.some.inj h5
    generalize (plainL a).getLast h4 = m at h5 ⊢
    have h6 : (0 < l → 0 < cont a) ∧ (¬ 0 < l → cont a < 0) := by
      have ca := cont_abs a
      have cu : cont a = if 0 < l then (gcdF a 0 : Int) else -(gcdF a 0 : Int) := by
        unfold cont
        rw [h2]; rfl
      constructor
      · intro hl
        rw [if_pos hl] at cu
        omega
      · intro hl
        rw [if_neg hl] at cu
        omega
    by_cases hl : 0 < l
    · have := h6.1 hl
      rcases Int.lt_trichotomy m 0 with g | g | g
      · have := Int.mul_neg_of_pos_of_neg this g
        omega
      · rw [g, Int.mul_zero] at h5; omega
      · exact g
    · have := h6.2 hl
      rcases Int.lt_trichotomy m 0 with g | g | g
      · have := Int.mul_pos_of_neg_of_neg this g
        omega
      · rw [g, Int.mul_zero] at h5; omega
      · exact g
  · have h1 := congrArg (gcdF · 0) e
    simp only [gcdF_smul0, cont_abs] at h1
    have h2 : gcdF a 0 ≠ 0 := fun z => hc (Int.natAbs_eq_zero.mp (by rw [cont_abs, z]))
    have h3 : gcdF a 0 * gcdF (plainL a) 0 = gcdF a 0 * 1 := by rw [h1, Nat.mul_one]
    exact Nat.eq_of_mul_eq_mul_left (Nat.pos_of_ne_zero h2) h3
theorem plain_of_prim {a : List Int} (h : Prim a) : plainL a = a := by
  refine prim_uniq (plain_prim h.tr h.ne) h (cont_ne h.tr h.ne) (d := 1) (by decide) fun x => ?_
  rw [← plain_ev h.tr h.ne, Int.one_mul]
theorem plain_prop {a b : List Int} (ha : Tr a) (ha0 : a ≠ []) (hb : Tr b) (hb0 : b ≠ []) {c d : Int} (hc : c ≠ 0) (hd : d ≠ 0) (h : ∀ x, c * ev a x = d * ev b x) : plainL a = plainL b :=
  prim_uniq (plain_prim ha ha0) (plain_prim hb hb0) (c := c * cont a) (d := d * cont b) (Int.mul_ne_zero hc (cont_ne ha ha0)) (Int.mul_ne_zero hd (cont_ne hb hb0)) fun x => by
    rw [Int.mul_assoc, Int.mul_assoc, ← plain_ev ha ha0, ← plain_ev hb hb0, h]
theorem plain_n1 {a : List Int} (h : Tr a) : n1 (plainL a) ≤ n1 a := by
  by_cases h0 : a = []
  · rw [h0]; exact Nat.zero_le _
  · have e := congrArg n1 (plain_smul h h0)
    rw [n1_smul] at e
    have := cont_ne h h0
    rw [← e]
    exact Nat.le_mul_of_pos_left _ (by omega)
/-! ### one step of the left-over -/
theorem ev_shift (x : Int) (b : List Int) : ∀ s : Nat, ev (shiftL s b) x = x ^ s * ev b x
  | 0 => by
    show ev b x = _
    rw [Int.pow_zero, Int.one_mul]
  | s + 1 => by
    show ev (0 :: shiftL s b) x = _
    rw [ev_cons, ev_shift x b s, Int.zero_add, Int.pow_succ, Int.mul_comm (x ^ s) x, Int.mul_assoc]
theorem ev_less (a b : List Int) (x : Int) : ev (lessL a b) x = ev a x - ev b x := by
  unfold lessL
  rw [ev_trim, addL_eq, ev_addR, ev_scL]; omega
theorem ev_step (a b : List Int) (x : Int) : ev (stepA a b) x = lastI b * ev a x - lastI a * x ^ (a.length - b.length) * ev b x := by
  unfold stepA
  rw [ev_less, ev_scL, ev_scL, ev_shift, Int.mul_assoc]
theorem less_tr (a b : List Int) : Tr (lessL a b) := trim_last _
theorem n1_less (a b : List Int) : n1 (lessL a b) ≤ n1 a + n1 b := by
  unfold lessL
  refine Nat.le_trans (n1_trim _) ?_
  rw [addL_eq]
  refine Nat.le_trans (n1_addR _ _) ?_
  have := n1_scL b (-1)
  have e : (-1 : Int).natAbs = 1 := rfl
  rw [e, Nat.one_mul] at this
  omega
theorem n1_append (a b : List Int) : n1 (a ++ b) = n1 a + n1 b := by
  induction a with
  | nil => show n1 b = 0 + n1 b; omega
  | cons x a ih => rw [List.cons_append, n1_cons, n1_cons, ih]; omega
theorem n1_shift (s : Nat) (b : List Int) : n1 (shiftL s b) = n1 b := by
  unfold shiftL
  rw [n1_append, n1_zeros, Nat.zero_add]
theorem last_n1 (a : List Int) : (lastI a).natAbs ≤ n1 a := by
  unfold lastI
  cases q : a.getLast? with
  | none => exact Nat.zero_le _
  | some l => exact n1_mem (List.mem_of_getLast? q)
theorem n1_step (a b : List Int) : n1 (stepA a b) ≤ 2 * n1 b * n1 a := by
  unfold stepA
  refine Nat.le_trans (n1_less _ _) ?_
  have h1 := n1_scL a (lastI b)
  have h2 := n1_scL (shiftL (a.length - b.length) b) (lastI a)
  rw [n1_shift] at h2
  have h3 := Nat.mul_le_mul_right (n1 a) (last_n1 b)
  have h4 := Nat.mul_le_mul_right (n1 b) (last_n1 a)
  rw [Nat.mul_comm (n1 a) (n1 b)] at h4
  have : 2 * n1 b * n1 a = n1 b * n1 a + n1 b * n1 a := by rw [Nat.mul_assoc]; omega
  omega
theorem trim_tr {a : List Int} (h : Tr a) : trim a = a := ev_inj 0 _ _ (trim_last a) h fun x _ => by rw [ev_trim]
theorem trim_short {a : List Int} (h : a.getLast? = some 0) : (trim a).length < a.length := by
  rcases Nat.lt_or_ge (trim a).length a.length with g | g
  · exact g
  · exfalso
    have e := trim_take a
    rw [List.take_of_length_le g] at e
    exact trim_last a (by rw [← e, h])
theorem addR_last2 : ∀ (a b : List Int) (l m : Int), a.length = b.length → a.getLast? = some l → b.getLast? = some m → (addR a b).getLast? = some (l + m)
  | [], b, l, m, _, h, _ => by cases h
  | [x], [y], l, m, _, h, h2 => by
    cases h; cases h2; rfl
  | [x], [], l, m, h, _, _ => by simp at h
  | [x], y :: z :: b, l, m, h, _, _ => by simp at h
  | x :: u :: a, [], l, m, h, _, _ => by simp at h
  | x :: u :: a, [y], l, m, h, _, _ => by simp at h
  | x :: u :: a, y :: z :: b, l, m, h, h1, h2 => by
    rw [List.getLast?_cons_cons] at h1 h2
    have ih := addR_last2 (u :: a) (z :: b) l m (by simpa using h) h1 h2
    show ((x + y) :: (u + z) :: addR a b).getLast? = _
    rw [List.getLast?_cons_cons]
    exact ih
theorem last_some {a : List Int} (h0 : a ≠ []) : a.getLast? = some (lastI a) := by
  unfold lastI
  rw [List.getLast?_eq_getLast h0]; rfl
theorem scL_tr {a : List Int} (h : Tr a) {c : Int} (hc : c ≠ 0) : scL a c = a.map fun y => c * y := trim_tr (smul_tr h hc)
theorem step_short {a b : List Int} (ha : Tr a) (hb : Tr b) (hb0 : b ≠ []) (hl : b.length ≤ a.length) : Tr (stepA a b) ∧ (stepA a b).length < a.length := by
  have hbl := List.length_pos_iff.mpr hb0
  have ha0 : a ≠ [] := fun z => by rw [z] at hl; simp only [List.length_nil] at hl; omega
  obtain ⟨la, a1, a2⟩ := tr_last ha ha0
  obtain ⟨lb, b1, b2⟩ := tr_last hb hb0
  have e1 : lastI a = la := by unfold lastI; rw [a1]; rfl
  have e2 : lastI b = lb := by unfold lastI; rw [b1]; rfl
  have sl : (shiftL (a.length - b.length) b).getLast? = some lb := by
    unfold shiftL
    rw [List.getLast?_append, b1]; rfl
  have st : Tr (shiftL (a.length - b.length) b) := fun z => by rw [sl] at z; exact b2 (Option.some.inj z)
  have p1 := scL_tr ha b2
  have p2 := scL_tr st a2
  have hs : (shiftL (a.length - b.length) b).length = a.length := by
    unfold shiftL
    rw [List.length_append, List.length_replicate]; omega
  refine ⟨less_tr _ _, ?_⟩
  unfold stepA
  rw [e1, e2, p1, p2]
  have q : Tr ((shiftL (a.length - b.length) b).map fun y => la * y) := smul_tr st a2
  unfold lessL
  rw [scL_tr q (by decide), addL_eq]
  have hlen : (addR (a.map fun y => lb * y) (((shiftL (a.length - b.length) b).map fun y => la * y).map fun y => -1 * y)).length = a.length := by
    rw [addR_len, List.length_map, List.length_map, List.length_map, hs]; omega
  have := trim_short (a := addR (a.map fun y => lb * y) (((shiftL (a.length - b.length) b).map fun y => la * y).map fun y => -1 * y)) (by
    rw [addR_last2 _ _ (lb * la) (-1 * (la * lb)) (by simp [hs]) (map_last lb a la a1) (map_last (-1) _ _ (map_last la _ _ sl))]
    congr 1
    rw [Int.mul_comm lb la]; omega)
  rw [hlen] at this
  exact this
/-! ### the left-over -/
theorem left_spec : ∀ (n : Nat) (a b r : List Int), Tr a → Tr b → leftL n a b = some r → Tr r ∧ r.length < b.length ∧ ∃ (k : Int) (q : Int → Int), k ≠ 0 ∧ IsP q ∧ ∀ x, k * ev a x = q x * ev b x + ev r x
  | 0, a, b, r, ha, hb, h => by
    unfold leftL at h
    split at h
    · rename_i hl
      cases h
      exact ⟨ha, hl, 1, fun _ => 0, by decide, .const 0, fun x => by rw [Int.one_mul, Int.zero_mul, Int.zero_add]⟩
    · cases h
  | n + 1, a, b, r, ha, hb, h => by
    unfold leftL at h
    split at h
    · rename_i hl
      cases h
      exact ⟨ha, hl, 1, fun _ => 0, by decide, .const 0, fun x => by rw [Int.one_mul, Int.zero_mul, Int.zero_add]⟩
    · rename_i hl
      split at h
      case isFalse => cases h
      rename_i hc
      simp only [Bool.and_eq_true, Bool.not_eq_true', decide_eq_false_iff_not] at hc
      obtain ⟨⟨ha0, hb0⟩, _⟩ := hc
      obtain ⟨s1, s2⟩ := step_short ha hb hb0 (by omega)
      obtain ⟨h1, h2, k, q, hk, hq, e⟩ := left_spec n _ b r s1 hb h
      obtain ⟨lb, b1, b2⟩ := tr_last hb hb0
      have e2 : lastI b = lb := by unfold lastI; rw [b1]; rfl
      refine ⟨h1, h2, k * lb, fun x => k * lastI a * x ^ (a.length - b.length) + q x, Int.mul_ne_zero hk b2, ((IsP.const (k * lastI a)).mul (.pow _)).add hq, fun x => ?_⟩
      have e := e x
      rw [ev_step, e2] at e
      show k * lb * ev a x = (k * lastI a * x ^ (a.length - b.length) + q x) * ev b x + ev r x
      grind
/-! ### the greatest common one -/
/-- prim or nothing -/
def PrimO (a : List Int) : Prop := a = [] ∨ Prim a
theorem PrimO.tr {a : List Int} (h : PrimO a) : Tr a := by
  rcases h with h | h
  · rw [h]; simp
  · exact h.tr
theorem plainO_spec {a p : List Int} (h : Tr a) (e : plainO a = some p) : p = plainL a ∧ PrimO p := by
  unfold plainO at e
  split at e
  case isFalse => cases e
  cases e
  refine ⟨rfl, ?_⟩
  by_cases h0 : a = []
  · left; rw [h0]; rfl
  · exact .inr (plain_prim h h0)
theorem com_spec : ∀ (n : Nat) (a b g : List Int), Prim a → PrimO b → comL n a b = some g → Prim g ∧
    (∃ (c : Int) (p : Int → Int), c ≠ 0 ∧ IsP p ∧ ∀ x, c * ev a x = p x * ev g x) ∧ (∃ (c : Int) (p : Int → Int), c ≠ 0 ∧ IsP p ∧ ∀ x, c * ev b x = p x * ev g x) ∧
    (∃ (c : Int) (u v : Int → Int), c ≠ 0 ∧ IsP u ∧ IsP v ∧ ∀ x, c * ev g x = u x * ev a x + v x * ev b x)
  | 0, a, b, g, _, _, h => by cases h
  | n + 1, a, b, g, ha, hb, h => by
    unfold comL at h
    split at h
    · rename_i h0
      cases h
      refine ⟨ha, ⟨1, fun _ => 1, by decide, .const 1, fun x => rfl⟩, ⟨1, fun _ => 0, by decide, .const 0, fun x => ?_⟩, ⟨1, fun _ => 1, fun _ => 0, by decide, .const 1, .const 0, fun x => ?_⟩⟩
      · rw [h0, ev_nil, Int.mul_zero, Int.zero_mul]
      · rw [Int.zero_mul, Int.add_zero]
    · rename_i h0
      have hb' : Prim b := hb.resolve_left h0
      cases q1 : leftO a b with
      | none => rw [q1] at h; cases h
      | some r =>
        rw [q1] at h
        dsimp only at h
        cases q2 : plainO r with
        | none => rw [q2] at h; cases h
        | some p =>
          rw [q2] at h
          dsimp only at h
          obtain ⟨r1, r2, k, q, hk, hq, e1⟩ := left_spec _ a b r ha.tr hb'.tr q1
          obtain ⟨ep, hp⟩ := plainO_spec r1 q2
          obtain ⟨hg, ⟨c1, p1, hc1, hp1, f1⟩, ⟨c2, p2, hc2, hp2, f2⟩, ⟨c3, u, v, hc3, hu, hv, f3⟩⟩ := com_spec n b p g hb' hp h
          obtain ⟨d, hd, er⟩ : ∃ d : Int, d ≠ 0 ∧ ∀ x, ev r x = d * ev p x := by
            by_cases hr : r = []
            · exact ⟨1, by decide, fun x => by rw [ep, hr]; rfl⟩
            · exact ⟨cont r, cont_ne r1 hr, fun x => by rw [ep]; exact plain_ev r1 hr x⟩
          refine ⟨hg, ⟨k * c1 * c2, fun x => q x * (c2 * p1 x) + d * (c1 * p2 x), Int.mul_ne_zero (Int.mul_ne_zero hk hc1) hc2, (hq.mul ((IsP.const c2).mul hp1)).add ((IsP.const d).mul ((IsP.const c1).mul hp2)), fun x => ?_⟩, ⟨c1, p1, hc1, hp1, f1⟩,
            ⟨d * c3, fun x => k * v x, fun x => d * u x - q x * v x, Int.mul_ne_zero hd hc3, (IsP.const k).mul hv, ((IsP.const d).mul hu).sub (hq.mul hv), fun x => ?_⟩⟩
          · have a1 := e1 x
            have a2 := f1 x
            have a3 := f2 x
            have a4 := er x
            show k * c1 * c2 * ev a x = (q x * (c2 * p1 x) + d * (c1 * p2 x)) * ev g x
            grind
          · have a1 := e1 x
            have a3 := f3 x
            have a4 := er x
            show d * c3 * ev g x = k * v x * ev a x + (d * u x - q x * v x) * ev b x
            grind
/-- two that have the factor d, the rest nowhere common -/
theorem com_uniq {n : Nat} {a b g d : List Int} {A B s t : Int → Int} {k : Int} (ha : Prim a) (hb : PrimO b) (h : comL n a b = some g) (hd : Prim d) (hA : IsP A) (hB : IsP B) (hs : IsP s) (ht : IsP t) (hk : k ≠ 0)
    (e1 : ∀ x, ev a x = A x * ev d x) (e2 : ∀ x, ev b x = B x * ev d x) (e3 : ∀ x, s x * A x + t x * B x = k) : g = d := by
  obtain ⟨hg, ⟨c1, p, hc1, hp, f1⟩, ⟨c2, q, hc2, hq, f2⟩, ⟨c3, u, v, hc3, hu, hv, f3⟩⟩ := com_spec n a b g ha hb h
  have k1 : c1 * c2 * k ≠ 0 := Int.mul_ne_zero (Int.mul_ne_zero hc1 hc2) hk
  have g1 : ∀ x, ev (d.map fun y => (c1 * c2 * k) * y) x = (c2 * s x * p x + c1 * t x * q x) * ev g x := fun x => by
    rw [ev_smul]
    have a1 := e1 x
    have a2 := e2 x
    have a3 := e3 x
    have a4 := f1 x
    have a5 := f2 x
    grind
  have g2 : ∀ x, ev (g.map fun y => c3 * y) x = (u x * A x + v x * B x) * ev d x := fun x => by
    rw [ev_smul]
    have a1 := e1 x
    have a2 := e2 x
    have a3 := f3 x
    grind
  have n1 : (d.map fun y => (c1 * c2 * k) * y) ≠ [] := fun z => hd.ne (by simpa using z)
  have n2 : (g.map fun y => c3 * y) ≠ [] := fun z => hg.ne (by simpa using z)
  obtain ⟨_, l, l1, l2, l3, l4, l5⟩ := div_deg (smul_tr hd.tr k1) n1 hg.tr (((IsP.const c2).mul hs |>.mul hp).add ((IsP.const c1).mul ht |>.mul hq)) g1
  obtain ⟨_, m, m1, m2, m3, m4, m5⟩ := div_deg (smul_tr hg.tr hc3) n2 hd.tr ((hu.mul hA).add (hv.mul hB)) g2
  rw [List.length_map] at l5 m5
  have p1 := List.length_pos_iff.mpr l2
  have p2 := List.length_pos_iff.mpr m2
  have p3 := List.length_pos_iff.mpr hd.ne
  have p4 := List.length_pos_iff.mpr hg.ne
  have hm : m.length = 1 := by omega
  obtain ⟨w, rfl⟩ : ∃ w, m = [w] := by
    match m, hm with
    | [w], _ => exact ⟨w, rfl⟩
  have hw : w ≠ 0 := fun z => m1 (by rw [z]; rfl)
  refine prim_uniq hg hd hc3 hw fun x => ?_
  have := g2 x
  rw [ev_smul, m3] at this
  rw [this, ev_cons, ev_nil, Int.mul_zero, Int.add_zero]
/-! ### primes, and products of primitive ones -/
def IsPrm (p : Nat) : Prop := 2 ≤ p ∧ ∀ m, m ∣ p → m = 1 ∨ m = p
theorem prm_of : ∀ (k n : Nat), n ≤ k → 2 ≤ n → ∃ p, IsPrm p ∧ p ∣ n
  | 0, n, h, h2 => absurd h (by omega)
  | k + 1, n, h, h2 => by
    by_cases hp : ∀ m, m ∣ n → m = 1 ∨ m = n
    · exact ⟨n, ⟨h2, hp⟩, Nat.dvd_refl n⟩
    · simp only [Classical.not_forall] at hp
      obtain ⟨m, hm, hne⟩ := hp
      have h0 : m ≠ 0 := fun z => by
        rw [z] at hm
        have := Nat.eq_zero_of_zero_dvd hm
        omega
      have hle := Nat.le_of_dvd (by omega) hm
      obtain ⟨p, h1, h3⟩ := prm_of k m (by omega) (by omega)
      exact ⟨p, h1, Nat.dvd_trans h3 hm⟩
theorem prime_mul {p : Nat} (hp : IsPrm p) {a b : Int} (h : (p : Int) ∣ a * b) : (p : Int) ∣ a ∨ (p : Int) ∣ b := by
  have h' : p ∣ a.natAbs * b.natAbs := by
    rw [← Int.natAbs_mul]
    exact Int.ofNat_dvd_left.mp h
  rcases hp.2 _ (Nat.gcd_dvd_left p a.natAbs) with e | e
  · right
    exact Int.ofNat_dvd_left.mpr (Nat.Coprime.dvd_of_dvd_mul_left e h')
  · left
    refine Int.ofNat_dvd_left.mpr ?_
    rw [← e]
    exact Nat.gcd_dvd_right p a.natAbs
def dvL (p : Int) (a : List Int) : Prop := ∀ x ∈ a, p ∣ x
def dvP (p : Int) (f : Int → Int) : Prop := ∃ l : List Int, ∀ x, f x = p * ev l x
theorem dvL.P {p : Int} {a : List Int} (h : dvL p a) : dvP p (ev a) := by
  refine ⟨a.map fun y => y / p, fun x => ?_⟩
  rw [← ev_smul, List.map_map]
  congr 1
  refine ((List.map_congr_left fun y hy => ?_).trans (List.map_id a)).symm
  exact Int.mul_ediv_cancel' (h y hy)
theorem trim_dv {p : Int} : ∀ {a : List Int}, dvL p (trim a) → dvL p a
  | [], h => h
  | x :: a, h => by
    have e := trim_cons x a
    intro y hy
    cases q : trim a with
    | nil =>
      have hz : ∀ b : List Int, trim b = [] → ∀ z ∈ b, z = 0 := fun b => by
        induction b with
        | nil => exact fun _ z hz => by cases hz
        | cons u b ih =>
          intro hb z hz
          rw [trim_cons] at hb
          cases q2 : trim b with
          | nil =>
            rw [q2] at hb
            dsimp only at hb
            split at hb
            · rename_i hu
              rcases List.mem_cons.mp hz with e | hz
              · rw [e, hu]
              · exact ih q2 z hz
            · cases hb
          | cons v w => rw [q2] at hb; cases hb
      rcases List.mem_cons.mp hy with e2 | hy
      · rw [q] at e
        dsimp only at e
        by_cases h0 : x = 0
        · rw [e2, h0]; exact Int.dvd_zero p
        · rw [if_neg h0] at e
          rw [e2]
          exact h x (by rw [e]; exact List.mem_singleton.mpr rfl)
      · rw [hz a q y hy]; exact Int.dvd_zero p
    | cons u w =>
      rw [q] at e
      dsimp only at e
      rcases List.mem_cons.mp hy with e2 | hy
      · rw [e2]; exact h x (by rw [e]; exact List.mem_cons_self)
      · refine trim_dv (a := a) (fun z hz => h z ?_) y hy
        rw [e, ← q]
        exact List.mem_cons_of_mem _ hz
theorem dvP.L {p : Int} {a : List Int} (h : dvP p (ev a)) : dvL p a := by
  obtain ⟨l, e⟩ := h
  refine trim_dv ?_
  have e2 : trim a = trim (l.map fun y => p * y) := ev_inj 0 _ _ (trim_last _) (trim_last _) fun x _ => by rw [ev_trim, ev_trim, ev_smul, e]
  rw [e2]
  intro x hx
  have hx : x ∈ l.map fun y => p * y := by
    rw [← trim_take] at hx
    exact List.mem_of_mem_take hx
  obtain ⟨y, _, e⟩ := List.mem_map.mp hx
  rw [← e]
  exact Int.dvd_mul_right p y
theorem gauss {p : Nat} (hp : IsPrm p) : ∀ (n : Nat) (a b : List Int), a.length + b.length ≤ n → dvP p (fun x => ev a x * ev b x) → dvP p (ev a) ∨ dvP p (ev b)
  | n, [], b, _, _ => .inl ⟨[], fun x => by rw [ev_nil, Int.mul_zero]⟩
  | n, a :: a', [], _, _ => .inr ⟨[], fun x => by rw [ev_nil, Int.mul_zero]⟩
  | 0, a :: a', b :: b', h, _ => absurd h (by simp)
  | n + 1, a :: a', b :: b', h, hd => by
    obtain ⟨l, e⟩ := hd
    have e : ∀ x, ev (a :: a') x * ev (b :: b') x = p * ev l x := e
    have h0 : (p : Int) ∣ a * b := by
      have := e 0
      rw [ev_cons, ev_cons, Int.zero_mul, Int.zero_mul, Int.add_zero, Int.add_zero] at this
      exact ⟨_, this⟩
    simp only [List.length_cons] at h
    rcases prime_mul hp h0 with ⟨c, hc⟩ | ⟨c, hc⟩
    · have h1 : dvP p (ev (0 :: mulR a' (b :: b'))) := ⟨addR l ((b :: b').map fun y => -c * y), fun x => by
        have := e x
        rw [ev_addR, ev_smul, ev_cons, ev_mulR]
        rw [ev_cons a, hc] at this
        grind⟩
      have h2 : dvP p (fun x => ev a' x * ev (b :: b') x) := by
        have h3 := dvP.L h1
        obtain ⟨m, e2⟩ := dvL.P (a := mulR a' (b :: b')) fun y hy => h3 y (List.mem_cons_of_mem _ hy)
        exact ⟨m, fun x => by show ev a' x * ev (b :: b') x = _; rw [← e2, ev_mulR]⟩
      rcases gauss hp n a' (b :: b') (by simp only [List.length_cons]; omega) h2 with ⟨m, e2⟩ | r
      · exact .inl ⟨c :: m, fun x => by rw [ev_cons, ev_cons, hc, e2]; grind⟩
      · exact .inr r
    · have h1 : dvP p (ev (0 :: mulR (a :: a') b')) := ⟨addR l ((a :: a').map fun y => -c * y), fun x => by
        have := e x
        rw [ev_addR, ev_smul, ev_cons, ev_mulR]
        rw [ev_cons b, hc] at this
        grind⟩
      have h2 : dvP p (fun x => ev (a :: a') x * ev b' x) := by
        have h3 := dvP.L h1
        obtain ⟨m, e2⟩ := dvL.P (a := mulR (a :: a') b') fun y hy => h3 y (List.mem_cons_of_mem _ hy)
        exact ⟨m, fun x => by show ev (a :: a') x * ev b' x = _; rw [← e2, ev_mulR]⟩
      rcases gauss hp n (a :: a') b' (by simp only [List.length_cons]; omega) h2 with r | ⟨m, e2⟩
      · exact .inl r
      · exact .inr ⟨c :: m, fun x => by rw [ev_cons, ev_cons, hc, e2]; grind⟩
theorem prim_no {a : List Int} (h : Prim a) {p : Nat} (hp : IsPrm p) : ¬ dvL p a := fun z => by
  have := dvd_gcdF a 0 p (Nat.dvd_zero p) z
  rw [h.one] at this
  have := Nat.le_of_dvd (by decide) this
  have := hp.1
  omega
theorem prim_mul {a b : List Int} (ha : Prim a) (hb : Prim b) : Prim (mulR a b) := by
  obtain ⟨l, h1, h2⟩ := ha.pos
  obtain ⟨m, h3, h4⟩ := hb.pos
  have hl := mulR_last a b l m h1 h3
  refine ⟨⟨l * m, hl, Int.mul_pos h2 h4⟩, ?_⟩
  by_cases h5 : gcdF (mulR a b) 0 = 1
  · exact h5
  · exfalso
    have h6 : gcdF (mulR a b) 0 ≠ 0 := fun z => by
      have := (gcdF_dvd (mulR a b) 0).2 _ (List.mem_of_getLast? hl)
      rw [z] at this
      have := Int.zero_dvd.mp this
      have := Int.mul_pos h2 h4
      omega
    obtain ⟨p, hp, hd⟩ := prm_of _ _ (Nat.le_refl _) (show 2 ≤ gcdF (mulR a b) 0 by omega)
    have hdv : dvL p (mulR a b) := fun x hx => Int.dvd_trans (Int.natCast_dvd_natCast.mpr hd) ((gcdF_dvd (mulR a b) 0).2 x hx)
    obtain ⟨m, e⟩ := hdv.P
    rcases gauss hp _ a b (Nat.le_refl _) ⟨m, fun x => by show ev a x * ev b x = _; rw [← e, ev_mulR]⟩ with r | r
    · exact prim_no ha hp r.L
    · exact prim_no hb hp r.L
theorem prim_one : Prim [1] := ⟨⟨1, rfl, by decide⟩, rfl⟩
/-- what divides over the fractions divides over the numbers -/
theorem exact_div {a g : List Int} {c : Int} {p : Int → Int} (ha : Prim a) (hg : Prim g) (hc : c ≠ 0) (hp : IsP p) (h : ∀ x, c * ev a x = p x * ev g x) : ∃ r : List Int, Prim r ∧ ∀ x, ev a x = ev r x * ev g x := by
  obtain ⟨_, l, l1, l2, l3, _, _⟩ := div_deg (smul_tr ha.tr hc) (fun z => ha.ne (by simpa using z)) hg.tr hp (fun x => by rw [ev_smul]; exact h x)
  have hl := plain_prim l1 l2
  have he := plain_ev l1 l2
  have hm := prim_mul hl hg
  have e : a = mulR (plainL l) g := prim_uniq ha hm hc (cont_ne l1 l2) fun x => by
    rw [h, l3, he, ev_mulR, Int.mul_assoc]
  exact ⟨plainL l, hl, fun x => by rw [e, ev_mulR]⟩
/-! ### derivatives -/
def IsDer (f f' : Int → Int) : Prop := ∃ g : Int → Int → Int, ∀ x h, f (x + h) = f x + h * f' x + h * h * g x h
theorem IsDer.uniq {f f1 f2 : Int → Int} (h1 : IsDer f f1) (h2 : IsDer f f2) (x : Int) : f1 x = f2 x := by
  obtain ⟨g1, e1⟩ := h1
  obtain ⟨g2, e2⟩ := h2
  have key : ∀ h : Int, h ≠ 0 → h ∣ f1 x - f2 x := fun h h0 => by
    have a := e1 x h
    have b := e2 x h
    have : h * (f1 x - f2 x) = h * (h * (g2 x h - g1 x h)) := by grind
    exact ⟨_, Int.eq_of_mul_eq_mul_left h0 this⟩
  have := key ((f1 x - f2 x).natAbs + 1) (by omega)
  have := Int.eq_zero_of_dvd_of_natAbs_lt_natAbs this (by omega)
  omega
theorem IsDer.const (c : Int) : IsDer (fun _ => c) fun _ => 0 := ⟨fun _ _ => 0, fun x h => by
  show c = c + h * 0 + h * h * 0
  rw [Int.mul_zero, Int.mul_zero]; omega⟩
theorem IsDer.mul {f f' g g' : Int → Int} (h1 : IsDer f f') (h2 : IsDer g g') : IsDer (fun x => f x * g x) fun x => f' x * g x + f x * g' x := by
  obtain ⟨u, e1⟩ := h1
  obtain ⟨v, e2⟩ := h2
  refine ⟨fun x h => f x * v x h + f' x * g' x + u x h * g x + h * (f' x * v x h + u x h * g' x) + h * h * u x h * v x h, fun x h => ?_⟩
  have a := e1 x h
  have b := e2 x h
  show f (x + h) * g (x + h) = _
  rw [a, b]
  grind
def dl : List Int → List Int
  | [] => []
  | _ :: l => addR l (0 :: dl l)
theorem ev_dl (a : Int) (l : List Int) (x : Int) : ev (dl (a :: l)) x = ev l x + x * ev (dl l) x := by
  show ev (addR l (0 :: dl l)) x = _
  rw [ev_addR, ev_cons, Int.zero_add]
theorem der_dl : ∀ l : List Int, IsDer (ev l) (ev (dl l))
  | [] => ⟨fun _ _ => 0, fun x h => by rw [ev_nil, ev_nil]; show (0 : Int) = 0 + h * ev [] x + h * h * 0; rw [ev_nil, Int.mul_zero, Int.mul_zero]; rfl⟩
  | a :: l => by
    obtain ⟨g, e⟩ := der_dl l
    refine ⟨fun x h => ev (dl l) x + x * g x h + h * g x h, fun x h => ?_⟩
    have := e x h
    rw [ev_cons, ev_cons, ev_dl, this]
    grind
theorem ev_derL (x : Int) : ∀ (l : List Int) (k : Nat), ev (derL k l) x = k * ev l x + x * ev (dl l) x
  | [], k => by
    show ev [] x = k * ev [] x + x * ev [] x
    rw [ev_nil, Int.mul_zero, Int.mul_zero]; rfl
  | a :: l, k => by
    show ev ((k : Int) * a :: derL (k + 1) l) x = _
    rw [ev_cons, ev_derL x l (k + 1), ev_cons, ev_dl]
    have : ((k + 1 : Nat) : Int) = k + 1 := by omega
    rw [this]
    grind
theorem ev_derivL (l : List Int) (x : Int) : ev (derivL l) x = ev (dl l) x := by
  unfold derivL
  rw [ev_trim]
  cases l with
  | nil => rfl
  | cons a l =>
    show ev (derL 1 l) x = _
    rw [ev_derL, ev_dl]
    have : ((1 : Nat) : Int) = 1 := rfl
    rw [this, Int.one_mul]
theorem der_derivL (l : List Int) : IsDer (ev l) (ev (derivL l)) := by
  obtain ⟨g, e⟩ := der_dl l
  exact ⟨g, fun x h => by rw [ev_derivL]; exact e x h⟩
/-! ### nowhere common -/
def Cop (f g : Int → Int) : Prop := ∃ (s t : Int → Int) (k : Int), IsP s ∧ IsP t ∧ k ≠ 0 ∧ ∀ x, s x * f x + t x * g x = k
theorem Cop.symm {f g : Int → Int} (h : Cop f g) : Cop g f := by
  obtain ⟨s, t, k, hs, ht, hk, e⟩ := h
  exact ⟨t, s, k, ht, hs, hk, fun x => by have := e x; omega⟩
theorem Cop.one (f : Int → Int) : Cop f fun _ => 1 := ⟨fun _ => 0, fun _ => 1, 1, .const 0, .const 1, by decide, fun x => by show 0 * f x + 1 * 1 = 1; rw [Int.zero_mul]; rfl⟩
theorem Cop.mul {f g h : Int → Int} (hf : IsP f) (hg : IsP g) (hh : IsP h) (h1 : Cop f g) (h2 : Cop f h) : Cop f fun x => g x * h x := by
  obtain ⟨s, t, k, hs, ht, hk, e⟩ := h1
  obtain ⟨s', t', k', hs', ht', hk', e'⟩ := h2
  refine ⟨fun x => s x * (s' x * f x) + (s x * (t' x * h x) + t x * (g x * s' x)), fun x => t x * t' x, k * k', (hs.mul (hs'.mul hf)).add ((hs.mul (ht'.mul hh)).add (ht.mul (hg.mul hs'))), ht.mul ht', Int.mul_ne_zero hk hk', fun x => ?_⟩
  have a := e x
  have b := e' x
  show (s x * (s' x * f x) + (s x * (t' x * h x) + t x * (g x * s' x))) * f x + t x * t' x * (g x * h x) = k * k'
  rw [← a, ← b]
  grind
theorem Cop.add {f g q : Int → Int} (hq : IsP q) (h : Cop f g) : Cop f fun x => g x + f x * q x := by
  obtain ⟨s, t, k, hs, ht, hk, e⟩ := h
  refine ⟨fun x => s x - t x * q x, t, k, hs.sub (ht.mul hq), ht, hk, fun x => ?_⟩
  have a := e x
  show (s x - t x * q x) * f x + t x * (g x + f x * q x) = k
  rw [← a]
  grind
theorem Cop.scale {f g : Int → Int} {c : Int} (hc : c ≠ 0) (h : Cop f g) : Cop f fun x => c * g x := by
  obtain ⟨s, t, k, hs, ht, hk, e⟩ := h
  refine ⟨fun x => c * s x, t, c * k, (IsP.const c).mul hs, ht, Int.mul_ne_zero hc hk, fun x => ?_⟩
  have a := e x
  show c * s x * f x + t x * (c * g x) = c * k
  rw [← a]
  grind
theorem Cop.congr {f g f' g' : Int → Int} (h : Cop f g) (e1 : ∀ x, f' x = f x) (e2 : ∀ x, g' x = g x) : Cop f' g' := by
  obtain ⟨s, t, k, hs, ht, hk, e⟩ := h
  exact ⟨s, t, k, hs, ht, hk, fun x => by rw [e1, e2, e]⟩
def certB (s p t q : List Int) (k : Int) : Bool := !decide (k = 0) && decide (trim (addR (mulR s p) (mulR t q)) = [k])
theorem cop_cert {s p t q : List Int} {k : Int} (h : certB s p t q k = true) : Cop (ev p) (ev q) := by
  unfold certB at h
  rw [Bool.and_eq_true] at h
  have h1 : k ≠ 0 := by simpa using h.1
  have h2 := of_decide_eq_true h.2
  refine ⟨ev s, ev t, k, .of s, .of t, h1, fun x => ?_⟩
  rw [← ev_mulR, ← ev_mulR, ← ev_addR, ← ev_trim, h2, ev_cons, ev_nil, Int.mul_zero, Int.add_zero]
end L3

namespace L3
open PySem PySem.Spec L2
/-! ### the numbers on the way are not too great -/
theorem nbad {i j : Int} {N M : Nat} (h1 : i.natAbs < 2 ^ N) (h2 : j.natAbs < 2 ^ M) (h : N + M ≤ 1000000) : mulBad i j = false := by
  have lg : ∀ {k : Int} {N : Nat}, k.natAbs < 2 ^ N → (Builtin.Int.intBits k : Int) ≤ N := fun {k N} h => by
    unfold Builtin.Int.intBits
    split
    · omega
    · rename_i h0
      have h0 : k.natAbs ≠ 0 := fun z => h0 (by simpa using z)
      have := (Nat.log2_lt h0).mpr h
      omega
  have a := lg h1
  have b := lg h2
  unfold mulBad
  rw [Bool.and_eq_false_iff]
  right
  unfold Builtin.Int.intTooBig
  refine decide_eq_false ?_
  have : ((bitsLine : Nat) : Int) = 134217728 := rfl
  omega
theorem lt_pow_succ {a K : Nat} (h : a ≤ 2 ^ K) : a < 2 ^ (K + 1) := by
  rw [Nat.pow_succ]
  have : 0 < 2 ^ K := Nat.pow_pos (by decide)
  omega
theorem mOk_n1 {a b : List Int} {N M : Nat} (h1 : n1 a ≤ 2 ^ N) (h2 : n1 b ≤ 2 ^ M) (h : N + M ≤ 900000) : mOk a b = true :=
  mOk_mk fun x hx y hy => nbad (N := N + 1) (M := M + 1) (lt_pow_succ (Nat.le_trans (n1_mem hx) h1)) (lt_pow_succ (Nat.le_trans (n1_mem hy) h2)) (by omega)
theorem mOk_one {x : Int} {b : List Int} {N M : Nat} (h1 : x.natAbs ≤ 2 ^ N) (h2 : n1 b ≤ 2 ^ M) (h : N + M ≤ 900000) : mOk [x] b = true :=
  mOk_n1 (a := [x]) (by show x.natAbs + 0 ≤ _; omega) h2 h
theorem left_some (K M : Nat) (hK : K + M ≤ 900000) : ∀ (n : Nat) (a b : List Int), Tr a → Tr b → b ≠ [] → a.length < b.length + n → a.length ≤ 1000 → n1 b ≤ 2 ^ M → n1 a * (2 * n1 b) ^ (a.length + 1 - b.length) ≤ 2 ^ K → ∃ r, leftL n a b = some r ∧ n1 r ≤ n1 a * (2 * n1 b) ^ (a.length + 1 - b.length)
  | 0, a, b, ha, hb, hb0, hl, _, h1, h2 => by
    have hl : a.length < b.length := hl
    refine ⟨a, if_pos hl, ?_⟩
    rw [show a.length + 1 - b.length = 0 by omega, Nat.pow_zero, Nat.mul_one]
    exact Nat.le_refl _
  | n + 1, a, b, ha, hb, hb0, hl, hz, h1, h2 => by
    by_cases h : a.length < b.length
    · refine ⟨a, if_pos h, ?_⟩
      rw [show a.length + 1 - b.length = 0 by omega, Nat.pow_zero, Nat.mul_one]
      exact Nat.le_refl _
    · obtain ⟨s1, s2⟩ := step_short ha hb hb0 (by omega)
      have hbl := List.length_pos_iff.mpr hb0
      have ha0 : a ≠ [] := fun z => by rw [z] at h; simp only [List.length_nil] at h; omega
      have nb : 1 ≤ n1 b := by
        obtain ⟨l, l1, l2⟩ := tr_last hb hb0
        have := n1_mem (List.mem_of_getLast? l1)
        omega
      have hp : 0 < 2 * n1 b := by omega
      have ex : a.length + 1 - b.length = (a.length - b.length) + 1 := by omega
      have hle : n1 (stepA a b) * (2 * n1 b) ^ ((stepA a b).length + 1 - b.length) ≤ n1 a * (2 * n1 b) ^ (a.length + 1 - b.length) := by
        have q1 := n1_step a b
        have q2 : (2 * n1 b) ^ ((stepA a b).length + 1 - b.length) ≤ (2 * n1 b) ^ (a.length - b.length) := Nat.pow_le_pow_right hp (by omega)
        refine Nat.le_trans (Nat.mul_le_mul q1 q2) ?_
        rw [ex, Nat.pow_succ]
        generalize (2 * n1 b) ^ (a.length - b.length) = w
        rw [Nat.mul_comm (2 * n1 b) (n1 a), Nat.mul_assoc, Nat.mul_comm w]
        exact Nat.le_refl _
      have na : n1 a ≤ 2 ^ K := by
        refine Nat.le_trans ?_ h2
        exact Nat.le_mul_of_pos_right _ (Nat.pow_pos hp)
      obtain ⟨r, r1, r2⟩ := left_some K M hK n (stepA a b) b s1 hb hb0 (by omega) (by omega) h1 (Nat.le_trans hle h2)
      refine ⟨r, ?_, Nat.le_trans r2 hle⟩
      unfold leftL
      rw [if_neg h, if_pos, r1]
      have c1 : sml a.length = true := Nat.ble_eq_true_of_le hz
      have c2 : mOk [lastI b] a = true := mOk_one (Nat.le_trans (last_n1 b) h1) na (by omega)
      have c3 : mOk [lastI a] b = true := mOk_one (Nat.le_trans (last_n1 a) na) h1 (by omega)
      rw [decide_eq_false ha0, decide_eq_false hb0, c1, c2, c3]
      rfl
theorem pyl_log {i j : Int} (h : j.natAbs.log2 ≤ 8900) : pyl i j = false := by
  unfold pyl Builtin.divisionGoesByPylong
  refine Bool.and_eq_false_imp.mpr fun z => ?_
  have z := of_decide_eq_true z
  dsimp only at z
  split at z <;> omega
theorem pyl_same {i j : Int} (h : i.natAbs = j.natAbs) : pyl i j = false := by
  unfold pyl Builtin.divisionGoesByPylong
  refine Bool.and_eq_false_imp.mpr fun _ => ?_
  refine decide_eq_false ?_
  dsimp only
  have e : (i == 0) = (j == 0) := by
    by_cases h0 : i = 0
    · have : j = 0 := by omega
      rw [h0, this]
    · have : j ≠ 0 := by omega
      rw [show (i == 0) = false from beq_false_of_ne h0, show (j == 0) = false from beq_false_of_ne this]
  rw [e, h]
  omega
theorem log2_le_of {n K : Nat} (h : n ≤ 2 ^ K) : n.log2 ≤ K := by
  by_cases h0 : n = 0
  · rw [h0]; exact Nat.zero_le _
  · have := (Nat.log2_lt h0).mpr (lt_pow_succ h)
    omega
theorem plain_some {r : List Int} (h : Tr r) (hl : r.length ≤ 1000) (hb : r.length ≤ 1 ∨ n1 r ≤ 2 ^ 8900) : plainO r = some (plainL r) := by
  unfold plainO
  rw [if_pos]
  have c1 : sml r.length = true := Nat.ble_eq_true_of_le hl
  rw [c1, Bool.true_and]
  by_cases h0 : r = []
  · rw [decide_eq_true h0]; rfl
  · have c2 := cont_ne h h0
    rw [decide_eq_false h0, decide_eq_false c2, Bool.false_or, Bool.not_false, Bool.true_and]
    refine List.all_eq_true.mpr fun x hx => ?_
    rw [Bool.not_eq_true']
    rcases hb with hb | hb
    · refine pyl_same ?_
      match r, h0, hb, hx with
      | [y], _, _, hx =>
        have := List.mem_singleton.mp hx
        rw [this, cont_abs]
        show y.natAbs = Nat.gcd 0 y.natAbs
        rw [Nat.gcd_zero_left]
      | y :: z :: r, _, hb, _ => simp at hb
    · refine pyl_log ?_
      obtain ⟨l, l1, l2⟩ := tr_last h h0
      have d := (gcdF_dvd r 0).2 l (List.mem_of_getLast? l1)
      have d2 : gcdF r 0 ≤ l.natAbs := Nat.le_of_dvd (by omega) (Int.ofNat_dvd_left.mp d)
      have := n1_mem (List.mem_of_getLast? l1)
      rw [cont_abs]
      have := log2_le_of (n := gcdF r 0) (K := 8900) (by omega)
      omega
def lvl : Nat → Nat
  | 0 => 17729
  | 1 => 7343
  | 2 => 3041
  | 3 => 1259
  | 4 => 521
  | 5 => 215
  | 6 => 89
  | 7 => 35
  | _ => 17
theorem lvl1 : ∀ e, e < 9 → ∀ f, f < 9 → 2 ≤ f → f ≤ e → lvl e + (lvl (e - 1) + 1) * (e + 2 - f) ≤ lvl (f - 2) := by decide
theorem lvl2 : ∀ e, e < 9 → ∀ f, f < 9 → 1 ≤ f → f ≤ e → lvl (e - 1) ≤ lvl (f - 1) ∧ lvl e + (lvl (e - 1) + 1) * (e + 2 - f) ≤ 100000 ∧ lvl (e - 1) ≤ 100000 := by decide
theorem lvl3 : ∀ f, f < 10 → 2 ≤ f → 17 + 18 * (10 - f) ≤ lvl (f - 2) ∧ 17 ≤ lvl (f - 1) := by decide
theorem lvl4 : ∀ e, e < 9 → 2 ≤ e → lvl (e - 1) ≤ 8900 := by decide
theorem n1_bd {a b A B m k : Nat} (ha : a ≤ 2 ^ A) (hb : b ≤ 2 ^ B) (hb0 : 0 < b) (hm : m ≤ k) : a * (2 * b) ^ m ≤ 2 ^ (A + (B + 1) * k) := by
  rw [Nat.pow_add, Nat.pow_mul]
  refine Nat.mul_le_mul ha ?_
  refine Nat.le_trans (Nat.pow_le_pow_right (by omega) hm) (Nat.pow_le_pow_left ?_ k)
  rw [Nat.pow_succ]; omega
theorem prim_n1 {a : List Int} (h : Prim a) : 0 < n1 a := by
  obtain ⟨l, l1, l2⟩ := h.pos
  have := n1_mem (List.mem_of_getLast? l1)
  omega
theorem com_some : ∀ (n e : Nat) (a b : List Int), e ≤ 8 → e + 1 ≤ n → Prim a → PrimO b → a.length ≤ e + 1 → b.length ≤ e → n1 a ≤ 2 ^ lvl e → n1 b ≤ 2 ^ lvl (e - 1) → ∃ g, comL n a b = some g
  | 0, e, a, b, _, h, _, _, _, _, _, _ => absurd h (by omega)
  | n + 1, e, a, b, he, hn, ha, hb, la, lb, na, nb => by
    by_cases h0 : b = []
    · exact ⟨a, if_pos h0⟩
    · have hb' := hb.resolve_left h0
      have hbl := List.length_pos_iff.mpr h0
      have b0 := prim_n1 hb'
      obtain ⟨v1, v2, v3⟩ := lvl2 e (by omega) b.length (by omega) (by omega) lb
      have hbd := n1_bd na nb b0 (m := a.length + 1 - b.length) (k := e + 2 - b.length) (by omega)
      obtain ⟨r, r1, r2⟩ := left_some (lvl e + (lvl (e - 1) + 1) * (e + 2 - b.length)) (lvl (e - 1)) (by omega) (a.length + 1) a b ha.tr hb'.tr h0 (by omega) (by omega) nb hbd
      obtain ⟨t1, t2, _⟩ := left_spec _ a b r ha.tr hb'.tr r1
      have hr : n1 r ≤ 2 ^ (lvl e + (lvl (e - 1) + 1) * (e + 2 - b.length)) := Nat.le_trans r2 hbd
      have pr : plainO r = some (plainL r) := plain_some t1 (by omega) (by
        by_cases h1 : r.length ≤ 1
        · exact .inl h1
        · right
          refine Nat.le_trans hr (Nat.pow_le_pow_right (by decide) ?_)
          have := lvl1 e (by omega) b.length (by omega) (by omega) lb
          have := lvl4 (b.length - 1) (by omega) (by omega)
          rw [show b.length - 1 - 1 = b.length - 2 by omega] at this
          omega)
      have po := (plainO_spec t1 pr).2
      by_cases hf : b.length = 1
      · have hr0 : r = [] := List.eq_nil_of_length_eq_zero (by omega)
        have hp0 : plainL r = [] := by rw [hr0]; rfl
        refine ⟨b, ?_⟩
        unfold comL
        rw [if_neg h0]
        show (match leftO a b with | some r => (match plainO r with | some p => comL n b p | none => none) | none => none) = _
        have r1 : leftO a b = some r := r1
        rw [r1]
        dsimp only
        rw [pr, hp0]
        dsimp only
        match n, hn with
        | 0, hn => exact absurd hn (by omega)
        | n + 1, _ => exact if_pos rfl
      · have w := lvl1 e (by omega) b.length (by omega) (by omega) lb
        obtain ⟨g, hg⟩ := com_some n (b.length - 1) b (plainL r) (by omega) (by omega) hb' po (by omega) (by rw [plain_len]; omega) (Nat.le_trans nb (Nat.pow_le_pow_right (by decide) v1)) (by
          refine Nat.le_trans (plain_n1 t1) (Nat.le_trans hr (Nat.pow_le_pow_right (by decide) ?_))
          rw [show b.length - 1 - 1 = b.length - 2 by omega]
          exact w)
        refine ⟨g, ?_⟩
        unfold comL
        rw [if_neg h0]
        show (match leftO a b with | some r => (match plainO r with | some p => comL n b p | none => none) | none => none) = _
        have r1 : leftO a b = some r := r1
        rw [r1]
        dsimp only
        rw [pr]
        exact hg
theorem com_some0 (n : Nat) (a b : List Int) (hn : 10 ≤ n) (ha : Prim a) (hb : PrimO b) (la : a.length ≤ 9) (lb : b.length ≤ 9) (na : n1 a ≤ 2 ^ 17) (nb : n1 b ≤ 2 ^ 17) : ∃ g, comL n a b = some g := by
  by_cases hl : b.length ≤ 8
  · exact com_some n 8 a b (Nat.le_refl _) (by omega) ha hb la hl na (Nat.le_trans nb (Nat.pow_le_pow_right (by decide) (by decide)))
  · have h0 : b ≠ [] := fun z => by rw [z] at hl; simp at hl
    have hb' := hb.resolve_left h0
    have b0 := prim_n1 hb'
    have hbd := n1_bd na nb b0 (m := a.length + 1 - b.length) (k := 1) (by omega)
    obtain ⟨r, r1, r2⟩ := left_some (17 + (17 + 1) * 1) 17 (by decide) (a.length + 1) a b ha.tr hb'.tr h0 (by omega) (by omega) nb hbd
    obtain ⟨t1, t2, _⟩ := left_spec _ a b r ha.tr hb'.tr r1
    have hr : n1 r ≤ 2 ^ (17 + (17 + 1) * 1) := Nat.le_trans r2 hbd
    have pr : plainO r = some (plainL r) := plain_some t1 (by omega) (.inr (Nat.le_trans hr (Nat.pow_le_pow_right (by decide) (by decide))))
    have po := (plainO_spec t1 pr).2
    match n, hn with
    | n + 1, hn =>
      obtain ⟨g, hg⟩ := com_some n 8 b (plainL r) (Nat.le_refl _) (by omega) hb' po (by omega) (by rw [plain_len]; omega) nb (Nat.le_trans (plain_n1 t1) hr)
      refine ⟨g, ?_⟩
      unfold comL
      rw [if_neg h0]
      show (match leftO a b with | some r => (match plainO r with | some p => comL n b p | none => none) | none => none) = _
      have r1 : leftO a b = some r := r1
      rw [r1]
      dsimp only
      rw [pr]
      exact hg
/-! ### the quotient -/
theorem drop_last_ev (r : List Int) (l : Int) (h : r.getLast? = some l) (x : Int) : ev r x = ev r.dropLast x + l * x ^ (r.length - 1) := by
  obtain ⟨t, rfl⟩ : ∃ t, r = t ++ [l] := List.getLast?_eq_some_iff.mp h
  rw [List.dropLast_concat, List.length_append]
  show ev (t ++ [l]) x = ev t x + l * x ^ (t.length + 1 - 1)
  rw [Nat.add_sub_cancel]
  induction t with
  | nil =>
    show l + x * 0 = 0 + l * x ^ 0
    rw [Int.mul_zero, Int.pow_zero, Int.mul_one]; omega
  | cons y t ih =>
    rw [List.cons_append, ev_cons, ev_cons]
    by_cases ht : t = []
    · subst ht
      show y + x * (l + x * 0) = y + x * 0 + l * x ^ (0 + 1)
      simp only [Int.mul_zero, Int.add_zero, Int.pow_succ, Int.pow_zero, Int.one_mul]
      rw [Int.mul_comm]
    · rw [ih (by rw [List.getLast?_append]; rfl)]
      rw [List.length_cons, Int.pow_succ]
      grind
theorem set_mid (k : Nat) (v : Int) (t : List Int) : (List.replicate (k + 1) 0 ++ t).set k v = List.replicate k 0 ++ v :: t := by
  induction k with
  | zero => rfl
  | succ k ih =>
    rw [List.replicate_succ, List.cons_append, List.set_cons_succ, ih, List.replicate_succ, List.cons_append]
theorem trim_pad : ∀ l : List Int, trim l ++ List.replicate (l.length - (trim l).length) 0 = l
  | [] => rfl
  | x :: l => by
    have ih := trim_pad l
    have e := trim_cons x l
    cases q : trim l with
    | nil =>
      rw [q] at e ih
      dsimp only at e
      have ih : List.replicate l.length 0 = l := ih
      by_cases h0 : x = 0
      · rw [if_pos h0] at e
        rw [e]
        show List.replicate (l.length + 1) 0 = x :: l
        rw [List.replicate_succ, ih, h0]
      · rw [if_neg h0] at e
        rw [e]
        show x :: List.replicate (l.length + 1 - 1) 0 = x :: l
        rw [Nat.add_sub_cancel, ih]
    | cons u w =>
      rw [q] at e ih
      dsimp only at e
      rw [e]
      show x :: (u :: w ++ List.replicate (l.length + 1 - (w.length + 1 + 1)) 0) = x :: l
      rw [show l.length + 1 - (w.length + 1 + 1) = l.length - (u :: w).length by simp only [List.length_cons]; omega, ih]
theorem quo_some {b : List Int} (hb : Prim b) (hz : b.length ≤ 500) (N : Nat) (hN : n1 b ≤ 2 ^ N) (hN2 : N ≤ 8000) {M : Nat} (hM : M ≤ 800000) : ∀ (n : Nat) (a r t : List Int), Tr a → Tr r → (∀ x, ev a x = ev r x * ev b x) → r.length < n → r.length ≤ 400 → (∀ y ∈ r, y.natAbs ≤ 2 ^ M) → quoL n (List.replicate r.length 0 ++ t) a b = some (r ++ t)
  | 0, a, r, t, _, _, _, h, _, _ => absurd h (Nat.not_lt_zero _)
  | n + 1, a, r, t, ha, hr, e, hn, hl, hs => by
    obtain ⟨lb, b1, b2⟩ := hb.pos
    have eb : lastI b = lb := by unfold lastI; rw [b1]; rfl
    by_cases h0 : r = []
    · have ha0 : a = [] := ev_all0 ha fun x => by rw [e, h0, ev_nil, Int.zero_mul]
      subst h0
      unfold quoL
      rw [if_pos ha0]; rfl
    · obtain ⟨lr, r1, r2⟩ := tr_last hr h0
      have hbn := hb.ne
      have em : a = mulR r b := ev_inj 0 _ _ ha (by
        show (mulR r b).getLast? ≠ some 0
        rw [mulR_last r b lr lb r1 b1]
        exact fun z => Int.mul_ne_zero r2 (by omega) (Option.some.inj z)) fun x _ => by rw [e, ev_mulR]
      have la : a.getLast? = some (lr * lb) := by rw [em, mulR_last r b lr lb r1 b1]
      have ea : lastI a = lr * lb := by unfold lastI; rw [la]; rfl
      have ln : a.length = r.length + b.length - 1 := by rw [em, mulR_len r b h0 hbn]
      have rp := List.length_pos_iff.mpr h0
      have bp := List.length_pos_iff.mpr hbn
      have ha0 : a ≠ [] := fun z => by rw [z] at ln; simp only [List.length_nil] at ln; omega
      have hq : (lastI a).fdiv (lastI b) = lr := by rw [ea, eb, Int.mul_comm]; exact Int.mul_fdiv_cancel_left lr (by omega)
      have hd : a.length - b.length = r.length - 1 := by omega
      have hlr := hs lr (List.mem_of_getLast? r1)
      have c1 : mOk [lr] b = true := mOk_one hlr hN (by omega)
      have c2 : pyl (lastI a) (lastI b) = false := pyl_log (by
        have := last_n1 b
        have := log2_le_of (n := (lastI b).natAbs) (K := N) (by omega)
        omega)
      have c3 : sml a.length = true := Nat.ble_eq_true_of_le (by omega)
      have hc : (decide (b.length ≤ a.length) && !decide (b = []) && (decide (a.length - b.length < (List.replicate r.length 0 ++ t).length) && sml a.length && !decide (lastI b = 0)) && (!pyl (lastI a) (lastI b) && mOk [(lastI a).fdiv (lastI b)] b)) = true := by
        rw [hq, c1, c2, c3, decide_eq_true (show b.length ≤ a.length by omega), decide_eq_false hbn, decide_eq_true (show a.length - b.length < (List.replicate r.length (0 : Int) ++ t).length by rw [List.length_append, List.length_replicate]; omega), decide_eq_false (show ¬ lastI b = 0 by omega)]
        rfl
      have f1 : quoStep a b (List.replicate r.length 0 ++ t) = List.replicate (r.length - 1) 0 ++ lr :: t := by
        unfold quoStep
        rw [hq, hd]
        have := set_mid (r.length - 1) lr t
        rwa [show r.length - 1 + 1 = r.length by omega] at this
      have f2 : ∀ x, ev (quoNext a b) x = ev (trim r.dropLast) x * ev b x := fun x => by
        unfold quoNext
        rw [hq, hd, ev_less, ev_scL, ev_shift, ev_trim, e x, drop_last_ev r lr r1 x]
        grind
      have f3 : (trim r.dropLast).length ≤ r.length - 1 := by
        have := trim_len r.dropLast
        rw [List.length_dropLast] at this
        exact this
      have ih := quo_some hb hz N hN hN2 hM n (quoNext a b) (trim r.dropLast) (List.replicate (r.length - 1 - (trim r.dropLast).length) 0 ++ lr :: t) (less_tr _ _) (trim_last _) f2 (by omega) (by omega) (fun y hy => hs y (List.dropLast_subset r (by
        rw [← trim_take] at hy
        exact List.mem_of_mem_take hy)))
      unfold quoL
      rw [if_neg ha0, if_pos hc, f1]
      have f4 : List.replicate (r.length - 1) (0 : Int) = List.replicate (trim r.dropLast).length 0 ++ List.replicate (r.length - 1 - (trim r.dropLast).length) 0 := by
        rw [List.replicate_append_replicate]
        congr 1
        omega
      rw [f4, List.append_assoc, ih, ← List.append_assoc]
      have f5 := trim_pad r.dropLast
      rw [List.length_dropLast] at f5
      rw [f5]
      have f6 : r = r.dropLast ++ [lr] := by
        obtain ⟨u, hu⟩ := List.getLast?_eq_some_iff.mp r1
        rw [hu, List.dropLast_concat]
      conv => rhs; rw [f6]
      rw [List.append_assoc]
      rfl
theorem quo_ok {a b r : List Int} (ha : Tr a) (ha0 : a ≠ []) (hb : Prim b) (hr : Tr r) (e : ∀ x, ev a x = ev r x * ev b x) (hz : b.length ≤ 500) (hl : r.length ≤ 400) {N : Nat} (hN : n1 b ≤ 2 ^ N) (hN2 : N ≤ 8000) {M : Nat} (hs : ∀ y ∈ r, y.natAbs ≤ 2 ^ M) (hM : M ≤ 800000 := by decide) : quoO a b = some r ∧ a.length = r.length + b.length - 1 := by
  have hr0 : r ≠ [] := fun z => ha0 (ev_all0 ha fun x => by rw [e, z, ev_nil, Int.zero_mul])
  obtain ⟨_, l, l1, l2, l3, l4, l5⟩ := div_deg ha ha0 hb.tr (.of r) e
  have : l = r := ev_inj 0 _ _ l1 hr fun x _ => by rw [← l3]
  subst this
  refine ⟨?_, l5⟩
  have h := quo_some hb hz N hN hN2 hM (a.length + 1) a l [] ha hr e (by have := List.length_pos_iff.mpr hb.ne; omega) hl hs
  rw [List.append_nil, List.append_nil] at h
  unfold quoO
  rw [show a.length + 1 - b.length = l.length by have := List.length_pos_iff.mpr hb.ne; omega]
  exact h
theorem mul_tr {p q : List Int} (hp : Tr p) (hq : Tr q) (hp0 : p ≠ []) (hq0 : q ≠ []) : Tr (mulR p q) ∧ mulR p q ≠ [] ∧ (mulR p q).length = p.length + q.length - 1 := by
  obtain ⟨l, h1, h2⟩ := tr_last hp hp0
  obtain ⟨m, h3, h4⟩ := tr_last hq hq0
  have hl := mulR_len p q hp0 hq0
  have := List.length_pos_iff.mpr hp0
  have := List.length_pos_iff.mpr hq0
  refine ⟨?_, fun z => ?_, hl⟩
  · show (mulR p q).getLast? ≠ some 0
    rw [mulR_last _ _ l m h1 h3]
    exact fun z => Int.mul_ne_zero h2 h4 (Option.some.inj z)
  · rw [z, List.length_nil] at hl; omega
theorem n1_trim_eq (l : List Int) : n1 (trim l) = n1 l := by
  have h := trim_pad l
  have e := n1_append (trim l) (List.replicate (l.length - (trim l).length) 0)
  rw [h, n1_zeros] at e
  omega
theorem fact_bd {g : List Int} (hg : Prim g) : ∀ (k : Nat) (r w : List Int), Tr r → Tr w → r.length ≤ k → (∀ x, ev w x = ev r x * ev g x) → n1 r ≤ n1 w * (2 + n1 g) ^ k
  | 0, r, w, hr, hw, hl, e => by
    have : r = [] := List.eq_nil_of_length_eq_zero (by omega)
    rw [this]; exact Nat.zero_le _
  | k + 1, r, w, hr, hw, hl, e => by
    by_cases h0 : r = []
    · rw [h0]; exact Nat.zero_le _
    · obtain ⟨lg, b1, b2⟩ := hg.pos
      obtain ⟨l, r1, r2⟩ := tr_last hr h0
      have em : w = mulR r g := ev_inj 0 _ _ hw (mul_tr hr hg.tr h0 hg.ne).1 fun x _ => by rw [e, ev_mulR]
      have lw : w.getLast? = some (l * lg) := by rw [em, mulR_last r g l lg r1 b1]
      have wl := (mul_tr hr hg.tr h0 hg.ne).2.2
      rw [← em] at wl
      have hlw : l.natAbs ≤ n1 w := by
        have h1 := n1_mem (List.mem_of_getLast? lw)
        rw [Int.natAbs_mul] at h1
        have : l.natAbs ≤ l.natAbs * lg.natAbs := Nat.le_mul_of_pos_right _ (by omega)
        omega
      have er : r = r.dropLast ++ [l] := by
        obtain ⟨u, hu⟩ := List.getLast?_eq_some_iff.mp r1
        rw [hu, List.dropLast_concat]
      have hn : n1 r = n1 r.dropLast + l.natAbs := by
        conv => lhs; rw [er]
        rw [n1_append]; rfl
      have e2 : ∀ x, ev (lessL w (scL (shiftL (r.length - 1) g) l)) x = ev (trim r.dropLast) x * ev g x := fun x => by
        rw [ev_less, ev_scL, ev_shift, ev_trim, e x, drop_last_ev r l r1 x]
        grind
      have f3 : (trim r.dropLast).length ≤ k := by
        have := trim_len r.dropLast
        rw [List.length_dropLast] at this
        omega
      have ih := fact_bd hg k (trim r.dropLast) _ (trim_last _) (less_tr _ _) f3 e2
      have h5 : n1 (lessL w (scL (shiftL (r.length - 1) g) l)) ≤ n1 w * (1 + n1 g) := by
        refine Nat.le_trans (n1_less _ _) ?_
        have h6 := n1_scL (shiftL (r.length - 1) g) l
        rw [n1_shift] at h6
        have h7 := Nat.mul_le_mul_right (n1 g) hlw
        rw [Nat.mul_add, Nat.mul_one]
        omega
      rw [n1_trim_eq] at ih
      have h8 := Nat.mul_le_mul_right ((2 + n1 g) ^ k) h5
      have h9 : n1 w ≤ n1 w * (2 + n1 g) ^ k := Nat.le_mul_of_pos_right _ (Nat.pow_pos (by omega))
      rw [Nat.pow_succ, hn]
      have e9 : n1 w * ((2 + n1 g) ^ k * (2 + n1 g)) = n1 w * (1 + n1 g) * (2 + n1 g) ^ k + n1 w * (2 + n1 g) ^ k := by grind
      rw [e9]
      omega
end L3

namespace L3
open PySem PySem.Spec L2
/-! ### whole roots: what they are -/
theorem vaL_ev (p : List Int) (x : Int) : vaL p x = ev p x := rfl
def prodP : List (Int × Nat) → Int → Int
  | [], _ => 1
  | p :: ps, x => (x - p.1) ^ p.2 * prodP ps x
theorem lin_isP (r : Int) : IsP fun x => x - r := ⟨[-r, 1], fun x => by rw [ev_cons, ev_cons, ev_nil]; show x - r = _; omega⟩
theorem linpow_isP (r : Int) : ∀ m : Nat, IsP fun x => (x - r) ^ m
  | 0 => by
    have : (fun x : Int => (x - r) ^ 0) = fun _ => 1 := by funext x; exact Int.pow_zero _
    rw [this]; exact .const 1
  | m + 1 => by
    have : (fun x : Int => (x - r) ^ (m + 1)) = fun x => (x - r) ^ m * (x - r) := by funext x; exact Int.pow_succ _ _
    rw [this]; exact (linpow_isP r m).mul (lin_isP r)
theorem prodP_isP : ∀ ps : List (Int × Nat), IsP (prodP ps)
  | [] => .const 1
  | p :: ps => (linpow_isP p.1 p.2).mul (prodP_isP ps)
theorem prodP_ne (s : Int) : ∀ ps : List (Int × Nat), (∀ p ∈ ps, p.1 ≠ s) → prodP ps s ≠ 0
  | [], _ => by show (1 : Int) ≠ 0; decide
  | p :: ps, h => by
    refine Int.mul_ne_zero (Int.pow_ne_zero ?_) (prodP_ne s ps fun q hq => h q (List.mem_cons_of_mem _ hq))
    have := h p List.mem_cons_self
    omega
theorem lin_prim (r : Int) : Prim [-r, 1] := by
  refine ⟨⟨1, rfl, by decide⟩, ?_⟩
  show Int.gcd (Int.gcd (0 : Nat) (-r)) 1 = 1
  exact Int.gcd_one_right _
theorem ev_lin (r x : Int) : ev [-r, 1] x = x - r := by rw [ev_cons, ev_cons, ev_nil]; omega
structure Sz (rest : List Int) (K : Nat) : Prop where
  tr : Tr rest
  ne : rest ≠ []
  len : rest.length ≤ 20
  n : n1 rest ≤ 2 ^ K
  k : K + 1000 * rest.length ≤ 100000
theorem cnt_ok (r : Int) (hr : r.natAbs ≤ 10000000000) (q : Int → Int) (hq : IsP q) (hq0 : q r ≠ 0) : ∀ (m fuel : Nat) (rest : List Int) (t K : Nat), Sz rest K → rest.length < fuel → (∀ x, ev rest x = (x - r) ^ m * q x) →
    ∃ rest' K', cntL fuel rest r t = some (t + m, rest') ∧ Sz rest' K' ∧ (∀ x, ev rest' x = q x) ∧ rest'.length ≤ rest.length
  | m, 0, rest, t, K, h, hf, _ => absurd hf (Nat.not_lt_zero _)
  | 0, fuel + 1, rest, t, K, h, hf, e => by
    have e' : ∀ x, ev rest x = q x := fun x => by rw [e, Int.pow_zero, Int.one_mul]
    refine ⟨rest, K, ?_, h, e', Nat.le_refl _⟩
    unfold cntL
    rw [if_neg h.ne, vaL_ev, if_neg (by rw [e']; exact hq0)]; rfl
  | m + 1, fuel + 1, rest, t, K, h, hf, e => by
    obtain ⟨l, tl, el⟩ : ∃ l, Tr l ∧ ∀ x, (x - r) ^ m * q x = ev l x := by
      obtain ⟨l0, h0⟩ := (linpow_isP r m).mul hq
      exact ⟨trim l0, trim_last l0, fun x => by rw [ev_trim]; exact h0 x⟩
    have e2 : ∀ x, ev rest x = ev l x * ev [-r, 1] x := fun x => by
      rw [e, ← el, ev_lin, Int.pow_succ]
      grind
    have hv : vaL rest r = 0 := by
      rw [vaL_ev, e, Int.sub_self, Int.zero_pow (by omega), Int.zero_mul]
    obtain ⟨_, l', t', n', e3, e4, e5⟩ := div_deg h.tr h.ne (lin_prim r).tr (IsP.of l) e2
    have el' : l' = l := ev_inj 0 _ _ t' tl fun x _ => by rw [← e3]
    rw [el'] at n' e5
    have l2 : ([-r, 1] : List Int).length = 2 := rfl
    have nb : n1 [-r, 1] ≤ 2 ^ 41 := by
      show (-r).natAbs + ((1 : Int).natAbs + 0) ≤ _
      have : (2 : Nat) ^ 41 = 2199023255552 := by decide
      omega
    have pl := List.length_pos_iff.mpr n'
    have hlen := h.len
    have hk := h.k
    have nl : n1 l ≤ 2 ^ (K + 840) := by
      refine Nat.le_trans (fact_bd (lin_prim r) 20 l rest tl h.tr (by omega) e2) ?_
      rw [Nat.pow_add]
      refine Nat.mul_le_mul h.n ?_
      rw [show 840 = 42 * 20 from rfl, Nat.pow_mul]
      refine Nat.pow_le_pow_left ?_ 20
      have : (2 : Nat) ^ 42 = 2 * 2 ^ 41 := by decide
      have : (2 : Nat) ≤ 2 ^ 41 := by decide
      omega
    obtain ⟨Q, _⟩ := quo_ok h.tr h.ne (lin_prim r) tl e2 (by rw [l2]; decide) (by omega) nb (by decide) (M := K + 840) (fun y hy => Nat.le_trans (n1_mem hy) nl) (by omega)
    have sz : Sz l (K + 840) := ⟨tl, n', by omega, nl, by omega⟩
    obtain ⟨rest', K', c1, c2, c3, c4⟩ := cnt_ok r hr q hq hq0 m fuel l (t + 1) (K + 840) sz (by omega) (fun x => (el x).symm)
    refine ⟨rest', K', ?_, c2, c3, by omega⟩
    unfold cntL
    rw [if_neg h.ne, if_pos hv, Q]
    dsimp only
    rw [show sml rest.length = true from Nat.ble_eq_true_of_le (by omega), show sml l.length = true from Nat.ble_eq_true_of_le (by omega)]
    show cntL fuel l r (t + 1) = _
    rw [c1, show t + 1 + m = t + (m + 1) by omega]
theorem log62 {r : Int} (h : r.natAbs ≤ 10000000000) : Nat.ble r.natAbs.log2 62 = true := by
  refine Nat.ble_eq_true_of_le ?_
  have h1 : r.natAbs ≤ 2 ^ 62 := Nat.le_trans h (by decide)
  exact log2_le_of h1
theorem wr_ok (e : Int → Int) (he : IsP e) (hne : ∀ x, e x ≠ 0) : ∀ (S rest : List Int) (rem acc : List (Int × Nat)) (K : Nat), S.Pairwise (· ≤ ·) → (∀ s ∈ S, s.natAbs ≤ 10000000000) → rem.Pairwise (fun p q => p.1 < q.1) → (∀ p ∈ rem, p.1 ∈ S ∧ 1 ≤ p.2) → Sz rest K →
    (∀ x, ev rest x = e x * prodP rem x) → acc.length + rem.length ≤ 900 → wrL S rest acc = some (acc ++ rem)
  | [], rest, rem, acc, K, _, _, _, hm, _, _, _ => by
    have : rem = [] := by
      cases rem with
      | nil => rfl
      | cons p rem => exact absurd (hm p List.mem_cons_self).1 (by simp)
    rw [this, List.append_nil]; rfl
  | s :: S, rest, rem, acc, K, hS, hb, hR, hm, hz, ee, hl => by
    have hS' := List.pairwise_cons.mp hS
    have sb := hb s List.mem_cons_self
    have lz := hz.len
    have hc : ((sml rest.length && sml acc.length) && Nat.ble s.natAbs.log2 62) = true := by
      rw [show sml rest.length = true from Nat.ble_eq_true_of_le (by omega), show sml acc.length = true from Nat.ble_eq_true_of_le (by omega), log62 sb]; rfl
    have skip : (∀ p ∈ rem, p.1 ∈ S ∧ 1 ≤ p.2) → (∀ p ∈ rem, p.1 ≠ s) → wrL (s :: S) rest acc = some (acc ++ rem) := fun h1 h2 => by
      obtain ⟨rest', K', c1, c2, c3, _⟩ := cnt_ok s sb (ev rest) (IsP.of rest) (by rw [ee]; exact Int.mul_ne_zero (hne s) (prodP_ne s rem h2)) 0 1000 rest 0 K hz (by omega) (fun x => by rw [Int.pow_zero, Int.one_mul])
      have ih := wr_ok e he hne S rest' rem acc K' hS'.2 (fun x hx => hb x (List.mem_cons_of_mem _ hx)) hR h1 c2 (fun x => by rw [c3, ee]) hl
      unfold wrL
      rw [if_pos hc, c1]
      dsimp only
      rw [if_neg (by omega)]
      exact ih
    cases rem with
    | nil => exact skip (fun p hp => by cases hp) (fun p hp => by cases hp)
    | cons p rem =>
      have hR' := List.pairwise_cons.mp hR
      by_cases hs : p.1 = s
      · have h2 : ∀ q ∈ rem, q.1 ≠ s := fun q hq => by
          have := hR'.1 q hq
          omega
        have hp := hm p List.mem_cons_self
        obtain ⟨rest', K', c1, c2, c3, _⟩ := cnt_ok s sb (fun x => e x * prodP rem x) (he.mul (prodP_isP rem)) (Int.mul_ne_zero (hne s) (prodP_ne s rem h2)) p.2 1000 rest 0 K hz (by omega) (fun x => by
          rw [ee]
          show e x * ((x - p.1) ^ p.2 * prodP rem x) = (x - s) ^ p.2 * (e x * prodP rem x)
          rw [hs]
          grind)
        have ih := wr_ok e he hne S rest' rem (acc ++ [p]) K' hS'.2 (fun x hx => hb x (List.mem_cons_of_mem _ hx)) hR'.2 (fun q hq => by
          have := hm q (List.mem_cons_of_mem _ hq)
          refine ⟨?_, this.2⟩
          rcases List.mem_cons.mp this.1 with z | z
          · exact absurd z (h2 q hq)
          · exact z) c2 c3 (by rw [List.length_append]; simp only [List.length_cons, List.length_nil] at hl ⊢; omega)
        unfold wrL
        rw [if_pos hc, c1]
        dsimp only
        rw [if_pos (by omega), Nat.zero_add, show ((s, p.2) : Int × Nat) = p by rw [← hs]]
        rw [ih, List.append_assoc]; rfl
      · have hp := hm p List.mem_cons_self
        have pS : p.1 ∈ S := (List.mem_cons.mp hp.1).resolve_left hs
        have lt : s < p.1 := by
          have := hS'.1 p.1 pS
          omega
        have h2 : ∀ q ∈ p :: rem, q.1 ≠ s := fun q hq => by
          rcases List.mem_cons.mp hq with z | z
          · rw [z]; exact hs
          · have := hR'.1 q z
            omega
        exact skip (fun q hq => by
          have := hm q hq
          exact ⟨(List.mem_cons.mp this.1).resolve_left (h2 q hq), this.2⟩) h2
/-! ### the candidates -/
theorem can_mem {f : Nat} (hf : 1 ≤ f) (x : Int) : x ∈ canL f ↔ x = 0 ∨ ∃ j, 1 ≤ j ∧ j * j ≤ f ∧ f % j = 0 ∧ (x = j ∨ x = -(j : Int) ∨ x = ((f / j : Nat) : Int) ∨ x = -((f / j : Nat) : Int)) := by
  obtain ⟨js, j1, j2⟩ := canD_keys f (f + 1) 1 [(.inl 0, .bool true)] [0] (by omega) (Nat.le_refl _) rfl
  unfold canL keysI
  rw [j1]
  show x ∈ sortI js ↔ _
  rw [(sortI_perm js).mem_iff, j2, List.mem_singleton]
theorem can_sorted (f : Nat) : (canL f).Pairwise (· ≤ ·) := sortI_pw _
theorem can_bd {f : Nat} (hf : 1 ≤ f) (hb : f ≤ 10000000000) : ∀ s ∈ canL f, s.natAbs ≤ 10000000000 := fun s hs => by
  rcases (can_mem hf s).mp hs with z | ⟨j, j1, j2, j3, z⟩
  · rw [z]; decide
  · have h1 : j ≤ j * j := Nat.le_mul_of_pos_left _ j1
    have h2 : f / j ≤ f := Nat.div_le_self f j
    generalize f / j = w at *
    rcases z with z | z | z | z <;> omega
theorem can_dvd {f : Nat} (hf : 1 ≤ f) {r : Int} (h : r.natAbs ∣ f) : r ∈ canL f := by
  rw [can_mem hf]
  right
  obtain ⟨k, hk⟩ := h
  have r0 : 0 < r.natAbs := by
    apply Nat.pos_of_ne_zero
    intro z
    rw [z, Nat.zero_mul] at hk
    omega
  have k0 : 0 < k := by
    apply Nat.pos_of_ne_zero
    intro z
    rw [z, Nat.mul_zero] at hk
    omega
  by_cases hle : r.natAbs * r.natAbs ≤ f
  · refine ⟨r.natAbs, r0, hle, by rw [hk]; exact Nat.mul_mod_right _ _, ?_⟩
    omega
  · refine ⟨k, k0, ?_, by rw [hk]; exact Nat.mul_mod_left _ _, ?_⟩
    · have : k < r.natAbs := by
        apply Classical.byContradiction
        intro z
        have := Nat.mul_le_mul (Nat.le_refl r.natAbs) (show r.natAbs ≤ k by omega)
        omega
      have := Nat.mul_le_mul (Nat.le_of_lt this) (Nat.le_refl k)
      omega
    · have : f / k = r.natAbs := by rw [hk]; exact Nat.mul_div_cancel _ k0
      rw [this]
      omega
theorem fst_cons0 (xs : List Int) : fstL (0 :: xs) = fstL xs := rfl
theorem fst_cons {x : Int} (h : x ≠ 0) (xs : List Int) : fstL (x :: xs) = x.natAbs := by
  unfold fstL
  rw [List.filter_cons_of_pos (by simp [h])]
theorem root_dvd {r : Int} (hr : r ≠ 0) : ∀ a : List Int, ev a r = 0 → r.natAbs ∣ fstL a
  | [], _ => Nat.dvd_zero _
  | x :: xs, h => by
    by_cases h0 : x = 0
    · subst h0
      rw [ev_cons, Int.zero_add] at h
      rw [fst_cons0]
      exact root_dvd hr xs ((Int.mul_eq_zero.mp h).resolve_left hr)
    · rw [fst_cons h0]
      rw [ev_cons] at h
      have : x = r * (- ev xs r) := by rw [Int.mul_neg]; omega
      exact Int.natAbs_dvd_natAbs.mpr ⟨_, this⟩
theorem fst_pos : ∀ {a : List Int}, (∃ x ∈ a, x ≠ 0) → 1 ≤ fstL a ∧ fstL a ≤ n1 a
  | [], h => by obtain ⟨x, hx, _⟩ := h; cases hx
  | y :: a, h => by
    by_cases h0 : y = 0
    · subst h0
      rw [fst_cons0, n1_cons]
      obtain ⟨x, hx, h1⟩ := h
      have := fst_pos (a := a) ⟨x, (List.mem_cons.mp hx).resolve_left h1, h1⟩
      omega
    · rw [fst_cons h0, n1_cons]
      omega
/-- the whole roots of a product -/
theorem roots_ok {a : List Int} {K : Nat} (hz : Sz a K) (hb : n1 a ≤ 1000000000) (e : Int → Int) (he : IsP e) (hne : ∀ x, e x ≠ 0) (rem : List (Int × Nat)) (hs : rem.Pairwise (fun p q => p.1 < q.1)) (h1 : ∀ p ∈ rem, 1 ≤ p.2) (hl : rem.length ≤ 900) (ee : ∀ x, ev a x = e x * prodP rem x) :
    1 ≤ fstL a ∧ fstL a ≤ 10000000000 ∧ wrL (canL (fstL a)) a [] = some rem := by
  obtain ⟨l, l1, l2⟩ := tr_last hz.tr hz.ne
  have fp := fst_pos ⟨l, List.mem_of_getLast? l1, l2⟩
  refine ⟨fp.1, by omega, ?_⟩
  have := wr_ok e he hne (canL (fstL a)) a rem [] K (can_sorted _) (can_bd fp.1 (by omega)) hs (fun p hp => ⟨?_, h1 p hp⟩) hz ee (by simpa using hl)
  · rw [List.nil_append] at this
    exact this
  · by_cases h0 : p.1 = 0
    · rw [h0]; exact (can_mem fp.1 0).mpr (.inl rfl)
    · refine can_dvd fp.1 (root_dvd h0 a ?_)
      rw [ee]
      have : prodP rem p.1 = 0 := by
        have go : ∀ ps : List (Int × Nat), p ∈ ps → prodP ps p.1 = 0 := fun ps => by
          induction ps with
          | nil => intro h; cases h
          | cons q ps ih =>
            intro h
            rcases List.mem_cons.mp h with z | z
            · subst z
              show (p.1 - p.1) ^ p.2 * _ = 0
              have := h1 p hp
              rw [Int.sub_self, Int.zero_pow (by omega), Int.zero_mul]
            · show _ * prodP ps p.1 = 0
              rw [ih z, Int.mul_zero]
        exact go rem hp
      rw [this, Int.mul_zero]
end L3

namespace L3
open PySem PySem.Spec L2
structure Pk (p : List Int) : Prop where
  rg : ∀ x ∈ p, -1000000000 ≤ x ∧ x ≤ 1000000000
  len : p.length ≤ 12
  last : p.getLast? ≠ some 0
theorem badAt_ok : ∀ (p : List Int) (k : Nat), (∀ x ∈ p, -1000000000 ≤ x ∧ x ≤ 1000000000) → badAt k (zs p) = none
  | [], _, _ => rfl
  | x :: p, k, h => by
    have h1 := h x List.mem_cons_self
    show (if isF (.int x) (-FAR) FAR = true then badAt (k + 1) (zs p) else some k) = none
    rw [if_pos (by unfold isF FAR; simp [h1.1, h1.2]), badAt_ok p (k + 1) fun y hy => h y (List.mem_cons_of_mem _ hy)]
theorem Pk.chk {p : List Int} (h : Pk p) : L3.chk (.tuple (zs p)) = none := by
  unfold L3.chk
  dsimp only
  rw [if_neg (by rw [zs_len]; have := h.len; omega), badAt_ok p 0 h.rg]
  dsimp only
  unfold zs
  rw [List.getLast?_map]
  cases q : p.getLast? with
  | none => rfl
  | some x =>
    have hx : x ≠ 0 := fun z => h.last (by rw [q, z])
    show (match some (PyData.int x) with
      | some (.int 0) => some (PyData.int ((p.map PyData.int).length - 1 : Nat))
      | _ => none) = none
    split
    · rename_i z
      cases z
      exact absurd rfl hx
    · rfl
theorem pick_rg (x : Rw) {many : Int} (h : 0 < many) : 0 ≤ (x.pick many).1 ∧ (x.pick many).1 < many := by
  unfold Rw.pick
  split
  · exact fm_pos _ h
  · exact fm_pos _ h
theorem pick_ok (x : Rw) {many : Int} (h1 : 0 < many) (h2 : many < 2 ^ 64) : m__law_pick [.lst x.ds, .fz (.int many)] = some (.ok (.i (x.pick many).1) [some (.lst (x.pick many).2.ds), some (.i many)]) := by
  unfold m__law_pick
  dsimp only
  rw [of_rw]
  exact if_pos ⟨h1, h2⟩
theorem pick_ex (x : Rw) {k : Int} (h1 : 0 < k) (h2 : k < 2 ^ 64) : ∃ (v : Int) (x1 : Rw), 0 ≤ v ∧ v < k ∧ m__law_pick [.lst x.ds, .fz (.int k)] = some (.ok (.i v) [some (.lst x1.ds), some (.i k)]) := ⟨_, _, (pick_rg x h1).1, (pick_rg x h1).2, pick_ok x h1 h2⟩
theorem e14 : gMul [.fz (.tuple [.int 1]), .fz (.int 14)] = some (.fz (.tuple (zs (List.replicate 14 1)))) := rfl
def odds1 : List D := odds.take 8
def odds2 : List D := odds.drop 8
theorem h__law_odd_poly : ∀ cs o, m__law_odd_poly cs = some o → ∃ n out, g__law_odd_poly n (startR 2 cs) = some out ∧ fin [true] out = some o := fun cs o h => by
  unfold m__law_odd_poly at h
  split at h
  case h_2 => cases h
  rename_i ds
  cases q : Rw.of ds with
  | none => rw [q] at h; cases h
  | some x =>
    rw [q] at h
    cases rw_of q
    dsimp only at h
    cases q2 : odds[(x.pick 13).1.toNat]? with
    | none => rw [q2] at h; cases h
    | some d =>
      rw [q2] at h
      cases h
      have ep := pick_ok x (many := 13) (by decide) (by decide)
      have rp := pick_rg x (many := 13) (by decide)
      have ei : atI odds (x.pick 13).1 = some d := by
        have := atI_nat (j := (x.pick 13).1.toNat) q2
        rw [Int.toNat_of_nonneg rp.1] at this
        exact this
      refine ⟨0, .rt (.fz d) [some (.lst (x.pick 13).2.ds), some (.lst odds)], ?_, rfl⟩
      simp [g__law_odd_poly, startR, e14]
      rw [show gAdd _ = some (Cl.lst odds) from rfl]
      simp [ep, ei]
theorem ev_lmul (a b : List Int) (x : Int) : ev (lmul a b) x = ev a x * ev b x := by
  unfold lmul
  rw [ev_trim, ev_mulAll x b a 0 _ (by rw [List.length_replicate]; omega), ev_zeros, Int.pow_zero, Int.one_mul, Int.zero_add]
theorem lmul_tr (a b : List Int) : Tr (lmul a b) := trim_last _
theorem lmul_eq (a b : List Int) : lmul a b = mulL a b := ev_inj 0 _ _ (lmul_tr a b) (mulL_trim a b) fun x _ => by rw [ev_lmul, ev_mulL]
theorem m_lmulM_ok {a b : List Int} (h1 : a.length ≤ 1000) (h2 : b.length ≤ 1000) (h : mOk a b = true) : m__law_mul [T a, T b] = some (.ok (T (lmul a b)) [some (T a), some (T b)]) := by
  unfold m__law_mul
  dsimp only
  rw [tupI_T, tupI_T]
  dsimp only
  rw [show sml a.length = true from Nat.ble_eq_true_of_le h1, show sml b.length = true from Nat.ble_eq_true_of_le h2, h]; rfl
theorem lmul_n1 (a b : List Int) : n1 (lmul a b) ≤ n1 a * n1 b := by
  rw [lmul_eq]; exact n1_mulL a b
theorem lmul_len (a b : List Int) : (lmul a b).length ≤ a.length + b.length - 1 := by
  rw [lmul_eq]; exact mulL_len a b
/-! ### the rows of drawn roots -/
def rowD (p : Int × Nat) : Key × D := (.inl p.1, .int p.2)
structure RowsOk (es : List (Key × D)) (ps : List (Int × Nat)) : Prop where
  eq : es = ps.map rowD
  nd : (ps.map (·.1)).Nodup
  pos : ∀ p ∈ ps, 1 ≤ p.2
theorem rows_keys {es : List (Key × D)} {ps : List (Int × Nat)} (h : RowsOk es ps) : intKeys es = some (ps.map (·.1)) := by
  rw [h.eq]
  have go : ∀ ps : List (Int × Nat), intKeys (ps.map rowD) = some (ps.map (·.1)) := fun ps => by
    induction ps with
    | nil => rfl
    | cons p ps ih =>
      show (intKeys (ps.map rowD)).map (p.1 :: ·) = _
      rw [ih]; rfl
  exact go ps
theorem rows_any (ps : List (Int × Nat)) (r : Int) : ((ps.map rowD).any fun kv => decide (kv.1 = (.inl r : Key))) = decide (r ∈ ps.map (·.1)) := by
  induction ps with
  | nil => rfl
  | cons p ps ih =>
    rw [List.map_cons, List.any_cons, ih]
    show (decide ((Sum.inl p.1 : Key) = Sum.inl r) || _) = _
    by_cases h : p.1 = r
    · rw [decide_eq_true (by rw [h]), Bool.true_or, decide_eq_true (by rw [List.map_cons, h]; exact List.mem_cons_self)]
    · rw [decide_eq_false (fun z => h (by injection z)), Bool.false_or]
      by_cases h2 : r ∈ ps.map (·.1)
      · rw [decide_eq_true h2, decide_eq_true (by rw [List.map_cons]; exact List.mem_cons_of_mem _ h2)]
      · rw [decide_eq_false h2, decide_eq_false (by
          rw [List.map_cons, List.mem_cons]
          rintro (z | z)
          · exact h z.symm
          · exact h2 z)]
theorem rows_get : ∀ (ps : List (Int × Nat)), (ps.map (·.1)).Nodup → ∀ p ∈ ps, getK (ps.map rowD) (.inl p.1) = some (.int p.2)
  | [], _, p, hp => by cases hp
  | q :: ps, hn, p, hp => by
    have hn' := List.nodup_cons.mp hn
    rcases List.mem_cons.mp hp with z | z
    · subst z
      simp [getK, rowD, List.find?_cons]
    · have hne : q.1 ≠ p.1 := fun z' => hn'.1 (by
        show q.1 ∈ ps.map (·.1)
        rw [z']; exact List.mem_map_of_mem z)
      have ih := rows_get ps hn'.2 p z
      rw [List.map_cons]
      have : getK (rowD q :: ps.map rowD) (.inl p.1) = getK (ps.map rowD) (.inl p.1) := by
        simp [getK, rowD, List.find?_cons, hne]
      rw [this, ih]
theorem rows_none : ∀ (ps : List (Int × Nat)) (r : Int), r ∉ ps.map (·.1) → getK (ps.map rowD) (.inl r) = none
  | [], _, _ => rfl
  | q :: ps, r, h => by
    have h1 : q.1 ≠ r := fun z => h (by rw [List.map_cons, z]; exact List.mem_cons_self)
    have ih := rows_none ps r fun z => h (by rw [List.map_cons]; exact List.mem_cons_of_mem _ z)
    rw [List.map_cons]
    have : getK (rowD q :: ps.map rowD) (.inl r) = getK (ps.map rowD) (.inl r) := by
      simp [getK, rowD, List.find?_cons, h1]
    rw [this, ih]
theorem prodP_app (x : Int) : ∀ (ps qs : List (Int × Nat)), prodP (ps ++ qs) x = prodP ps x * prodP qs x
  | [], qs => by show prodP qs x = 1 * prodP qs x; rw [Int.one_mul]
  | p :: ps, qs => by
    show (x - p.1) ^ p.2 * prodP (ps ++ qs) x = (x - p.1) ^ p.2 * prodP ps x * prodP qs x
    rw [prodP_app x ps qs, Int.mul_assoc]
def bumpP (r : Int) (p : Int × Nat) : Int × Nat := if p.1 = r then (p.1, p.2 + 1) else p
theorem bump_fst (r : Int) (ps : List (Int × Nat)) : (ps.map (bumpP r)).map (·.1) = ps.map (·.1) := by
  rw [List.map_map]
  refine List.map_congr_left fun p _ => ?_
  show (bumpP r p).1 = p.1
  unfold bumpP
  split <;> rfl
theorem bump_no {r : Int} : ∀ {ps : List (Int × Nat)}, r ∉ ps.map (·.1) → ps.map (bumpP r) = ps
  | [], _ => rfl
  | p :: ps, h => by
    rw [List.map_cons, bump_no fun z => h (by rw [List.map_cons]; exact List.mem_cons_of_mem _ z)]
    unfold bumpP
    rw [if_neg fun z => h (by rw [List.map_cons, z]; exact List.mem_cons_self)]
theorem bump_prod (r x : Int) : ∀ (ps : List (Int × Nat)), (ps.map (·.1)).Nodup → r ∈ ps.map (·.1) → prodP (ps.map (bumpP r)) x = prodP ps x * (x - r)
  | [], _, h => by cases h
  | p :: ps, hn, h => by
    have hn' := List.nodup_cons.mp hn
    rw [List.map_cons]
    by_cases hp : p.1 = r
    · rw [bump_no (by rw [← hp]; exact hn'.1)]
      unfold bumpP
      rw [if_pos hp]
      show (x - p.1) ^ (p.2 + 1) * prodP ps x = (x - p.1) ^ p.2 * prodP ps x * (x - r)
      rw [Int.pow_succ, hp]
      grind
    · have : r ∈ ps.map (·.1) := by
        rw [List.map_cons] at h
        exact (List.mem_cons.mp h).resolve_left fun z => hp z.symm
      have ih := bump_prod r x ps hn'.2 this
      have e : bumpP r p = p := if_neg hp
      rw [e]
      show (x - p.1) ^ p.2 * prodP (ps.map (bumpP r)) x = (x - p.1) ^ p.2 * prodP ps x * (x - r)
      rw [ih, Int.mul_assoc]
theorem inc_ok {es : List (Key × D)} {ps : List (Int × Nat)} (h : RowsOk es ps) (r : Int) : ∃ ps', RowsOk (incD es r) ps' ∧ (∀ x, prodP ps' x = prodP ps x * (x - r)) ∧ ps'.length ≤ ps.length + 1 ∧ ∀ p ∈ ps', p.1 = r ∨ p.1 ∈ ps.map (·.1) := by
  have he := h.eq
  by_cases hr : r ∈ ps.map (·.1)
  · obtain ⟨p, hp, hpr⟩ := List.mem_map.mp hr
    have hg : asI es r = p.2 := by
      unfold asI
      have := rows_get ps h.nd p hp
      rw [hpr] at this
      rw [he, this]
    refine ⟨ps.map (bumpP r), ⟨?_, by rw [bump_fst]; exact h.nd, fun q hq => ?_⟩, fun x => bump_prod r x ps h.nd hr, by rw [List.length_map]; omega, fun q hq => .inr (by
      rw [← bump_fst r ps]
      exact List.mem_map_of_mem hq)⟩
    · unfold incD putD
      rw [he, rows_any, decide_eq_true hr, if_pos rfl, List.map_map, List.map_map]
      refine List.map_congr_left fun q hq => ?_
      show (if (rowD q).1 = (.inl r : Key) then ((rowD q).1, .int (asI (ps.map rowD) r + 1)) else rowD q) = rowD (bumpP r q)
      unfold bumpP
      by_cases hq' : q.1 = r
      · rw [if_pos (by show (Sum.inl q.1 : Key) = _; rw [hq']), if_pos hq']
        have e : q.2 = p.2 := by
          have a1 := rows_get ps h.nd q hq
          have a2 := rows_get ps h.nd p hp
          rw [hq'] at a1
          rw [hpr, a1] at a2
          injection a2 with a2
          injection a2 with a2
          omega
        rw [← he, hg, ← e]
        show ((Sum.inl q.1 : Key), PyData.int ((q.2 : Int) + 1)) = (Sum.inl q.1, .int ((q.2 + 1 : Nat) : Int))
        congr 2
      · rw [if_neg (fun z => hq' (by injection z)), if_neg hq']
    · obtain ⟨q', hq', rfl⟩ := List.mem_map.mp hq
      have := h.pos q' hq'
      unfold bumpP
      split
      · show 1 ≤ q'.2 + 1; omega
      · exact this
  · have hg : asI es r = 0 := by
      unfold asI
      rw [he, rows_none ps r hr]
    refine ⟨ps ++ [(r, 1)], ⟨?_, ?_, fun q hq => ?_⟩, fun x => ?_, by rw [List.length_append]; exact Nat.le_refl _, fun q hq => ?_⟩
    · unfold incD putD
      rw [hg, he, rows_any, decide_eq_false hr, if_neg (by decide), List.map_append]; rfl
    · rw [List.map_append, List.nodup_append]
      refine ⟨h.nd, by simp, fun a ha b hb => ?_⟩
      rw [List.map_cons, List.map_nil, List.mem_singleton] at hb
      rw [hb]
      exact fun z => hr (by
        have z : a = r := z
        rw [← z]; exact ha)
    · rcases List.mem_append.mp hq with z | z
      · exact h.pos q z
      · rw [List.mem_singleton.mp z]; exact Nat.le_refl _
    · rw [prodP_app]
      show prodP ps x * ((x - r) ^ 1 * 1) = _
      rw [Int.mul_one, Int.pow_succ, Int.pow_zero, Int.one_mul]
    · rcases List.mem_append.mp hq with z | z
      · exact .inr (List.mem_map_of_mem z)
      · rw [List.mem_singleton.mp z]; exact .inl rfl
theorem new_ok {es : List (Key × D)} {ps : List (Int × Nat)} (h : RowsOk es ps) {r : Int} (hr : r ∉ ps.map (·.1)) : RowsOk (putD es (.inl r) (.int 1)) (ps ++ [(r, 1)]) ∧ ∀ x, prodP (ps ++ [(r, 1)]) x = prodP ps x * (x - r) := by
  refine ⟨⟨?_, ?_, fun q hq => ?_⟩, fun x => ?_⟩
  · unfold putD
    rw [h.eq, rows_any, decide_eq_false hr, if_neg (by decide), List.map_append]; rfl
  · rw [List.map_append, List.nodup_append]
    refine ⟨h.nd, by simp, fun a ha b hb => ?_⟩
    rw [List.map_cons, List.map_nil, List.mem_singleton] at hb
    rw [hb]
    exact fun z => hr (by
        have z : a = r := z
        rw [← z]; exact ha)
  · rcases List.mem_append.mp hq with z | z
    · exact h.pos q z
    · rw [List.mem_singleton.mp z]; exact Nat.le_refl _
  · rw [prodP_app]
    show prodP ps x * ((x - r) ^ 1 * 1) = _
    rw [Int.mul_one, Int.pow_succ, Int.pow_zero, Int.one_mul]
/-! sorted -/
def lookP (ps : List (Int × Nat)) (k : Int) : Nat := ((ps.find? fun p => decide (p.1 = k)).map (·.2)).getD 0
def remP (ps : List (Int × Nat)) : List (Int × Nat) := (sortI (ps.map (·.1))).map fun k => (k, lookP ps k)
theorem look_mem : ∀ (ps : List (Int × Nat)), (ps.map (·.1)).Nodup → ∀ p ∈ ps, lookP ps p.1 = p.2
  | [], _, p, hp => by cases hp
  | q :: ps, hn, p, hp => by
    have hn' := List.nodup_cons.mp hn
    rcases List.mem_cons.mp hp with z | z
    · subst z
      simp [lookP, List.find?_cons]
    · have hne : q.1 ≠ p.1 := fun z' => hn'.1 (by
        show q.1 ∈ ps.map (·.1)
        rw [z']; exact List.mem_map_of_mem z)
      have ih := look_mem ps hn'.2 p z
      have : lookP (q :: ps) p.1 = lookP ps p.1 := by
        simp [lookP, List.find?_cons, hne]
      rw [this, ih]
theorem rem_perm {ps : List (Int × Nat)} (hn : (ps.map (·.1)).Nodup) : (remP ps).Perm ps := by
  have h := (sortI_perm (ps.map (·.1))).map fun k => (k, lookP ps k)
  rw [List.map_map] at h
  have e : ps.map ((fun k => (k, lookP ps k)) ∘ (·.1)) = ps := by
    conv => rhs; rw [← List.map_id ps]
    refine List.map_congr_left fun p hp => ?_
    show (p.1, lookP ps p.1) = p
    rw [look_mem ps hn p hp]
  rw [e] at h
  exact h
theorem rem_sorted {ps : List (Int × Nat)} (hn : (ps.map (·.1)).Nodup) : (remP ps).Pairwise fun p q => p.1 < q.1 := by
  have h1 := sortI_pw (ps.map (·.1))
  have h2 : (sortI (ps.map (·.1))).Nodup := (sortI_perm _).nodup_iff.mpr hn
  unfold remP
  rw [List.pairwise_map]
  exact (h1.and h2).imp fun {a b} h => by
    show a < b
    have := h.1
    have := h.2
    omega
theorem prodP_perm (x : Int) {ps qs : List (Int × Nat)} (h : ps.Perm qs) : prodP ps x = prodP qs x := by
  induction h with
  | nil => rfl
  | cons p _ ih => show _ * _ = _ * _; rw [ih]
  | swap p q ps =>
    show (x - q.1) ^ q.2 * ((x - p.1) ^ p.2 * prodP ps x) = (x - p.1) ^ p.2 * ((x - q.1) ^ q.2 * prodP ps x)
    grind
  | trans _ _ i1 i2 => rw [i1, i2]
/-! ### drawn roots: the walk -/
structure RI (k : Nat) (f : List Int) (es : List (Key × D)) (ps : List (Int × Nat)) : Prop where
  rw_ : RowsOk es ps
  tr : Tr f
  ln : f.length = k + 1
  n : n1 f ≤ 4 ^ k
  ev : ∀ x, ev f x = prodP ps x
  pl : ps.length ≤ k
  bd : ∀ p ∈ ps, p.1.natAbs ≤ 3
theorem lmul_lin {f : List Int} (hf : Tr f) (h0 : f ≠ []) (r : Int) : Tr (lmul f [0 - r, 1]) ∧ (lmul f [0 - r, 1]).length = f.length + 1 ∧ n1 (lmul f [0 - r, 1]) ≤ n1 f * (r.natAbs + 1) ∧ ∀ x, ev (lmul f [0 - r, 1]) x = ev f x * (x - r) := by
  have tl : Tr [0 - r, 1] := fun z => by cases z
  have m := mul_tr hf tl h0 (by simp)
  have e : lmul f [0 - r, 1] = mulR f [0 - r, 1] := ev_inj 0 _ _ (lmul_tr _ _) m.1 fun x _ => by rw [ev_lmul, ev_mulR]
  refine ⟨lmul_tr _ _, ?_, ?_, fun x => ?_⟩
  · rw [e, m.2.2]
    simp only [List.length_cons, List.length_nil]
    omega
  · refine Nat.le_trans (lmul_n1 _ _) (Nat.mul_le_mul (Nat.le_refl _) ?_)
    show (0 - r).natAbs + ((1 : Int).natAbs + 0) ≤ _
    omega
  · rw [ev_lmul, ev_cons, ev_cons, ev_nil]
    congr 1
    omega
theorem root_loop (M : Option Cl) (n : Nat) : ∀ (ds : List D) (k : Nat) (x : Rw) (f : List Int) (es : List (Key × D)) (ps : List (Int × Nat)) (c4 c5 : Option Cl), RI k f es ps → k + ds.length ≤ 8 →
    ∃ ps' c4' c5', RI (k + ds.length) (rooL ds.length x f es).1.1 (rooL ds.length x f es).1.2 ps' ∧ forF gl__law_rooted_1 bl__law_rooted_1 n ds [some (.lst x.ds), M, some (T f), some (.dct es), c4, c5] = some (.nx [some (.lst (rooL ds.length x f es).2.ds), M, some (T (rooL ds.length x f es).1.1), some (.dct (rooL ds.length x f es).1.2), c4', c5'])
  | [], k, x, f, es, ps, c4, c5, h, _ => ⟨ps, c4, c5, h, rfl⟩
  | d :: ds, k, x, f, es, ps, c4, c5, h, hk => by
    have hk : k + (ds.length + 1) ≤ 8 := hk
    have p1 := pick_ok x (many := 7) (by decide) (by decide)
    have r1 := pick_rg x (many := 7) (by decide)
    have er : rooL (d :: ds).length x f es = rooL ds.length (x.pick 7).2 (lmul f [0 - ((x.pick 7).1 - 3), 1]) (incD es ((x.pick 7).1 - 3)) := rfl
    rw [er]
    generalize (x.pick 7).1 = v at *
    generalize (x.pick 7).2 = x1 at *
    obtain ⟨r, hr⟩ : ∃ r, r = v - 3 := ⟨_, rfl⟩
    rw [← hr]
    have hf0 : f ≠ [] := fun z => by have := h.ln; rw [z, List.length_nil] at this; omega
    obtain ⟨m1, m2, m3, m4⟩ := lmul_lin h.tr hf0 r
    obtain ⟨ps', i1, i2, i3, i4⟩ := inc_ok h.rw_ r
    have ln := h.ln
    have pl := h.pl
    have hn : n1 f ≤ 4 ^ 8 := Nat.le_trans h.n (Nat.pow_le_pow_right (by decide) (by omega))
    have H : RI (k + 1) (lmul f [0 - r, 1]) (incD es r) ps' := ⟨i1, m1, by omega, by
      rw [Nat.pow_succ]
      exact Nat.le_trans m3 (Nat.mul_le_mul h.n (by omega)), fun y => by rw [m4, h.ev, i2], by omega, fun p hp => by
        rcases i4 p hp with z | z
        · rw [z]; omega
        · obtain ⟨q, hq, e⟩ := List.mem_map.mp z
          rw [← e]
          exact h.bd q hq⟩
    obtain ⟨ps2, a, b, j1, j2⟩ := root_loop M n ds (k + 1) x1 (lmul f [0 - r, 1]) (incD es r) ps' (some (.fz d)) (some (.i r)) H (by omega)
    refine ⟨ps2, a, b, by rw [List.length_cons, show k + (ds.length + 1) = k + 1 + ds.length by omega]; exact j1, ?_⟩
    have em := m_lmulM_ok (a := f) (b := [0 - r, 1]) (by omega) (by simp) (mOk_n1 (N := 20) (M := 20) (Nat.le_trans hn (by decide)) (by
      show (0 - r).natAbs + ((1 : Int).natAbs + 0) ≤ _
      have : (2 : Nat) ^ 20 = 1048576 := by decide
      omega) (by decide))
    have em : m__law_mul [T f, .fz (.tuple [.int (0 - r), .int 1])] = some (.ok (T (lmul f [0 - r, 1])) [some (T f), some (.fz (.tuple [.int (0 - r), .int 1]))]) := em
    have el : es.length ≤ 1000000 := by rw [h.rw_.eq, List.length_map]; omega
    have eg : (getK es (.inl r)).getD (.int 0) = .int (asI es r) := by
      unfold asI
      rw [h.rw_.eq]
      by_cases hm : r ∈ ps.map (·.1)
      · obtain ⟨p, hp, hpr⟩ := List.mem_map.mp hm
        have := rows_get ps h.rw_.nd p hp
        rw [hpr] at this
        rw [this]; rfl
      · rw [rows_none ps r hm]; rfl
    have st : bl__law_rooted_1 n [some (.lst x.ds), M, some (T f), some (.dct es), some (.fz d), c5] = some (.nx [some (.lst x1.ds), M, some (T (lmul f [0 - r, 1])), some (.dct (incD es r)), some (.fz d), some (.i r)]) := by
      generalize lmul f [0 - r, 1] = g at *
      rw [Int.zero_sub] at em
      unfold incD
      simp [bl__law_rooted_1, p1, ← hr, eg, setIxD, el, em]
    rw [for_step (by simp [gl__law_rooted_1]) st, j2]
theorem root_ok (x : Rw) {most : Int} (h : 0 ≤ most) (hm : most ≤ 8) : ∃ (k : Nat) (ps : List (Int × Nat)), k ≤ most.toNat ∧ RI k (rooL (x.pick (most + 1)).1.toNat (x.pick (most + 1)).2 [1] []).1.1 (rooL (x.pick (most + 1)).1.toNat (x.pick (most + 1)).2 [1] []).1.2 ps ∧
    ∃ out, g__law_rooted 0 (startR 6 [.lst x.ds, .fz (.int most)]) = some out ∧ fin [true, true] out = some (.ok (.bx (.tuple (zs (rooL (x.pick (most + 1)).1.toNat (x.pick (most + 1)).2 [1] []).1.1)) (rooL (x.pick (most + 1)).1.toNat (x.pick (most + 1)).2 [1] []).1.2) [some (.lst (rooL (x.pick (most + 1)).1.toNat (x.pick (most + 1)).2 [1] []).2.ds), some (.i most)]) := by
  have p1 := pick_ok x (many := most + 1) (by omega) (by
    have : (101 : Int) < 2 ^ 64 := by decide
    omega)
  have r1 := pick_rg x (many := most + 1) (by omega)
  generalize (x.pick (most + 1)).1 = v at *
  generalize (x.pick (most + 1)).2 = x1 at *
  obtain ⟨k, rfl⟩ : ∃ k : Nat, v = k := ⟨v.toNat, by omega⟩
  rw [Int.toNat_natCast]
  have H0 : RI 0 [1] [] [] := ⟨⟨rfl, .nil, (fun p hp => by cases hp)⟩, (fun z => by cases z), rfl, by decide, (fun y => by rw [ev_cons, ev_nil, Int.mul_zero, Int.add_zero]; rfl), Nat.le_refl _, (fun p hp => by cases hp)⟩
  obtain ⟨ps, a, b, i1, i2⟩ := root_loop (some (.i most)) 0 (rngD 0 k) 0 x1 [1] [] [] none none H0 (by rw [rngD_len]; omega)
  rw [rngD_len, Nat.zero_add] at i1
  rw [rngD_len] at i2
  refine ⟨k, ps, by omega, i1, .rt (.bx (.tuple (zs (rooL k x1 [1] []).1.1)) (rooL k x1 [1] []).1.2) [some (.lst (rooL k x1 [1] []).2.ds), some (.i most), some (T (rooL k x1 [1] []).1.1), none, a, b], ?_, rfl⟩
  have sm : smI k = true := smI_nat (by omega)
  have i2 : forF gl__law_rooted_1 bl__law_rooted_1 0 (rngD 0 k) [some (.lst x1.ds), some (.i most), some (.fz (.tuple [.int 1])), some (.dct []), none, none] = some (.nx [some (.lst (rooL k x1 [1] []).2.ds), some (.i most), some (T (rooL k x1 [1] []).1.1), some (.dct (rooL k x1 [1] []).1.2), a, b]) := i2
  generalize (rooL k x1 [1] []).1.1 = f at *
  generalize (rooL k x1 [1] []).1.2 = es at *
  generalize (rooL k x1 [1] []).2 = x2 at *
  simp [g__law_rooted, st__law_rooted_1, st__law_rooted_2, st__law_rooted_3, startR, p1, sm, i2]
theorem h__law_rooted : ∀ cs o, m__law_rooted cs = some o → ∃ n out, g__law_rooted n (startR 6 cs) = some out ∧ fin [true, true] out = some o := fun cs o h => by
  unfold m__law_rooted at h
  split at h
  case h_2 => cases h
  rename_i ds most
  cases q : Rw.of ds with
  | none => rw [q] at h; cases h
  | some x =>
    rw [q] at h
    cases rw_of q
    dsimp only at h
    split at h
    case isFalse => cases h
    rename_i hm
    cases h
    obtain ⟨_, _, _, _, out, e1, e2⟩ := root_ok x hm.1 hm.2
    exact ⟨0, out, e1, e2⟩
end L3

namespace L3
open PySem PySem.Spec L2
/-! ### the law -/
def coB : Option Cl → Cl → Bool
  | some c, d => ceq c d
  | none, _ => false
theorem co_of {a : Option Cl} {b : Cl} (h : coB a b = true) : a = some b := by
  unfold coB at h
  split at h
  · rw [ceq_of _ _ h]
  · cases h
theorem m_root_ok (x : Rw) : ∃ (f : List Int) (es : List (Key × D)) (ps : List (Int × Nat)) (k : Nat) (x1 : Rw), k ≤ 5 ∧ RI k f es ps ∧ m__law_rooted [.lst x.ds, .fz (.int 5)] = some (.ok (.bx (.tuple (zs f)) es) [some (.lst x1.ds), some (.i 5)]) := by
  obtain ⟨k, ps, h1, h2, _⟩ := root_ok x (most := 5) (by decide) (by decide)
  refine ⟨_, _, ps, k, (rooL (x.pick (5 + 1)).1.toNat (x.pick (5 + 1)).2 [1] []).2, h1, h2, ?_⟩
  unfold m__law_rooted
  dsimp only
  rw [of_rw]
  exact if_pos ⟨by decide, by decide⟩
def extras : List (List Int) := [[1], [-1, 2], [1, 0, 1], [-2, 0, 1], [7], [-3]]
theorem sq_ne2 (x : Int) : x * x ≠ 2 := fun h => by
  have h1 : x.natAbs * x.natAbs = 2 := by
    have := congrArg Int.natAbs h
    rw [Int.natAbs_mul] at this
    exact this
  have : x.natAbs < 2 := by
    apply Classical.byContradiction
    intro z
    have := Nat.mul_le_mul (show 2 ≤ x.natAbs by omega) (show 2 ≤ x.natAbs by omega)
    omega
  have : x.natAbs = 0 ∨ x.natAbs = 1 := by omega
  rcases this with z | z <;> rw [z] at h1 <;> simp at h1
theorem extra_ok {e : List Int} (h : e ∈ extras) : Tr e ∧ e ≠ [] ∧ e.length ≤ 3 ∧ n1 e ≤ 7 ∧ ∀ x, ev e x ≠ 0 := by
  unfold extras at h
  simp only [List.mem_cons, List.not_mem_nil, or_false] at h
  rcases h with rfl | rfl | rfl | rfl | rfl | rfl
  · exact ⟨by decide, by decide, by decide, by decide, fun x => by rw [ev_cons, ev_nil]; omega⟩
  · exact ⟨by decide, by decide, by decide, by decide, fun x => by rw [ev_cons, ev_cons, ev_nil]; omega⟩
  · refine ⟨by decide, by decide, by decide, by decide, fun x => ?_⟩
    rw [ev_cons, ev_cons, ev_cons, ev_nil]
    have : 0 ≤ x * x := by
      rw [← Int.natAbs_mul_self' x]
      exact Int.mul_nonneg (by omega) (by omega)
    rw [show (1 : Int) + x * (0 + x * (1 + x * 0)) = 1 + x * x by grind]
    omega
  · refine ⟨by decide, by decide, by decide, by decide, fun x => ?_⟩
    rw [ev_cons, ev_cons, ev_cons, ev_nil]
    have := sq_ne2 x
    rw [show (-2 : Int) + x * (0 + x * (1 + x * 0)) = x * x - 2 by grind]
    omega
  · exact ⟨by decide, by decide, by decide, by decide, fun x => by rw [ev_cons, ev_nil]; omega⟩
  · exact ⟨by decide, by decide, by decide, by decide, fun x => by rw [ev_cons, ev_nil]; omega⟩
theorem extra_at {v : Int} (h0 : 0 ≤ v) (h1 : v < 6) : ∃ e ∈ extras, atI [PyData.tuple [.int 1], .tuple [.int (-1), .int 2], .tuple [.int 1, .int 0, .int 1], .tuple [.int (-2), .int 0, .int 1], .tuple [.int 7], .tuple [.int (-3)]] v = some (.tuple (zs e)) := by
  have : v = 0 ∨ v = 1 ∨ v = 2 ∨ v = 3 ∨ v = 4 ∨ v = 5 := by omega
  rcases this with rfl | rfl | rfl | rfl | rfl | rfl
  · exact ⟨[1], by decide, rfl⟩
  · exact ⟨[-1, 2], by decide, rfl⟩
  · exact ⟨[1, 0, 1], by decide, rfl⟩
  · exact ⟨[-2, 0, 1], by decide, rfl⟩
  · exact ⟨[7], by decide, rfl⟩
  · exact ⟨[-3], by decide, rfl⟩
theorem big_at {v : Int} (h0 : 0 ≤ v) (h1 : v < 3) : ∃ R : Int, atI [PyData.int 40, .int (-77), .int 1000] v = some (.int R) ∧ 3 < R.natAbs ∧ R.natAbs ≤ 1000 := by
  have : v = 0 ∨ v = 1 ∨ v = 2 := by omega
  rcases this with rfl | rfl | rfl
  · exact ⟨40, rfl, by decide, by decide⟩
  · exact ⟨-77, rfl, by decide, by decide⟩
  · exact ⟨1000, rfl, by decide, by decide⟩
/-- what is asked about -/
structure AskI (a : List Int) (es : List (Key × D)) (ps : List (Int × Nat)) : Prop where
  rw_ : RowsOk es ps
  tr : Tr a
  ne : a ≠ []
  len : a.length ≤ 10
  n : n1 a ≤ 8000000
  e : ∃ e : Int → Int, IsP e ∧ (∀ x, e x ≠ 0) ∧ ∀ x, ev a x = e x * prodP ps x
  pl : ps.length ≤ 10
theorem AskI.pk {a : List Int} {es : List (Key × D)} {ps : List (Int × Nat)} (h : AskI a es ps) : Pk a := ⟨fun x hx => by
    have := n1_mem hx
    have := h.n
    omega, by have := h.len; omega, h.tr⟩
theorem AskI.wr {a : List Int} {es : List (Key × D)} {ps : List (Int × Nat)} (h : AskI a es ps) : m_whole_roots [T a] = some (.ok (.lst ((remP ps).map wrD)) [some (T a)]) := by
  obtain ⟨e, he, hne, ee⟩ := h.e
  have pm := rem_perm h.rw_.nd
  have ln := h.len
  have nn := h.n
  have pl := h.pl
  obtain ⟨f1, f2, f3⟩ := roots_ok (K := 23) ⟨h.tr, h.ne, by omega, Nat.le_trans nn (by decide), by omega⟩ (by omega) e he hne (remP ps) (rem_sorted h.rw_.nd) (fun p hp => h.rw_.pos p (pm.mem_iff.mp hp)) (by rw [pm.length_eq]; omega) (fun x => by rw [ee, prodP_perm x pm])
  exact m_wr_ok h.pk.chk h.ne (by omega) f1 f2 f3
abbrev V10 (S R t f es ex a root wr due : Option Cl) : En := [S, R, t, f, es, ex, a, root, wr, due]
theorem due_lc (S R t f ex a wr due : Option Cl) (es : List (Key × D)) (ps : List (Int × Nat)) (h : RowsOk es ps) (n : Nat) : ∀ (ks : List Int) (acc : List D), (∀ k ∈ ks, k ∈ ps.map (·.1)) → lcF 10 cg_law_1 fYes ce_law_1 [7] n (ks.map PyData.int) (V10 S R t f (some (.dct es)) ex a none wr due) acc = some (.ok (.lst (acc ++ (ks.map fun k => (k, lookP ps k)).map wrD)) (V10 S R t f (some (.dct es)) ex a none wr due))
  | [], acc, _ => by
    show some (Rz.ok (Cl.lst acc) _) = some (Rz.ok (Cl.lst (acc ++ [])) _)
    rw [List.append_nil]
  | k :: ks, acc, hk => by
    obtain ⟨p, hp, hpk⟩ := List.mem_map.mp (hk k List.mem_cons_self)
    have g1 := rows_get ps h.nd p hp
    have g2 := look_mem ps h.nd p hp
    have hpk : p.1 = k := hpk
    rw [hpk] at g1 g2
    rw [← h.eq] at g1
    have e1 : gIxD [.dct es, .fz (.int k)] = some (.i (lookP ps k)) := by rw [g2]; simp [g1]
    rw [List.map_cons, lc_step (ρ2 := V10 S R t f (some (.dct es)) ex a (some (.i k)) wr due) (y := wrD (k, lookP ps k)) (ρ4 := V10 S R t f (some (.dct es)) ex a (some (.i k)) wr due) (ρ5 := V10 S R t f (some (.dct es)) ex a none wr due) (by simp [cg_law_1]) (by rfl) (by simp [ce_law_1, g1, g2, wrD]) (by rfl), due_lc S R t f ex a wr due es ps h n ks _ (fun j hj => hk j (List.mem_cons_of_mem _ hj)), List.append_assoc]
    rfl
theorem wr_sh : ∀ l : List (Int × Nat), PyData.canLayAll0 (l.map wrD) = true ∧ PyData.depthAll (l.map wrD) ≤ 1
  | [] => ⟨rfl, Nat.zero_le _⟩
  | p :: l => by
    obtain ⟨h1, h2⟩ := wr_sh l
    exact ⟨h1, by
      show max 1 (PyData.depthAll (l.map wrD)) ≤ 1
      omega⟩
theorem ne_wr (l : List (Int × Nat)) : gNe [.lst (l.map wrD), .lst (l.map wrD)] = some (.b false) := by
  obtain ⟨h1, h2⟩ := wr_sh l
  have c : (PyData.list (l.map wrD)).canLay0 = true := h1
  have s : SeqAt.shaped (.list (l.map wrD)) = true := by
    show (PyData.canLayAll0 (l.map wrD) && decide (PyData.depthAll (l.map wrD) + 1 ≤ 64)) = true
    rw [h1, decide_eq_true (by omega)]; rfl
  show (if (SeqAt.shaped (.list (l.map wrD)) && SeqAt.shaped (.list (l.map wrD))) = true then some (Cl.fz (.bool (!PyData.eqv (.list (l.map wrD)) (.list (l.map wrD))))) else none) = _
  rw [s, SeqAt.eqv_refl _ c]; rfl
def oddB (d : D) : Bool := match d with
  | .tuple [v, due] => coB (gNe [.lst [.str "poly", due], .lst [.str "poly", due]]) (.b false) && (match chk v with
      | some i => deq i due
      | none => false)
  | _ => false
theorem odd_all : (odds.all oddB) = true := by decide +kernel
theorem odd_ex (x : Rw) : ∃ (v due : D) (x1 : Rw), m__law_odd_poly [.lst x.ds] = some (.ok (.fz (.tuple [v, due])) [some (.lst x1.ds)]) ∧ gNe [.lst [.str "poly", due], .lst [.str "poly", due]] = some (.b false) ∧ chk v = some due := by
  have r := pick_rg x (many := 13) (by decide)
  have hl : odds.length = 13 := rfl
  obtain ⟨j, hj⟩ : ∃ j : Nat, (x.pick 13).1 = j := ⟨(x.pick 13).1.toNat, by omega⟩
  have hj' : j < odds.length := by omega
  have hb := List.all_eq_true.mp odd_all _ (List.getElem_mem hj')
  unfold oddB at hb
  split at hb
  case h_2 => cases hb
  rename_i v due e
  rw [Bool.and_eq_true] at hb
  obtain ⟨h4, h5⟩ := hb
  refine ⟨v, due, (x.pick 13).2, ?_, co_of h4, ?_⟩
  · unfold m__law_odd_poly
    dsimp only
    rw [of_rw]
    dsimp only
    rw [hj, Int.toNat_natCast, List.getElem?_eq_getElem hj', e]
  · split at h5
    · rename_i i q
      rw [q, deq_of _ _ h5]
    · cases h5
theorem wrong_bad {v i : D} (h : chk v = some i) : m__law_wrong [.fz v] = some (.ok (.lst [.str "poly", i]) [some (.fz v)]) := by
  have z1 : tblO [("BadPoly", true), ("Zero", false)] (bad i) = some true := rfl
  have z2 : tblB ["BadPoly"] (bad i) = true := rfl
  have z3 : seF ["BadPoly"] "index" (bad i) = some i := rfl
  have e : m_whole_roots [.fz v] = some (.ex (bad i) [some (.fz v)]) := by
    unfold m_whole_roots
    dsimp only
    rw [h]
  simp [m__law_wrong, g__law_wrong, startR, tb__law_wrong_1, e, z1, z2, z3]; rfl
theorem wrong_zero : m__law_wrong [.fz (.tuple [])] = some (.ok (.fz (.str "zero")) [some (.fz (.tuple []))]) := mo_of (by decide +kernel)
theorem zero_ne : gNe [.fz (.str "zero"), .fz (.str "zero")] = some (.b false) := co_of (by decide +kernel)
set_option maxHeartbeats 0 in
theorem turn_ok (S t c3 c4 c5 c6 c7 c8 c9 : Option Cl) (n : Nat) (x : Rw) : ∃ (x1 : Rw) (d3 d4 d5 d6 d7 d8 d9 : Option Cl), bl_law_1 n (V10 S (some (.lst x.ds)) t c3 c4 c5 c6 c7 c8 c9) = some (.nx (V10 S (some (.lst x1.ds)) t d3 d4 d5 d6 d7 d8 d9)) := by
  obtain ⟨f, es, ps, k, x1, hk, ri, e1⟩ := m_root_ok x
  have fn : f ≠ [] := fun z => by have := ri.ln; rw [z, List.length_nil] at this; omega
  have fl := ri.ln
  have f4 : n1 f ≤ 1024 := Nat.le_trans ri.n (Nat.le_trans (Nat.pow_le_pow_right (by decide) hk) (by decide))
  have s1 : ∀ R : FS, sSeq sb_law_1 R n (V10 S (some (.lst x.ds)) t c3 c4 c5 c6 c7 c8 c9) = R n (V10 S (some (.lst x1.ds)) t (some (T f)) (some (.dct es)) c5 c6 c7 c8 c9) := fun R => by
    simp [sb_law_1, e1]
  obtain ⟨v2, x2, a2, b2, e2⟩ := pick_ex x1 (k := 6) (by decide) (by decide)
  obtain ⟨ex, hex, hat⟩ := extra_at a2 b2
  obtain ⟨x1', x2', x3', x4', x5'⟩ := extra_ok hex
  have s2 : ∀ R : FS, sSeq sb_law_2 R n (V10 S (some (.lst x1.ds)) t (some (T f)) (some (.dct es)) c5 c6 c7 c8 c9) = R n (V10 S (some (.lst x2.ds)) t (some (T f)) (some (.dct es)) (some (T ex)) c6 c7 c8 c9) := fun R => by
    simp [sb_law_2, e2, hat]
  have m1 := m_lmulM_ok (a := f) (b := ex) (by omega) (by omega) (mOk_n1 (N := 20) (M := 20) (Nat.le_trans f4 (by decide)) (Nat.le_trans x4' (by decide)) (by decide))
  have mt := mul_tr ri.tr x1' fn x2'
  have me : lmul f ex = mulR f ex := ev_inj 0 _ _ (lmul_tr _ _) mt.1 fun y _ => by rw [ev_lmul, ev_mulR]
  have ask : AskI (lmul f ex) es ps := by
    refine ⟨ri.rw_, lmul_tr _ _, by rw [me]; exact mt.2.1, ?_, ?_, ⟨ev ex, IsP.of _, x5', fun y => ?_⟩, ?_⟩
    · have := lmul_len f ex
      omega
    · have := Nat.mul_le_mul f4 x4'
      have := lmul_n1 f ex
      omega
    · rw [ev_lmul, ri.ev, Int.mul_comm]
    · have := ri.pl
      omega
  have an : n1 (lmul f ex) ≤ 7168 := Nat.le_trans (lmul_n1 f ex) (Nat.mul_le_mul f4 x4')
  have al : (lmul f ex).length ≤ 8 := by have := lmul_len f ex; omega
  have s3 : ∀ R : FS, sSeq sb_law_3 R n (V10 S (some (.lst x2.ds)) t (some (T f)) (some (.dct es)) (some (T ex)) c6 c7 c8 c9) = R n (V10 S (some (.lst x2.ds)) t (some (T f)) (some (.dct es)) (some (T ex)) (some (T (lmul f ex))) c7 c8 c9) := fun R => by
    simp [sb_law_3, m1]
  generalize hA : lmul f ex = A at *
  -- one more root
  obtain ⟨A', es', ps', d7, x3, ask', s4⟩ : ∃ (A' : List Int) (es' : List (Key × D)) (ps' : List (Int × Nat)) (d7 : Option Cl) (x3 : Rw), AskI A' es' ps' ∧ ∀ R : FS, sSeq sb_law_4 R n (V10 S (some (.lst x2.ds)) t (some (T f)) (some (.dct es)) (some (T ex)) (some (T A)) c7 c8 c9) = R n (V10 S (some (.lst x3.ds)) t (some (T f)) (some (.dct es')) (some (T ex)) (some (T A')) d7 c8 c9) := by
    obtain ⟨w, y1, w0, w1, p1⟩ := pick_ex x2 (k := 3) (by decide) (by decide)
    by_cases hw : w = 0
    · obtain ⟨u, y2, u0, u1, p2⟩ := pick_ex y1 (k := 3) (by decide) (by decide)
      obtain ⟨R, hR, r3, r1000⟩ := big_at u0 u1
      have hn : R ∉ ps.map (·.1) := fun z => by
        obtain ⟨p, hp, e⟩ := List.mem_map.mp z
        have := ri.bd p hp
        rw [e] at this
        omega
      obtain ⟨n1', n2'⟩ := new_ok ask.rw_ hn
      obtain ⟨q1, q2, q3, q4⟩ := lmul_lin ask.tr ask.ne R
      have em := m_lmulM_ok (a := A) (b := [0 - R, 1]) (by omega) (by simp) (mOk_n1 (N := 20) (M := 20) (Nat.le_trans an (by decide)) (by
        show (0 - R).natAbs + ((1 : Int).natAbs + 0) ≤ _
        have : (2 : Nat) ^ 20 = 1048576 := by decide
        omega) (by decide))
      have em : m__law_mul [T A, .fz (.tuple [.int (0 - R), .int 1])] = some (.ok (T (lmul A [0 - R, 1])) [some (T A), some (.fz (.tuple [.int (0 - R), .int 1]))]) := em
      have pl := ri.pl
      have el : es.length ≤ 1000000 := by rw [ask.rw_.eq, List.length_map]; omega
      refine ⟨lmul A [0 - R, 1], putD es (.inl R) (.int 1), ps ++ [(R, 1)], some (.i R), y2, ⟨n1', q1, fun z => by rw [z, List.length_nil] at q2; omega, by omega, ?_, ?_, by rw [List.length_append]; simp only [List.length_cons, List.length_nil]; omega⟩, fun Rr => ?_⟩
      · have := Nat.mul_le_mul an (show R.natAbs + 1 ≤ 1001 by omega)
        omega
      · obtain ⟨e, he, hne, ee⟩ := ask.e
        exact ⟨e, he, hne, fun y => by rw [q4, ee, n2', Int.mul_assoc]⟩
      · generalize lmul A [0 - R, 1] = A2 at *
        rw [Int.zero_sub] at em
        simp [sb_law_4, p1, hw, p2, hR, setIxD, el, em]
    · exact ⟨A, es, ps, c7, y1, ask, fun R => by simp [sb_law_4, p1, hw]⟩
  have wr := ask'.wr
  have gs : gSortD [.dct es'] = some (.lst ((sortI (ps'.map (·.1))).map PyData.int)) := by
    show (intKeys es').map _ = _
    rw [rows_keys ask'.rw_]; rfl
  have lc := due_lc S (some (.lst x3.ds)) t (some (T f)) (some (T ex)) (some (T A')) c8 c9 es' ps' ask'.rw_ n (sortI (ps'.map (·.1))) [] (fun k hk => (sortI_perm _).mem_iff.mp hk)
  rw [List.nil_append] at lc
  have nw := ne_wr (remP ps')
  have lc : lcF 10 cg_law_1 fYes ce_law_1 [7] n ((sortI (ps'.map (·.1))).map PyData.int) [S, some (.lst x3.ds), t, some (T f), some (.dct es'), some (T ex), some (T A'), none, c8, c9] [] = some (.ok (.lst ((remP ps').map wrD)) [S, some (.lst x3.ds), t, some (T f), some (.dct es'), some (T ex), some (T A'), none, c8, c9]) := lc
  have kl : ((sortI (ps'.map (·.1))).map PyData.int).length ≤ 1000000 := by
    rw [List.length_map, (sortI_perm _).length_eq, List.length_map]
    have := ask'.pl
    omega
  have s5 : ∃ d7' : Option Cl, ∀ R : FS, sSeq sb_law_5 R n (V10 S (some (.lst x3.ds)) t (some (T f)) (some (.dct es')) (some (T ex)) (some (T A')) d7 c8 c9) = R n (V10 S (some (.lst x3.ds)) t (some (T f)) (some (.dct es')) (some (T ex)) (some (T A')) d7' c8 c9) := by
    generalize (remP ps').map wrD = RL at *
    generalize (sortI (ps'.map (·.1))).map PyData.int = KL at *
    rcases d7 with _ | c
    · exact ⟨none, fun R => by simp [sb_law_5, wr, gs, asSeq, wipR, lc, nw, kl]⟩
    · cases c with
      | fz d => exact ⟨some (.fz d), fun R => by simp [sb_law_5, wr, gs, asSeq, wipR, lc, nw, kl]⟩
      | _ => exact ⟨none, fun R => by simp [sb_law_5, wr, gs, asSeq, wipR, lc, nw, kl]⟩
  obtain ⟨d7', s5⟩ := s5
  obtain ⟨v, due, x4, o1, o2, o3⟩ := odd_ex x3
  have w1 := wrong_bad o3
  have w2 := wrong_zero
  have z1 := zero_ne
  refine ⟨x4, some (T f), some (.dct es'), some (T ex), some (T A'), d7', some (.fz v), some (.fz due), ?_⟩
  unfold bl_law_1
  rw [s1, s2, s3, s4, s5]
  simp [sb_law_6, sb_law_7, o1, w1, o2, w2, z1]
theorem turns_ok (S : Option Cl) (n : Nat) : ∀ (ds : List D) (x : Rw) (t c3 c4 c5 c6 c7 c8 c9 : Option Cl), ∃ (x1 : Rw) (t' d3 d4 d5 d6 d7 d8 d9 : Option Cl), forF gl_law_1 bl_law_1 n ds (V10 S (some (.lst x.ds)) t c3 c4 c5 c6 c7 c8 c9) = some (.nx (V10 S (some (.lst x1.ds)) t' d3 d4 d5 d6 d7 d8 d9))
  | [], x, t, c3, c4, c5, c6, c7, c8, c9 => ⟨x, t, c3, c4, c5, c6, c7, c8, c9, rfl⟩
  | d :: ds, x, t, c3, c4, c5, c6, c7, c8, c9 => by
    obtain ⟨x1, d3, d4, d5, d6, d7, d8, d9, e1⟩ := turn_ok S (some (.fz d)) c3 c4 c5 c6 c7 c8 c9 n x
    obtain ⟨x2, t', f3, f4, f5, f6, f7, f8, f9, e2⟩ := turns_ok S n ds x1 (some (.fz d)) d3 d4 d5 d6 d7 d8 d9
    refine ⟨x2, t', f3, f4, f5, f6, f7, f8, f9, ?_⟩
    rw [for_step (by simp [gl_law_1]) e1, e2]
theorem h_law : ∀ cs o, m_law cs = some o → ∃ n out, g_law n (startR 10 cs) = some out ∧ fin [true] out = some o := fun cs o h => by
  unfold m_law at h
  split at h
  case h_2 => cases h
  rename_i ds
  cases q : intsD ds with
  | none => rw [q] at h; cases h
  | some ns =>
    rw [q] at h
    cases h
    have e1 : m__law_draws [.fz (.list ds)] = some (.ok (.lst (Rw.ds ⟨ns, 0, 0, 7⟩)) [some (.fz (.list ds))]) := by
      unfold m__law_draws
      dsimp only
      rw [q]
    obtain ⟨x1, t', d3, d4, d5, d6, d7, d8, d9, e2⟩ := turns_ok (some (.fz (.list ds))) 0 (rngD 0 3) ⟨ns, 0, 0, 7⟩ none none none none none none none none
    have s2 : smI 3 = true := rfl
    have t2 : (3 : Int).toNat = 3 := rfl
    refine ⟨0, .rt (.b true) (V10 (some (.fz (.list ds))) (some (.lst x1.ds)) t' d3 d4 d5 d6 d7 d8 d9), ?_, rfl⟩
    simp [g_law, st_law_1, st_law_2, st_law_3, startR, e1, s2, t2, e2]
theorem m_law_true (ns : List Int) : ∃ outs, m_law [.fz (.list (zs ns))] = some (.ok (.b true) outs) := by
  unfold m_law
  dsimp only
  rw [intsD_zs]
  exact ⟨_, rfl⟩
end L3

namespace L3
open PySem PySem.Spec L2 PyProof.Rows

def topS (i : Nat) : Stmt := PySem.Challenge.pw_fewroots_k03_whole_roots.main.body.getD i (.Pass ⟨0, 0, 0, 0⟩)
abbrev s_is_from : Stmt := topS 7
theorem sc_is_from : FnScope ["value", "low", "high"] ["value", "low", "high"] (defScope s_is_from) := ⟨rfl, rfl, rfl, by decide +kernel, rfl, by decide +kernel, by decide +kernel⟩
abbrev s_check_poly : Stmt := topS 8
theorem sc_check_poly : FnScope ["value", "index", "one"] ["value"] (defScope s_check_poly) := ⟨rfl, rfl, rfl, by decide +kernel, rfl, by decide +kernel, by decide +kernel⟩
abbrev s_trimmed : Stmt := topS 9
theorem sc_trimmed : FnScope ["row", "many"] ["row"] (defScope s_trimmed) := ⟨rfl, rfl, rfl, by decide +kernel, rfl, by decide +kernel, by decide +kernel⟩
abbrev s_plus_of : Stmt := topS 10
theorem sc_plus_of : FnScope ["one", "other", "size", "first", "second", "a", "b"] ["one", "other"] (defScope s_plus_of) := ⟨rfl, rfl, rfl, by decide +kernel, rfl, by decide +kernel, by decide +kernel⟩
abbrev s_scaled : Stmt := topS 11
theorem sc_scaled : FnScope ["one", "number", "a"] ["one", "number"] (defScope s_scaled) := ⟨rfl, rfl, rfl, by decide +kernel, rfl, by decide +kernel, by decide +kernel⟩
abbrev s_less_of : Stmt := topS 12
theorem sc_less_of : FnScope ["one", "other"] ["one", "other"] (defScope s_less_of) := ⟨rfl, rfl, rfl, by decide +kernel, rfl, by decide +kernel, by decide +kernel⟩
abbrev s_value_of : Stmt := topS 13
theorem sc_value_of : FnScope ["one", "number", "found", "a"] ["one", "number"] (defScope s_value_of) := ⟨rfl, rfl, rfl, by decide +kernel, rfl, by decide +kernel, by decide +kernel⟩
abbrev s_quotient : Stmt := topS 15
theorem sc_quotient : FnScope ["one", "other", "found", "at"] ["one", "other"] (defScope s_quotient) := ⟨rfl, rfl, rfl, by decide +kernel, rfl, by decide +kernel, by decide +kernel⟩
abbrev s_check_zero : Stmt := topS 16
theorem sc_check_zero : FnScope ["one"] ["one"] (defScope s_check_zero) := ⟨rfl, rfl, rfl, by decide +kernel, rfl, by decide +kernel, by decide +kernel⟩
abbrev s_candidates : Stmt := topS 18
theorem sc_candidates : FnScope ["one", "first", "a", "some", "number", "root"] ["one"] (defScope s_candidates) := ⟨rfl, rfl, rfl, by decide +kernel, rfl, by decide +kernel, by decide +kernel⟩
abbrev s_whole_roots : Stmt := topS 17
theorem sc_whole_roots : FnScope ["one", "found", "rest", "root", "times"] ["one"] (defScope s_whole_roots) := ⟨rfl, rfl, rfl, by decide +kernel, rfl, by decide +kernel, by decide +kernel⟩
abbrev s__law_draws : Stmt := topS 20
theorem sc__law_draws : FnScope ["_law_script"] ["_law_script"] (defScope s__law_draws) := ⟨rfl, rfl, rfl, by decide +kernel, rfl, by decide +kernel, by decide +kernel⟩
abbrev s__law_pick : Stmt := topS 21
theorem sc__law_pick : FnScope ["_law_row", "_law_many", "_law_cell", "_law_found"] ["_law_row", "_law_many"] (defScope s__law_pick) := ⟨rfl, rfl, rfl, by decide +kernel, rfl, by decide +kernel, by decide +kernel⟩
abbrev s__law_end : Stmt := topS 22
theorem sc__law_end : FnScope ["_law_numbers", "_law_found", "_law_k"] ["_law_numbers"] (defScope s__law_end) := ⟨rfl, rfl, rfl, by decide +kernel, rfl, by decide +kernel, by decide +kernel⟩
abbrev s__law_mul : Stmt := topS 23
theorem sc__law_mul : FnScope ["_law_a", "_law_b", "_law_found", "_law_k", "_law_j"] ["_law_a", "_law_b"] (defScope s__law_mul) := ⟨rfl, rfl, rfl, by decide +kernel, rfl, by decide +kernel, by decide +kernel⟩
abbrev s__law_rooted : Stmt := topS 24
theorem sc__law_rooted : FnScope ["_law_row", "_law_most", "_law_found", "_law_rows", "_law_k", "_law_root"] ["_law_row", "_law_most"] (defScope s__law_rooted) := ⟨rfl, rfl, rfl, by decide +kernel, rfl, by decide +kernel, by decide +kernel⟩
abbrev s__law_odd_poly : Stmt := topS 25
theorem sc__law_odd_poly : FnScope ["_law_row", "_law_odd"] ["_law_row"] (defScope s__law_odd_poly) := ⟨rfl, rfl, rfl, by decide +kernel, rfl, by decide +kernel, by decide +kernel⟩
abbrev s__law_wrong : Stmt := topS 26
theorem sc__law_wrong : FnScope ["_law_one", "_law_told_there", "e"] ["_law_one"] (defScope s__law_wrong) := ⟨rfl, rfl, rfl, by decide +kernel, rfl, by decide +kernel, by decide +kernel⟩
abbrev s_law : Stmt := topS 27
theorem sc_law : FnScope ["_law_script", "_law_row", "_law_turn", "_law_found", "_law_rows", "_law_extra", "_law_a", "_law_root", "_law_wrong_here", "_law_due"] ["_law_script"] (defScope s_law) := ⟨rfl, rfl, rfl, by decide +kernel, rfl, by decide +kernel, by decide +kernel⟩
structure Ad where
  f_is_from : Addr
  d_is_from : FuncData
  f_check_poly : Addr
  d_check_poly : FuncData
  f_trimmed : Addr
  d_trimmed : FuncData
  f_plus_of : Addr
  d_plus_of : FuncData
  f_scaled : Addr
  d_scaled : FuncData
  f_less_of : Addr
  d_less_of : FuncData
  f_value_of : Addr
  d_value_of : FuncData
  f_quotient : Addr
  d_quotient : FuncData
  f_check_zero : Addr
  d_check_zero : FuncData
  f_candidates : Addr
  d_candidates : FuncData
  f_whole_roots : Addr
  d_whole_roots : FuncData
  f__law_draws : Addr
  d__law_draws : FuncData
  f__law_pick : Addr
  d__law_pick : FuncData
  f__law_end : Addr
  d__law_end : FuncData
  f__law_mul : Addr
  d__law_mul : FuncData
  f__law_rooted : Addr
  d__law_rooted : FuncData
  f__law_odd_poly : Addr
  d__law_odd_poly : FuncData
  f__law_wrong : Addr
  d__law_wrong : FuncData
  f_law : Addr
  d_law : FuncData
  C_BadPoly : Addr
  C_RootError : Addr
  C_Zero : Addr
  fi_BadPoly : Addr
  di_BadPoly : FuncData
  t_FAR : Tok
  t_MOST_TERMS : Tok
  un : Unit
structure Evd (P : Program) (w : World) (K : PySem.W.Frag) (mg : Str → Option Value) (base : Heap) (A0 : Ad) : Prop where
  F_is_from : Fun K "is_from" "is_from" s_is_from A0.f_is_from A0.d_is_from
  b_is_from : Binds K A0.d_is_from ["value", "low", "high"] []
  m_is_from : mg "is_from" = some (.ref A0.f_is_from)
  F_check_poly : Fun K "check_poly" "check_poly" s_check_poly A0.f_check_poly A0.d_check_poly
  b_check_poly : Binds K A0.d_check_poly ["value"] []
  m_check_poly : mg "check_poly" = some (.ref A0.f_check_poly)
  F_trimmed : Fun K "trimmed" "trimmed" s_trimmed A0.f_trimmed A0.d_trimmed
  b_trimmed : Binds K A0.d_trimmed ["row"] []
  m_trimmed : mg "trimmed" = some (.ref A0.f_trimmed)
  F_plus_of : Fun K "plus_of" "plus_of" s_plus_of A0.f_plus_of A0.d_plus_of
  b_plus_of : Binds K A0.d_plus_of ["one", "other"] []
  m_plus_of : mg "plus_of" = some (.ref A0.f_plus_of)
  F_scaled : Fun K "scaled" "scaled" s_scaled A0.f_scaled A0.d_scaled
  b_scaled : Binds K A0.d_scaled ["one", "number"] []
  m_scaled : mg "scaled" = some (.ref A0.f_scaled)
  F_less_of : Fun K "less_of" "less_of" s_less_of A0.f_less_of A0.d_less_of
  b_less_of : Binds K A0.d_less_of ["one", "other"] []
  m_less_of : mg "less_of" = some (.ref A0.f_less_of)
  F_value_of : Fun K "value_of" "value_of" s_value_of A0.f_value_of A0.d_value_of
  b_value_of : Binds K A0.d_value_of ["one", "number"] []
  m_value_of : mg "value_of" = some (.ref A0.f_value_of)
  F_quotient : Fun K "quotient" "quotient" s_quotient A0.f_quotient A0.d_quotient
  b_quotient : Binds K A0.d_quotient ["one", "other"] []
  m_quotient : mg "quotient" = some (.ref A0.f_quotient)
  F_check_zero : Fun K "check_zero" "check_zero" s_check_zero A0.f_check_zero A0.d_check_zero
  b_check_zero : Binds K A0.d_check_zero ["one"] []
  m_check_zero : mg "check_zero" = some (.ref A0.f_check_zero)
  F_candidates : Fun K "candidates" "candidates" s_candidates A0.f_candidates A0.d_candidates
  b_candidates : Binds K A0.d_candidates ["one"] []
  m_candidates : mg "candidates" = some (.ref A0.f_candidates)
  F_whole_roots : Fun K "whole_roots" "whole_roots" s_whole_roots A0.f_whole_roots A0.d_whole_roots
  b_whole_roots : Binds K A0.d_whole_roots ["one"] []
  m_whole_roots : mg "whole_roots" = some (.ref A0.f_whole_roots)
  F__law_draws : Fun K "_law_draws" "_law_draws" s__law_draws A0.f__law_draws A0.d__law_draws
  b__law_draws : Binds K A0.d__law_draws ["_law_script"] []
  m__law_draws : mg "_law_draws" = some (.ref A0.f__law_draws)
  F__law_pick : Fun K "_law_pick" "_law_pick" s__law_pick A0.f__law_pick A0.d__law_pick
  b__law_pick : Binds K A0.d__law_pick ["_law_row", "_law_many"] []
  m__law_pick : mg "_law_pick" = some (.ref A0.f__law_pick)
  F__law_end : Fun K "_law_end" "_law_end" s__law_end A0.f__law_end A0.d__law_end
  b__law_end : Binds K A0.d__law_end ["_law_numbers"] []
  m__law_end : mg "_law_end" = some (.ref A0.f__law_end)
  F__law_mul : Fun K "_law_mul" "_law_mul" s__law_mul A0.f__law_mul A0.d__law_mul
  b__law_mul : Binds K A0.d__law_mul ["_law_a", "_law_b"] []
  m__law_mul : mg "_law_mul" = some (.ref A0.f__law_mul)
  F__law_rooted : Fun K "_law_rooted" "_law_rooted" s__law_rooted A0.f__law_rooted A0.d__law_rooted
  b__law_rooted : Binds K A0.d__law_rooted ["_law_row", "_law_most"] []
  m__law_rooted : mg "_law_rooted" = some (.ref A0.f__law_rooted)
  F__law_odd_poly : Fun K "_law_odd_poly" "_law_odd_poly" s__law_odd_poly A0.f__law_odd_poly A0.d__law_odd_poly
  b__law_odd_poly : Binds K A0.d__law_odd_poly ["_law_row"] []
  m__law_odd_poly : mg "_law_odd_poly" = some (.ref A0.f__law_odd_poly)
  F__law_wrong : Fun K "_law_wrong" "_law_wrong" s__law_wrong A0.f__law_wrong A0.d__law_wrong
  b__law_wrong : Binds K A0.d__law_wrong ["_law_one"] []
  m__law_wrong : mg "_law_wrong" = some (.ref A0.f__law_wrong)
  F_law : Fun K "law" "law" s_law A0.f_law A0.d_law
  b_law : Binds K A0.d_law ["_law_script"] []
  m_law : mg "law" = some (.ref A0.f_law)
  c_FAR : mg "FAR" = some (.int 1000000000 A0.t_FAR)
  c_MOST_TERMS : mg "MOST_TERMS" = some (.int 13 A0.t_MOST_TERMS)
  z_abs : mg "abs" = none
  z_bool : mg "bool" = none
  z_enumerate : mg "enumerate" = none
  z_int : mg "int" = none
  z_isinstance : mg "isinstance" = none
  z_len : mg "len" = none
  z_list : mg "list" = none
  z_max : mg "max" = none
  z_range : mg "range" = none
  z_sorted : mg "sorted" = none
  z_tuple : mg "tuple" = none
  z_zip : mg "zip" = none
  m_BadPoly : mg "BadPoly" = some (.ref A0.C_BadPoly)
  e_BadPoly : EcK K A0.C_BadPoly
  i_BadPoly : EcI P w K mg base 1 A0.C_BadPoly A0.fi_BadPoly A0.di_BadPoly ["index"]
  m_RootError : mg "RootError" = some (.ref A0.C_RootError)
  m_Zero : mg "Zero" = some (.ref A0.C_Zero)
  e_Zero : EcK K A0.C_Zero
  n_Zero : EcN K A0.C_Zero
  x_BadPoly_BadPoly : PySem.W.exmOne K (.ref A0.C_BadPoly) (.ref A0.C_BadPoly) = some true
  x_BadPoly_Zero : PySem.W.exmOne K (.ref A0.C_BadPoly) (.ref A0.C_Zero) = some false
  x_Zero_BadPoly : PySem.W.exmOne K (.ref A0.C_Zero) (.ref A0.C_BadPoly) = some false
  x_Zero_Zero : PySem.W.exmOne K (.ref A0.C_Zero) (.ref A0.C_Zero) = some true
  k_BadPoly_RootError : PySem.W.kitOne K (.ref A0.C_BadPoly) (.ref A0.C_RootError) = some true
  k_Zero_RootError : PySem.W.kitOne K (.ref A0.C_Zero) (.ref A0.C_RootError) = some true
  xf_BadPoly : XfC K A0.C_BadPoly
  nf_BadPoly_index : PySem.W.findIn K (.ref A0.C_BadPoly) "index" = some none
  un : True
section
variable {P : Program} {w : World} {K : PySem.W.Frag} {mg : Str → Option Value} {base : Heap} {A0 : Ad}
theorem w_is_from (Ev : Evd P w K mg base A0) (cdv : Value) (A : Around) (outer : List Env) (s : Shared) (H : Hp) (E : XK) (hr : Room 0 (A.deeper (envOfC "is_from" (defScope s_is_from) s.heap.objs.size A0.f_is_from cdv))) :
    XSs ⟨K, mg⟩ (fun _ : Unit => cxOf (L2.CX P w) P w K mg base ["value", "low", "high"] "is_from" (defScope s_is_from) A0.f_is_from cdv A outer s H E) (fun cls d _ H => E cls d H) [0, 1, 2] (defBody s_is_from) g_is_from :=
  (xss_one (xs_ret (xe_and (xe_isi (fun _ => rfl) (fun _ => rfl) (fun _ => Ev.z_isinstance) (fun _ => rfl) (fun _ => Ev.z_int) (by decide +kernel) (by decide) rfl (xb_var fun _ => pv 0) (fun _ => rfl) (fun _ => rfl) (fun _ => rfl)) (xe_and (xe_not (xe_isi (fun _ => rfl) (fun _ => rfl) (fun _ => Ev.z_isinstance) (fun _ => rfl) (fun _ => Ev.z_bool) (by decide +kernel) (by decide) rfl (xb_var fun _ => pv 0) (fun _ => rfl) (fun _ => rfl) (fun _ => rfl))) (xe_one (xe_ch (fun _ => op_le) (fun _ => op_le) prm_i prm_i (xb_var fun _ => pv 1) (xb_var fun _ => pv 0) (xb_var fun _ => pv 2) rfl))))))
theorem o_is_from (Ev : Evd P w K mg base A0) (h : ∀ cs o, m_is_from cs = some o → ∃ n out, g_is_from n (startR 3 cs) = some out ∧ fin [true, true, true] out = some o) : FnOk P w K mg base (L2.CX P w) 1 A0.f_is_from A0.d_is_from ["value", "low", "high"] (spM ⟨K, mg⟩ 3 m_is_from) :=
  def_ok (fl := [true, true, true]) (Pk := [0, 1, 2]) Ev.F_is_from sc_is_from rfl (flB_ok rfl) (by decide) (fun cdv A outer s H E hr => w_is_from Ev cdv A outer s H E hr) h
theorem w_check_poly (Ev : Evd P w K mg base A0) (k_is_from : FnOk P w K mg base (L2.CX P w) 1 A0.f_is_from A0.d_is_from ["value", "low", "high"] (spM ⟨K, mg⟩ 3 m_is_from)) (cdv : Value) (A : Around) (outer : List Env) (s : Shared) (H : Hp) (E : XK) (hr : Room 2 (A.deeper (envOfC "check_poly" (defScope s_check_poly) s.heap.objs.size A0.f_check_poly cdv))) :
    XSs ⟨K, mg⟩ (fun _ : Unit => cxOf (L2.CX P w) P w K mg base ["value", "index", "one"] "check_poly" (defScope s_check_poly) A0.f_check_poly cdv A outer s H E) (fun cls d _ H => E cls d H) [0] (defBody s_check_poly) g_check_poly :=
  (xss_cons (xs_if (xt_w (xw_or (xt_not (xt_val (xe_isi (fun _ => rfl) (fun _ => rfl) (fun _ => Ev.z_isinstance) (fun _ => rfl) (fun _ => Ev.z_tuple) (by decide +kernel) (by decide) rfl (xb_var fun _ => pv 0) (fun _ => rfl) (fun _ => rfl) (fun _ => rfl)) (fun _ _ => rfl))) (xw_or1 (xt_cmp (fun _ => op_gt) prm_i (xb_of (xe_callB (fun _ => call_lenB) prm_lenA (fun _ => rfl) (fun _ => Ev.z_len) (by decide +kernel) (xbs_cons (xb_var fun _ => pv 0) xbs_nil (fun _ => rfl)) (by decide) rfl (fun _ => rfl) (fun _ => rfl))) (xb_of (xe_glob (v := .int 13) (fun _ => rfl) (fun _ => Ev.c_MOST_TERMS) ⟨_, rfl⟩ (fun _ => .int _) rfl)) (nomark _))))) (xss_one (xs_raiseI (fun _ => rfl) (fun _ => rfl) (fun _ => rfl) (fun _ => takes_of rfl rfl rfl rfl) (fun _ => Ev.i_BadPoly) (fun _ => hr.mono (by decide)) Ev.m_BadPoly (fun _ => rfl) rfl (xbs_cons (xb_of xe_none) xbs_nil (fun _ => rfl)) (fun _ => rfl) (fun _ => rfl))) xss_nil) (xss_cons (xs_for (fun _ => passes_of (K := fun e s'' => L2.CX P w outer H s E e s'') (E₁ := fun e' s'' => L2.CX P w outer H s E e' s'') rfl) (fun _ => rfl) (xi_enum (fun _ => rfl) (fun _ => rfl) (fun _ => Ev.z_enumerate) (xb_var fun _ => pv 0) (fun _ => rfl)) (xg_tup (fun _ => rfl) (fun _ => rfl) (xgs_cons (xg_name (by decide) (fun _ => pg_name sc_check_poly.nd rfl (by first | exact .inl rfl | exact .inr rfl) (by first | exact .inl rfl | exact .inr rfl))) (xgs_cons (xg_name (by decide) (fun _ => pg_name sc_check_poly.nd rfl (by first | exact .inl rfl | exact .inr rfl) (by first | exact .inl rfl | exact .inr rfl))) xgs_nil (fun _ => rfl)) (fun _ => rfl)) (fun _ => rfl) (fun _ => rfl)) (xss_one (xs_if (xt_not (xt_val (xe_call (fun _ => k_is_from) (fun _ => hr.mono (by decide)) (fun _ => rfl) (fun _ => Ev.m_is_from) (fun _ => Ev.F_is_from.kp) (fun _ => Ev.b_is_from) (fun _ => takes_of rfl rfl rfl rfl) (xbs_cons (xb_var fun _ => pv 2) (xbs_cons (xb_of (xe_un (fun _ => un_neg) prm_neg (xb_of (xe_glob (v := .int 1000000000) (fun _ => rfl) (fun _ => Ev.c_FAR) ⟨_, rfl⟩ (fun _ => .int _) rfl)))) (xbs_cons (xb_of (xe_glob (v := .int 1000000000) (fun _ => rfl) (fun _ => Ev.c_FAR) ⟨_, rfl⟩ (fun _ => .int _) rfl)) xbs_nil (fun _ => rfl)) (fun _ => rfl)) (fun _ => rfl)) (len_cons (len_cons (len_cons (fun _ _ _ _ => len_nil)))) rfl (fun _ => rfl) (fun _ => rfl)) (fun _ _ => rfl))) (xss_one (xs_raiseI (fun _ => rfl) (fun _ => rfl) (fun _ => rfl) (fun _ => takes_of rfl rfl rfl rfl) (fun _ => Ev.i_BadPoly) (fun _ => hr.mono (by decide)) Ev.m_BadPoly (fun _ => rfl) rfl (xbs_cons (xb_var fun _ => pv 1) xbs_nil (fun _ => rfl)) (fun _ => rfl) (fun _ => rfl))) xss_nil)) (fun _ _ => rfl)) (xss_one (xs_if (xt_w (xw_and (xt_cmp (fun _ => op_neD hr.units) prm_ne (xb_var fun _ => pv 0) (xb_of (xe_tup xbs_nil)) (nomark _)) (xw_and1 (xt_cmp (fun _ => op_eqD hr.units) prm_eq (xb_of (xe_ix (fun _ => ix_seq) prm_ix (xb_var fun _ => pv 0) (xb_of (xe_un (fun _ => un_neg) prm_neg (xb_of xe_int))) (fun _ _ => rfl))) (xb_of xe_int) (nomark _))))) (xss_one (xs_raiseI (fun _ => rfl) (fun _ => rfl) (fun _ => rfl) (fun _ => takes_of rfl rfl rfl rfl) (fun _ => Ev.i_BadPoly) (fun _ => hr.mono (by decide)) Ev.m_BadPoly (fun _ => rfl) rfl (xbs_cons (xb_of (xe_bin (fun _ => op_sub) prm_sub (xb_of (xe_callB (fun _ => call_lenB) prm_lenA (fun _ => rfl) (fun _ => Ev.z_len) (by decide +kernel) (xbs_cons (xb_var fun _ => pv 0) xbs_nil (fun _ => rfl)) (by decide) rfl (fun _ => rfl) (fun _ => rfl))) (xb_of xe_int))) xbs_nil (fun _ => rfl)) (fun _ => rfl) (fun _ => rfl))) xss_nil))))
theorem o_check_poly (Ev : Evd P w K mg base A0) (k_is_from : FnOk P w K mg base (L2.CX P w) 1 A0.f_is_from A0.d_is_from ["value", "low", "high"] (spM ⟨K, mg⟩ 3 m_is_from)) (h : ∀ cs o, m_check_poly cs = some o → ∃ n out, g_check_poly n (startR 3 cs) = some out ∧ fin [true] out = some o) : FnOk P w K mg base (L2.CX P w) 3 A0.f_check_poly A0.d_check_poly ["value"] (spM ⟨K, mg⟩ 1 m_check_poly) :=
  def_ok (fl := [true]) (Pk := [0]) Ev.F_check_poly sc_check_poly rfl (flB_ok rfl) (by decide) (fun cdv A outer s H E hr => w_check_poly Ev k_is_from cdv A outer s H E hr) h
theorem w_trimmed (Ev : Evd P w K mg base A0) (cdv : Value) (A : Around) (outer : List Env) (s : Shared) (H : Hp) (E : XK) (hr : Room 0 (A.deeper (envOfC "trimmed" (defScope s_trimmed) s.heap.objs.size A0.f_trimmed cdv))) :
    XSs ⟨K, mg⟩ (fun _ : Unit => cxOf (L2.CX P w) P w K mg base ["row", "many"] "trimmed" (defScope s_trimmed) A0.f_trimmed cdv A outer s H E) (fun cls d _ H => E cls d H) [0] (defBody s_trimmed) g_trimmed :=
  (xss_cons (xs_set (by decide) (fun t h j => ps_set sc_trimmed.nd rfl (by first | exact .inl rfl | exact .inr rfl) (h j) rfl (by first | exact .inl rfl | exact .inr rfl)) (xe_callB (fun _ => call_lenB) prm_lenA (fun _ => rfl) (fun _ => Ev.z_len) (by decide +kernel) (xbs_cons (xb_var fun _ => pv 0) xbs_nil (fun _ => rfl)) (by decide) rfl (fun _ => rfl) (fun _ => rfl))) (xss_cons (xs_wh (fun _ => passes_of (K := fun e s'' => L2.CX P w outer H s E e s'') (E₁ := fun e' s'' => L2.CX P w outer H s E e' s'') rfl) (xt_w (xw_and (xt_cmp (fun _ => op_gt) prm_i (xb_var fun _ => pv 1) (xb_of xe_int) (nomark _)) (xw_and1 (xt_cmp (fun _ => op_eqD hr.units) prm_eq (xb_of (xe_ix (fun _ => ix_seq) prm_ix (xb_var fun _ => pv 0) (xb_of (xe_bin (fun _ => op_sub) prm_sub (xb_var fun _ => pv 1) (xb_of xe_int))) (fun _ _ => rfl))) (xb_of xe_int) (nomark _))))) (xss_one (xs_aug (by decide) (fun te h j => ps_aug sc_trimmed.nd rfl (by first | exact .inl rfl | exact .inr rfl) (h j) ip_sub (by first | exact .inl rfl | exact .inr rfl)) (xb_of xe_int) snd_ipI))) (xss_one (xs_ret (xe_callTy (fun _ => call_tuple_of) prm_tuple (fun _ => rfl) (fun _ => Ev.z_tuple) (by decide +kernel) (xbs_cons (xb_of (xe_slU (fun _ => rfl) (xb_var fun _ => pv 0) (xb_var fun _ => pv 1))) xbs_nil (fun _ => rfl)) (by decide) rfl (fun _ => rfl) (fun _ => rfl))))))
theorem o_trimmed (Ev : Evd P w K mg base A0) (h : ∀ cs o, m_trimmed cs = some o → ∃ n out, g_trimmed n (startR 2 cs) = some out ∧ fin [true] out = some o) : FnOk P w K mg base (L2.CX P w) 1 A0.f_trimmed A0.d_trimmed ["row"] (spM ⟨K, mg⟩ 1 m_trimmed) :=
  def_ok (fl := [true]) (Pk := [0]) Ev.F_trimmed sc_trimmed rfl (flB_ok rfl) (by decide) (fun cdv A outer s H E hr => w_trimmed Ev cdv A outer s H E hr) h
theorem w_plus_of (Ev : Evd P w K mg base A0) (k_trimmed : FnOk P w K mg base (L2.CX P w) 1 A0.f_trimmed A0.d_trimmed ["row"] (spM ⟨K, mg⟩ 1 m_trimmed)) (cdv : Value) (A : Around) (outer : List Env) (s : Shared) (H : Hp) (E : XK) (hr : Room 1 (A.deeper (envOfC "plus_of" (defScope s_plus_of) s.heap.objs.size A0.f_plus_of cdv))) :
    XSs ⟨K, mg⟩ (fun _ : Unit => cxOf (L2.CX P w) P w K mg base ["one", "other", "size", "first", "second", "a", "b"] "plus_of" (defScope s_plus_of) A0.f_plus_of cdv A outer s H E) (fun cls d _ H => E cls d H) [0, 1] (defBody s_plus_of) g_plus_of :=
  (xss_cons (xs_set (by decide) (fun t h j => ps_set sc_plus_of.nd rfl (by first | exact .inl rfl | exact .inr rfl) (h j) rfl (by first | exact .inl rfl | exact .inr rfl)) (xe_callB (fun _ => call_max2 rfl) prm_max2 (fun _ => rfl) (fun _ => Ev.z_max) (by decide +kernel) (xbs_cons (xb_of (xe_callB (fun _ => call_lenB) prm_lenA (fun _ => rfl) (fun _ => Ev.z_len) (by decide +kernel) (xbs_cons (xb_var fun _ => pv 0) xbs_nil (fun _ => rfl)) (by decide) rfl (fun _ => rfl) (fun _ => rfl))) (xbs_cons (xb_of (xe_callB (fun _ => call_lenB) prm_lenA (fun _ => rfl) (fun _ => Ev.z_len) (by decide +kernel) (xbs_cons (xb_var fun _ => pv 1) xbs_nil (fun _ => rfl)) (by decide) rfl (fun _ => rfl) (fun _ => rfl))) xbs_nil (fun _ => rfl)) (fun _ => rfl)) (by decide) rfl (fun _ => rfl) (fun _ => rfl))) (xss_cons (xs_parA (by decide) (by decide) (fun _ => rfl) (by first | exact .inl (fun t u h1 h2 k => ps_par rfl sc_plus_of.nd rfl rfl (by decide) rfl rfl (pa_cons (h1 k) (pa_cons (h2 k) pa_nil)) rfl) | exact .inr (fun t u h1 h2 k => ps_asg (pe_tup (pa_cons (h1 k) (pa_cons (h2 k) pa_nil))) (pg_tup rfl (pgs_cons (pg_name sc_plus_of.nd rfl (by first | exact .inl rfl | exact .inr rfl) (by first | exact .inl rfl | exact .inr rfl)) (pgs_cons (pg_name sc_plus_of.nd rfl (by first | exact .inl rfl | exact .inr rfl) (by first | exact .inl rfl | exact .inr rfl)) pgs_nil))))) (xe_lstD (xds_star (fun _ => rfl) (xb_var fun _ => pv 0) (xds_star (fun _ => rfl) (xb_of (xe_bin (fun _ => op_mulA) prm_mul (xb_of (xe_lst (xbs_cons (xb_of xe_int) xbs_nil (fun _ => rfl)))) (xb_of (xe_bin (fun _ => op_sub) prm_sub (xb_var fun _ => pv 2) (xb_of (xe_callB (fun _ => call_lenB) prm_lenA (fun _ => rfl) (fun _ => Ev.z_len) (by decide +kernel) (xbs_cons (xb_var fun _ => pv 0) xbs_nil (fun _ => rfl)) (by decide) rfl (fun _ => rfl) (fun _ => rfl))))))) xds_nil (fun t u h1 h2 i => StX.pa_star (h1 i) (h2 i) rfl)) (fun t u h1 h2 i => StX.pa_star (h1 i) (h2 i) rfl))) (xe_lstD (xds_star (fun _ => rfl) (xb_var fun _ => pv 1) (xds_star (fun _ => rfl) (xb_of (xe_bin (fun _ => op_mulA) prm_mul (xb_of (xe_lst (xbs_cons (xb_of xe_int) xbs_nil (fun _ => rfl)))) (xb_of (xe_bin (fun _ => op_sub) prm_sub (xb_var fun _ => pv 2) (xb_of (xe_callB (fun _ => call_lenB) prm_lenA (fun _ => rfl) (fun _ => Ev.z_len) (by decide +kernel) (xbs_cons (xb_var fun _ => pv 1) xbs_nil (fun _ => rfl)) (by decide) rfl (fun _ => rfl) (fun _ => rfl))))))) xds_nil (fun t u h1 h2 i => StX.pa_star (h1 i) (h2 i) rfl)) (fun t u h1 h2 i => StX.pa_star (h1 i) (h2 i) rfl)))) (xss_one (xs_ret (xe_call (fun _ => k_trimmed) (fun _ => hr.mono (by decide)) (fun _ => rfl) (fun _ => Ev.m_trimmed) (fun _ => Ev.F_trimmed.kp) (fun _ => Ev.b_trimmed) (fun _ => takes_of rfl rfl rfl rfl) (xbs_cons (xb_of (xe_lc0 (own := [("a", 5), ("b", 6)]) (N := 7) (fun _ => rfl) (fun _ => sc_plus_of.nd) (xi_zip (fun _ => rfl) (fun _ => rfl) (fun _ => Ev.z_zip) (xb_var fun _ => pv 3) (xb_var fun _ => pv 4) (fun _ => rfl) (fun _ => rfl) (fun _ => rfl)) (fun _ => blkB_ok rfl) (xg_tup (fun _ => rfl) (fun _ => rfl) (xgs_cons (xg_name (by decide) (fun _ => pg_name sc_plus_of.nd rfl (by first | exact .inl rfl | exact .inr rfl) (by first | exact .inl rfl | exact .inr rfl))) (xgs_cons (xg_name (by decide) (fun _ => pg_name sc_plus_of.nd rfl (by first | exact .inl rfl | exact .inr rfl) (by first | exact .inl rfl | exact .inr rfl))) xgs_nil (fun _ => rfl)) (fun _ => rfl)) (fun _ => rfl) (fun _ => rfl)) (xb_of (xe_bin (fun _ => op_addA) prm_add (xb_var fun _ => pv 5) (xb_var fun _ => pv 6))) (fun _ _ => rfl))) xbs_nil (fun _ => rfl)) (len_cons (fun _ _ _ _ => len_nil)) rfl (fun _ => rfl) (fun _ => rfl))))))
theorem o_plus_of (Ev : Evd P w K mg base A0) (k_trimmed : FnOk P w K mg base (L2.CX P w) 1 A0.f_trimmed A0.d_trimmed ["row"] (spM ⟨K, mg⟩ 1 m_trimmed)) (h : ∀ cs o, m_plus_of cs = some o → ∃ n out, g_plus_of n (startR 7 cs) = some out ∧ fin [true, true] out = some o) : FnOk P w K mg base (L2.CX P w) 2 A0.f_plus_of A0.d_plus_of ["one", "other"] (spM ⟨K, mg⟩ 2 m_plus_of) :=
  def_ok (fl := [true, true]) (Pk := [0, 1]) Ev.F_plus_of sc_plus_of rfl (flB_ok rfl) (by decide) (fun cdv A outer s H E hr => w_plus_of Ev k_trimmed cdv A outer s H E hr) h
theorem w_scaled (Ev : Evd P w K mg base A0) (k_trimmed : FnOk P w K mg base (L2.CX P w) 1 A0.f_trimmed A0.d_trimmed ["row"] (spM ⟨K, mg⟩ 1 m_trimmed)) (cdv : Value) (A : Around) (outer : List Env) (s : Shared) (H : Hp) (E : XK) (hr : Room 1 (A.deeper (envOfC "scaled" (defScope s_scaled) s.heap.objs.size A0.f_scaled cdv))) :
    XSs ⟨K, mg⟩ (fun _ : Unit => cxOf (L2.CX P w) P w K mg base ["one", "number", "a"] "scaled" (defScope s_scaled) A0.f_scaled cdv A outer s H E) (fun cls d _ H => E cls d H) [0, 1] (defBody s_scaled) g_scaled :=
  (xss_one (xs_ret (xe_call (fun _ => k_trimmed) (fun _ => hr.mono (by decide)) (fun _ => rfl) (fun _ => Ev.m_trimmed) (fun _ => Ev.F_trimmed.kp) (fun _ => Ev.b_trimmed) (fun _ => takes_of rfl rfl rfl rfl) (xbs_cons (xb_of (xe_lc0 (own := [("a", 2)]) (N := 3) (fun _ => rfl) (fun _ => sc_scaled.nd) (xi_seq (fun _ => rfl) (xb_var fun _ => pv 0)) (fun _ => blkB_ok rfl) (xg_name (by decide) (fun _ => pg_name sc_scaled.nd rfl (by first | exact .inl rfl | exact .inr rfl) (by first | exact .inl rfl | exact .inr rfl))) (xb_of (xe_bin (fun _ => op_mulA) prm_mul (xb_var fun _ => pv 1) (xb_var fun _ => pv 2))) (fun _ _ => rfl))) xbs_nil (fun _ => rfl)) (len_cons (fun _ _ _ _ => len_nil)) rfl (fun _ => rfl) (fun _ => rfl))))
theorem o_scaled (Ev : Evd P w K mg base A0) (k_trimmed : FnOk P w K mg base (L2.CX P w) 1 A0.f_trimmed A0.d_trimmed ["row"] (spM ⟨K, mg⟩ 1 m_trimmed)) (h : ∀ cs o, m_scaled cs = some o → ∃ n out, g_scaled n (startR 3 cs) = some out ∧ fin [true, true] out = some o) : FnOk P w K mg base (L2.CX P w) 2 A0.f_scaled A0.d_scaled ["one", "number"] (spM ⟨K, mg⟩ 2 m_scaled) :=
  def_ok (fl := [true, true]) (Pk := [0, 1]) Ev.F_scaled sc_scaled rfl (flB_ok rfl) (by decide) (fun cdv A outer s H E hr => w_scaled Ev k_trimmed cdv A outer s H E hr) h
theorem w_less_of (Ev : Evd P w K mg base A0) (k_plus_of : FnOk P w K mg base (L2.CX P w) 2 A0.f_plus_of A0.d_plus_of ["one", "other"] (spM ⟨K, mg⟩ 2 m_plus_of)) (k_scaled : FnOk P w K mg base (L2.CX P w) 2 A0.f_scaled A0.d_scaled ["one", "number"] (spM ⟨K, mg⟩ 2 m_scaled)) (cdv : Value) (A : Around) (outer : List Env) (s : Shared) (H : Hp) (E : XK) (hr : Room 2 (A.deeper (envOfC "less_of" (defScope s_less_of) s.heap.objs.size A0.f_less_of cdv))) :
    XSs ⟨K, mg⟩ (fun _ : Unit => cxOf (L2.CX P w) P w K mg base ["one", "other"] "less_of" (defScope s_less_of) A0.f_less_of cdv A outer s H E) (fun cls d _ H => E cls d H) [0, 1] (defBody s_less_of) g_less_of :=
  (xss_one (xs_ret (xe_call (fun _ => k_plus_of) (fun _ => hr.mono (by decide)) (fun _ => rfl) (fun _ => Ev.m_plus_of) (fun _ => Ev.F_plus_of.kp) (fun _ => Ev.b_plus_of) (fun _ => takes_of rfl rfl rfl rfl) (xbs_cons (xb_var fun _ => pv 0) (xbs_cons (xb_of (xe_call (fun _ => k_scaled) (fun _ => hr.mono (by decide)) (fun _ => rfl) (fun _ => Ev.m_scaled) (fun _ => Ev.F_scaled.kp) (fun _ => Ev.b_scaled) (fun _ => takes_of rfl rfl rfl rfl) (xbs_cons (xb_var fun _ => pv 1) (xbs_cons (xb_of (xe_un (fun _ => un_neg) prm_neg (xb_of xe_int))) xbs_nil (fun _ => rfl)) (fun _ => rfl)) (len_cons (len_cons (fun _ _ _ _ => len_nil))) rfl (fun _ => rfl) (fun _ => rfl))) xbs_nil (fun _ => rfl)) (fun _ => rfl)) (len_cons (len_cons (fun _ _ _ _ => len_nil))) rfl (fun _ => rfl) (fun _ => rfl))))
theorem o_less_of (Ev : Evd P w K mg base A0) (k_plus_of : FnOk P w K mg base (L2.CX P w) 2 A0.f_plus_of A0.d_plus_of ["one", "other"] (spM ⟨K, mg⟩ 2 m_plus_of)) (k_scaled : FnOk P w K mg base (L2.CX P w) 2 A0.f_scaled A0.d_scaled ["one", "number"] (spM ⟨K, mg⟩ 2 m_scaled)) (h : ∀ cs o, m_less_of cs = some o → ∃ n out, g_less_of n (startR 2 cs) = some out ∧ fin [true, true] out = some o) : FnOk P w K mg base (L2.CX P w) 3 A0.f_less_of A0.d_less_of ["one", "other"] (spM ⟨K, mg⟩ 2 m_less_of) :=
  def_ok (fl := [true, true]) (Pk := [0, 1]) Ev.F_less_of sc_less_of rfl (flB_ok rfl) (by decide) (fun cdv A outer s H E hr => w_less_of Ev k_plus_of k_scaled cdv A outer s H E hr) h
theorem w_value_of (Ev : Evd P w K mg base A0) (cdv : Value) (A : Around) (outer : List Env) (s : Shared) (H : Hp) (E : XK) (hr : Room 0 (A.deeper (envOfC "value_of" (defScope s_value_of) s.heap.objs.size A0.f_value_of cdv))) :
    XSs ⟨K, mg⟩ (fun _ : Unit => cxOf (L2.CX P w) P w K mg base ["one", "number", "found", "a"] "value_of" (defScope s_value_of) A0.f_value_of cdv A outer s H E) (fun cls d _ H => E cls d H) [0, 1] (defBody s_value_of) g_value_of :=
  (xss_cons (xs_set (by decide) (fun t h j => ps_set sc_value_of.nd rfl (by first | exact .inl rfl | exact .inr rfl) (h j) rfl (by first | exact .inl rfl | exact .inr rfl)) xe_int) (xss_cons (xs_for (fun _ => passes_of (K := fun e s'' => L2.CX P w outer H s E e s'') (E₁ := fun e' s'' => L2.CX P w outer H s E e' s'') rfl) (fun _ => rfl) (xi_seq (fun _ => rfl) (xb_of (xe_revT (fun _ => rfl) (xb_var fun _ => pv 0)))) (xg_name (by decide) (fun _ => pg_name sc_value_of.nd rfl (by first | exact .inl rfl | exact .inr rfl) (by first | exact .inl rfl | exact .inr rfl))) (xss_one (xs_set (by decide) (fun t h j => ps_set sc_value_of.nd rfl (by first | exact .inl rfl | exact .inr rfl) (h j) rfl (by first | exact .inl rfl | exact .inr rfl)) (xe_bin (fun _ => op_addA) prm_add (xb_of (xe_bin (fun _ => op_mulA) prm_mul (xb_var fun _ => pv 2) (xb_var fun _ => pv 1))) (xb_var fun _ => pv 3)))) (fun _ _ => rfl)) (xss_one (xs_ret (xe_mv fun _ => pv 2)))))
theorem o_value_of (Ev : Evd P w K mg base A0) (h : ∀ cs o, m_value_of cs = some o → ∃ n out, g_value_of n (startR 4 cs) = some out ∧ fin [true, true] out = some o) : FnOk P w K mg base (L2.CX P w) 1 A0.f_value_of A0.d_value_of ["one", "number"] (spM ⟨K, mg⟩ 2 m_value_of) :=
  def_ok (fl := [true, true]) (Pk := [0, 1]) Ev.F_value_of sc_value_of rfl (flB_ok rfl) (by decide) (fun cdv A outer s H E hr => w_value_of Ev cdv A outer s H E hr) h
theorem w_quotient (Ev : Evd P w K mg base A0) (k_less_of : FnOk P w K mg base (L2.CX P w) 3 A0.f_less_of A0.d_less_of ["one", "other"] (spM ⟨K, mg⟩ 2 m_less_of)) (k_scaled : FnOk P w K mg base (L2.CX P w) 2 A0.f_scaled A0.d_scaled ["one", "number"] (spM ⟨K, mg⟩ 2 m_scaled)) (cdv : Value) (A : Around) (outer : List Env) (s : Shared) (H : Hp) (E : XK) (hr : Room 3 (A.deeper (envOfC "quotient" (defScope s_quotient) s.heap.objs.size A0.f_quotient cdv))) :
    XSs ⟨K, mg⟩ (fun _ : Unit => cxOf (L2.CX P w) P w K mg base ["one", "other", "found", "at"] "quotient" (defScope s_quotient) A0.f_quotient cdv A outer s H E) (fun cls d _ H => E cls d H) [1] (defBody s_quotient) g_quotient :=
  (xss_cons (xs_set (by decide) (fun t h j => ps_set sc_quotient.nd rfl (by first | exact .inl rfl | exact .inr rfl) (h j) rfl (by first | exact .inl rfl | exact .inr rfl)) (xe_bin (fun _ => op_mulA) prm_mul (xb_of (xe_lst (xbs_cons (xb_of xe_int) xbs_nil (fun _ => rfl)))) (xb_of (xe_callB (fun _ => call_max2 rfl) prm_max2 (fun _ => rfl) (fun _ => Ev.z_max) (by decide +kernel) (xbs_cons (xb_of xe_int) (xbs_cons (xb_of (xe_bin (fun _ => op_addA) prm_add (xb_of (xe_bin (fun _ => op_sub) prm_sub (xb_of (xe_callB (fun _ => call_lenB) prm_lenA (fun _ => rfl) (fun _ => Ev.z_len) (by decide +kernel) (xbs_cons (xb_var fun _ => pv 0) xbs_nil (fun _ => rfl)) (by decide) rfl (fun _ => rfl) (fun _ => rfl))) (xb_of (xe_callB (fun _ => call_lenB) prm_lenA (fun _ => rfl) (fun _ => Ev.z_len) (by decide +kernel) (xbs_cons (xb_var fun _ => pv 1) xbs_nil (fun _ => rfl)) (by decide) rfl (fun _ => rfl) (fun _ => rfl))))) (xb_of xe_int))) xbs_nil (fun _ => rfl)) (fun _ => rfl)) (by decide) rfl (fun _ => rfl) (fun _ => rfl))))) (xss_cons (xs_wh (fun _ => passes_of (K := fun e s'' => L2.CX P w outer H s E e s'') (E₁ := fun e' s'' => L2.CX P w outer H s E e' s'') rfl) (xt_cmp (fun _ => op_neD hr.units) prm_ne (xb_var fun _ => pv 0) (xb_of (xe_tup xbs_nil)) (nomark _)) (xss_cons (xs_set (by decide) (fun t h j => ps_set sc_quotient.nd rfl (by first | exact .inl rfl | exact .inr rfl) (h j) rfl (by first | exact .inl rfl | exact .inr rfl)) (xe_bin (fun _ => op_sub) prm_sub (xb_of (xe_callB (fun _ => call_lenB) prm_lenA (fun _ => rfl) (fun _ => Ev.z_len) (by decide +kernel) (xbs_cons (xb_var fun _ => pv 0) xbs_nil (fun _ => rfl)) (by decide) rfl (fun _ => rfl) (fun _ => rfl))) (xb_of (xe_callB (fun _ => call_lenB) prm_lenA (fun _ => rfl) (fun _ => Ev.z_len) (by decide +kernel) (xbs_cons (xb_var fun _ => pv 1) xbs_nil (fun _ => rfl)) (by decide) rfl (fun _ => rfl) (fun _ => rfl))))) (xss_cons (xs_setIx (fun _ => pv 2) (xb_var fun _ => pv 3) (xb_of (xe_bin (fun _ => op_fdivB) prm_fdiv (xb_of (xe_ix (fun _ => ix_seq) prm_ix (xb_var fun _ => pv 0) (xb_of (xe_un (fun _ => un_neg) prm_neg (xb_of xe_int))) (fun _ _ => rfl))) (xb_of (xe_ix (fun _ => ix_seq) prm_ix (xb_var fun _ => pv 1) (xb_of (xe_un (fun _ => un_neg) prm_neg (xb_of xe_int))) (fun _ _ => rfl))))) (fun _ => rfl) (fun _ => rfl) (fun _ => rfl) (fun _ _ => rfl)) (xss_one (xs_set (by decide) (fun t h j => ps_set sc_quotient.nd rfl (by first | exact .inl rfl | exact .inr rfl) (h j) rfl (by first | exact .inl rfl | exact .inr rfl)) (xe_call (fun _ => k_less_of) (fun _ => hr.mono (by decide)) (fun _ => rfl) (fun _ => Ev.m_less_of) (fun _ => Ev.F_less_of.kp) (fun _ => Ev.b_less_of) (fun _ => takes_of rfl rfl rfl rfl) (xbs_cons (xb_var fun _ => pv 0) (xbs_cons (xb_of (xe_call (fun _ => k_scaled) (fun _ => hr.mono (by decide)) (fun _ => rfl) (fun _ => Ev.m_scaled) (fun _ => Ev.F_scaled.kp) (fun _ => Ev.b_scaled) (fun _ => takes_of rfl rfl rfl rfl) (xbs_cons (xb_of (xe_tupD (xds_star (fun _ => rfl) (xb_of (xe_bin (fun _ => op_mulA) prm_mul (xb_of (xe_tup (xbs_cons (xb_of xe_int) xbs_nil (fun _ => rfl)))) (xb_var fun _ => pv 3))) (xds_star (fun _ => rfl) (xb_var fun _ => pv 1) xds_nil (fun t u h1 h2 i => StX.pa_star (h1 i) (h2 i) rfl)) (fun t u h1 h2 i => StX.pa_star (h1 i) (h2 i) rfl)))) (xbs_cons (xb_of (xe_ix (fun _ => ix_seq) prm_ix (xb_var fun _ => pv 2) (xb_var fun _ => pv 3) (fun _ _ => rfl))) xbs_nil (fun _ => rfl)) (fun _ => rfl)) (len_cons (len_cons (fun _ _ _ _ => len_nil))) rfl (fun _ => rfl) (fun _ => rfl))) xbs_nil (fun _ => rfl)) (fun _ => rfl)) (len_cons (len_cons (fun _ _ _ _ => len_nil))) rfl (fun _ => rfl) (fun _ => rfl))))))) (xss_one (xs_ret (xe_callTy (fun _ => call_tuple_of) prm_tuple (fun _ => rfl) (fun _ => Ev.z_tuple) (by decide +kernel) (xbs_cons (xb_var fun _ => pv 2) xbs_nil (fun _ => rfl)) (by decide) rfl (fun _ => rfl) (fun _ => rfl))))))
theorem o_quotient (Ev : Evd P w K mg base A0) (k_less_of : FnOk P w K mg base (L2.CX P w) 3 A0.f_less_of A0.d_less_of ["one", "other"] (spM ⟨K, mg⟩ 2 m_less_of)) (k_scaled : FnOk P w K mg base (L2.CX P w) 2 A0.f_scaled A0.d_scaled ["one", "number"] (spM ⟨K, mg⟩ 2 m_scaled)) (h : ∀ cs o, m_quotient cs = some o → ∃ n out, g_quotient n (startR 4 cs) = some out ∧ fin [false, true] out = some o) : FnOk P w K mg base (L2.CX P w) 4 A0.f_quotient A0.d_quotient ["one", "other"] (spM ⟨K, mg⟩ 2 m_quotient) :=
  def_ok (fl := [false, true]) (Pk := [1]) Ev.F_quotient sc_quotient rfl (flB_ok rfl) (by decide) (fun cdv A outer s H E hr => w_quotient Ev k_less_of k_scaled cdv A outer s H E hr) h
theorem w_check_zero (Ev : Evd P w K mg base A0) (cdv : Value) (A : Around) (outer : List Env) (s : Shared) (H : Hp) (E : XK) (hr : Room 2 (A.deeper (envOfC "check_zero" (defScope s_check_zero) s.heap.objs.size A0.f_check_zero cdv))) :
    XSs ⟨K, mg⟩ (fun _ : Unit => cxOf (L2.CX P w) P w K mg base ["one"] "check_zero" (defScope s_check_zero) A0.f_check_zero cdv A outer s H E) (fun cls d _ H => E cls d H) [0] (defBody s_check_zero) g_check_zero :=
  (xss_one (xs_if (xt_cmp (fun _ => op_eqD hr.units) prm_eq (xb_var fun _ => pv 0) (xb_of (xe_tup xbs_nil)) (nomark _)) (xss_one (xs_raise0 (fun _ => rfl) (fun _ => rfl) (fun _ => rfl) (fun _ => takes_of rfl rfl rfl rfl) Ev.n_Zero Ev.m_Zero (fun _ => rfl) rfl)) xss_nil))
theorem o_check_zero (Ev : Evd P w K mg base A0) (h : ∀ cs o, m_check_zero cs = some o → ∃ n out, g_check_zero n (startR 1 cs) = some out ∧ fin [true] out = some o) : FnOk P w K mg base (L2.CX P w) 3 A0.f_check_zero A0.d_check_zero ["one"] (spM ⟨K, mg⟩ 1 m_check_zero) :=
  def_ok (fl := [true]) (Pk := [0]) Ev.F_check_zero sc_check_zero rfl (flB_ok rfl) (by decide) (fun cdv A outer s H E hr => w_check_zero Ev cdv A outer s H E hr) h
theorem w_candidates (Ev : Evd P w K mg base A0) (cdv : Value) (A : Around) (outer : List Env) (s : Shared) (H : Hp) (E : XK) (hr : Room 0 (A.deeper (envOfC "candidates" (defScope s_candidates) s.heap.objs.size A0.f_candidates cdv))) :
    XSs ⟨K, mg⟩ (fun _ : Unit => cxOf (L2.CX P w) P w K mg base ["one", "first", "a", "some", "number", "root"] "candidates" (defScope s_candidates) A0.f_candidates cdv A outer s H E) (fun cls d _ H => E cls d H) [0] (defBody s_candidates) g_candidates :=
  (xss_cons (xs_set (by decide) (fun t h j => ps_set sc_candidates.nd rfl (by first | exact .inl rfl | exact .inr rfl) (h j) rfl (by first | exact .inl rfl | exact .inr rfl)) (xe_ix (fun _ => ix_seq) prm_ix (xb_of (xe_lc1 (own := [("a", 2)]) (N := 6) (fun _ => rfl) (fun _ => sc_candidates.nd) (xi_seq (fun _ => rfl) (xb_var fun _ => pv 0)) (fun _ => blkB_ok rfl) (xg_name (by decide) (fun _ => pg_name sc_candidates.nd rfl (by first | exact .inl rfl | exact .inr rfl) (by first | exact .inl rfl | exact .inr rfl))) (xt_cmp (fun _ => op_neD hr.units) prm_ne (xb_var fun _ => pv 2) (xb_of xe_int) (nomark _)) (xb_of (xe_callB (fun _ => call_abs) prm_abs (fun _ => rfl) (fun _ => Ev.z_abs) (by decide +kernel) (xbs_cons (xb_var fun _ => pv 2) xbs_nil (fun _ => rfl)) (by decide) rfl (fun _ => rfl) (fun _ => rfl))) (fun _ _ => rfl))) (xb_of xe_int) (fun _ _ => rfl))) (xss_cons (xs_set (by decide) (fun t h j => ps_set sc_candidates.nd rfl (by first | exact .inl rfl | exact .inr rfl) (h j) rfl (by first | exact .inl rfl | exact .inr rfl)) (xe_dct1 (xb_of xe_int) (xb_of xe_bool))) (xss_cons (xs_set (by decide) (fun t h j => ps_set sc_candidates.nd rfl (by first | exact .inl rfl | exact .inr rfl) (h j) rfl (by first | exact .inl rfl | exact .inr rfl)) xe_int) (xss_cons (xs_wh (fun _ => passes_of (K := fun e s'' => L2.CX P w outer H s E e s'') (E₁ := fun e' s'' => L2.CX P w outer H s E e' s'') rfl) (xt_cmp (fun _ => op_le) prm_i (xb_of (xe_bin (fun _ => op_mulA) prm_mul (xb_var fun _ => pv 4) (xb_var fun _ => pv 4))) (xb_var fun _ => pv 1) (nomark _)) (xss_cons (xs_if (xt_cmp (fun _ => op_eqD hr.units) prm_eq (xb_of (xe_bin (fun _ => op_modN) prm_mod (xb_var fun _ => pv 1) (xb_var fun _ => pv 4))) (xb_of xe_int) (nomark _)) (xss_one (xs_for (fun _ => passes_of (K := fun e s'' => L2.CX P w outer H s E e s'') (E₁ := fun e' s'' => L2.CX P w outer H s E e' s'') rfl) (fun _ => rfl) (xi_seq (fun _ => rfl) (xb_of (xe_tup (xbs_cons (xb_var fun _ => pv 4) (xbs_cons (xb_of (xe_bin (fun _ => op_fdivB) prm_fdiv (xb_var fun _ => pv 1) (xb_var fun _ => pv 4))) xbs_nil (fun _ => rfl)) (fun _ => rfl))))) (xg_name (by decide) (fun _ => pg_name sc_candidates.nd rfl (by first | exact .inl rfl | exact .inr rfl) (by first | exact .inl rfl | exact .inr rfl))) (xss_cons (xs_setIxD (fun _ => u1 hr) (fun _ => pv 3) (xb_var fun _ => pv 5) (xb_of xe_bool) (fun _ => rfl) (fun _ => rfl) (fun _ => rfl) (fun _ _ => rfl)) (xss_one (xs_setIxD (fun _ => u1 hr) (fun _ => pv 3) (xb_of (xe_un (fun _ => un_neg) prm_neg (xb_var fun _ => pv 5))) (xb_of xe_bool) (fun _ => rfl) (fun _ => rfl) (fun _ => rfl) (fun _ _ => rfl)))) (fun _ _ => rfl))) xss_nil) (xss_one (xs_aug (by decide) (fun te h j => ps_aug sc_candidates.nd rfl (by first | exact .inl rfl | exact .inr rfl) (h j) ip_add (by first | exact .inl rfl | exact .inr rfl)) (xb_of xe_int) snd_ipI)))) (xss_one (xs_ret (xe_callB (fun _ => (cr_sortDK rfl)) prm_sortD (fun _ => rfl) (fun _ => Ev.z_sorted) (by decide +kernel) (xbs_cons (xb_var fun _ => pv 3) xbs_nil (fun _ => rfl)) (by decide) rfl (fun _ => rfl) (fun _ => rfl))))))))
theorem o_candidates (Ev : Evd P w K mg base A0) (h : ∀ cs o, m_candidates cs = some o → ∃ n out, g_candidates n (startR 6 cs) = some out ∧ fin [true] out = some o) : FnOk P w K mg base (L2.CX P w) 1 A0.f_candidates A0.d_candidates ["one"] (spM ⟨K, mg⟩ 1 m_candidates) :=
  def_ok (fl := [true]) (Pk := [0]) Ev.F_candidates sc_candidates rfl (flB_ok rfl) (by decide) (fun cdv A outer s H E hr => w_candidates Ev cdv A outer s H E hr) h
theorem w_whole_roots (Ev : Evd P w K mg base A0) (k_check_poly : FnOk P w K mg base (L2.CX P w) 3 A0.f_check_poly A0.d_check_poly ["value"] (spM ⟨K, mg⟩ 1 m_check_poly)) (k_check_zero : FnOk P w K mg base (L2.CX P w) 3 A0.f_check_zero A0.d_check_zero ["one"] (spM ⟨K, mg⟩ 1 m_check_zero)) (k_candidates : FnOk P w K mg base (L2.CX P w) 1 A0.f_candidates A0.d_candidates ["one"] (spM ⟨K, mg⟩ 1 m_candidates)) (k_value_of : FnOk P w K mg base (L2.CX P w) 1 A0.f_value_of A0.d_value_of ["one", "number"] (spM ⟨K, mg⟩ 2 m_value_of)) (k_quotient : FnOk P w K mg base (L2.CX P w) 4 A0.f_quotient A0.d_quotient ["one", "other"] (spM ⟨K, mg⟩ 2 m_quotient)) (cdv : Value) (A : Around) (outer : List Env) (s : Shared) (H : Hp) (E : XK) (hr : Room 4 (A.deeper (envOfC "whole_roots" (defScope s_whole_roots) s.heap.objs.size A0.f_whole_roots cdv))) :
    XSs ⟨K, mg⟩ (fun _ : Unit => cxOf (L2.CX P w) P w K mg base ["one", "found", "rest", "root", "times"] "whole_roots" (defScope s_whole_roots) A0.f_whole_roots cdv A outer s H E) (fun cls d _ H => E cls d H) [0] (defBody s_whole_roots) g_whole_roots :=
  (xss_cons (xs_expr (xb_of (xe_call (fun _ => k_check_poly) (fun _ => hr.mono (by decide)) (fun _ => rfl) (fun _ => Ev.m_check_poly) (fun _ => Ev.F_check_poly.kp) (fun _ => Ev.b_check_poly) (fun _ => takes_of rfl rfl rfl rfl) (xbs_cons (xb_var fun _ => pv 0) xbs_nil (fun _ => rfl)) (len_cons (fun _ _ _ _ => len_nil)) rfl (fun _ => rfl) (fun _ => rfl))) (fun _ => rfl)) (xss_cons (xs_expr (xb_of (xe_call (fun _ => k_check_zero) (fun _ => hr.mono (by decide)) (fun _ => rfl) (fun _ => Ev.m_check_zero) (fun _ => Ev.F_check_zero.kp) (fun _ => Ev.b_check_zero) (fun _ => takes_of rfl rfl rfl rfl) (xbs_cons (xb_var fun _ => pv 0) xbs_nil (fun _ => rfl)) (len_cons (fun _ _ _ _ => len_nil)) rfl (fun _ => rfl) (fun _ => rfl))) (fun _ => rfl)) (xss_cons (xs_parA (by decide) (by decide) (fun _ => rfl) (by first | exact .inl (fun t u h1 h2 k => ps_par rfl sc_whole_roots.nd rfl rfl (by decide) rfl rfl (pa_cons (h1 k) (pa_cons (h2 k) pa_nil)) rfl) | exact .inr (fun t u h1 h2 k => ps_asg (pe_tup (pa_cons (h1 k) (pa_cons (h2 k) pa_nil))) (pg_tup rfl (pgs_cons (pg_name sc_whole_roots.nd rfl (by first | exact .inl rfl | exact .inr rfl) (by first | exact .inl rfl | exact .inr rfl)) (pgs_cons (pg_name sc_whole_roots.nd rfl (by first | exact .inl rfl | exact .inr rfl) (by first | exact .inl rfl | exact .inr rfl)) pgs_nil))))) (xe_lst xbs_nil) (xe_fz (xb_var fun _ => pv 0))) (xss_cons (xs_for (fun _ => passes_of (K := fun e s'' => L2.CX P w outer H s E e s'') (E₁ := fun e' s'' => L2.CX P w outer H s E e' s'') rfl) (fun _ => rfl) (xi_seq (fun _ => rfl) (xb_of (xe_call (fun _ => k_candidates) (fun _ => hr.mono (by decide)) (fun _ => rfl) (fun _ => Ev.m_candidates) (fun _ => Ev.F_candidates.kp) (fun _ => Ev.b_candidates) (fun _ => takes_of rfl rfl rfl rfl) (xbs_cons (xb_var fun _ => pv 0) xbs_nil (fun _ => rfl)) (len_cons (fun _ _ _ _ => len_nil)) rfl (fun _ => rfl) (fun _ => rfl)))) (xg_name (by decide) (fun _ => pg_name sc_whole_roots.nd rfl (by first | exact .inl rfl | exact .inr rfl) (by first | exact .inl rfl | exact .inr rfl))) (xss_cons (xs_set (by decide) (fun t h j => ps_set sc_whole_roots.nd rfl (by first | exact .inl rfl | exact .inr rfl) (h j) rfl (by first | exact .inl rfl | exact .inr rfl)) xe_int) (xss_cons (xs_wh (fun _ => passes_of (K := fun e s'' => L2.CX P w outer H s E e s'') (E₁ := fun e' s'' => L2.CX P w outer H s E e' s'') rfl) (xt_w (xw_and (xt_cmp (fun _ => op_neD hr.units) prm_ne (xb_var fun _ => pv 2) (xb_of (xe_tup xbs_nil)) (nomark _)) (xw_and1 (xt_cmp (fun _ => op_eqD hr.units) prm_eq (xb_of (xe_call (fun _ => k_value_of) (fun _ => hr.mono (by decide)) (fun _ => rfl) (fun _ => Ev.m_value_of) (fun _ => Ev.F_value_of.kp) (fun _ => Ev.b_value_of) (fun _ => takes_of rfl rfl rfl rfl) (xbs_cons (xb_var fun _ => pv 2) (xbs_cons (xb_var fun _ => pv 3) xbs_nil (fun _ => rfl)) (fun _ => rfl)) (len_cons (len_cons (fun _ _ _ _ => len_nil))) rfl (fun _ => rfl) (fun _ => rfl))) (xb_of xe_int) (nomark _))))) (xss_cons (xs_set (by decide) (fun t h j => ps_set sc_whole_roots.nd rfl (by first | exact .inl rfl | exact .inr rfl) (h j) rfl (by first | exact .inl rfl | exact .inr rfl)) (xe_call (fun _ => k_quotient) (fun _ => hr.mono (by decide)) (fun _ => rfl) (fun _ => Ev.m_quotient) (fun _ => Ev.F_quotient.kp) (fun _ => Ev.b_quotient) (fun _ => takes_of rfl rfl rfl rfl) (xbs_cons (xb_var fun _ => pv 2) (xbs_cons (xb_of (xe_tup (xbs_cons (xb_of (xe_un (fun _ => un_neg) prm_neg (xb_var fun _ => pv 3))) (xbs_cons (xb_of xe_int) xbs_nil (fun _ => rfl)) (fun _ => rfl)))) xbs_nil (fun _ => rfl)) (fun _ => rfl)) (len_cons (len_cons (fun _ _ _ _ => len_nil))) rfl (fun _ => rfl) (fun _ => rfl))) (xss_one (xs_aug (by decide) (fun te h j => ps_aug sc_whole_roots.nd rfl (by first | exact .inl rfl | exact .inr rfl) (h j) ip_add (by first | exact .inl rfl | exact .inr rfl)) (xb_of xe_int) snd_ipI)))) (xss_one (xs_if (xt_cmp (fun _ => op_gt) prm_i (xb_var fun _ => pv 4) (xb_of xe_int) (nomark _)) (xss_one (xs_expr (xb_of (xe_mth (fun _ => rfl) (fun t h j => pe_bm PySem.F.plainAttrs_list PySem.F.slot_list_append PySem.F.type_list_append mt_append (pv 1) (h j)) sm_app (xbs_cons (xb_of (xe_tup (xbs_cons (xb_var fun _ => pv 3) (xbs_cons (xb_var fun _ => pv 4) xbs_nil (fun _ => rfl)) (fun _ => rfl)))) xbs_nil (fun _ => rfl)))) (fun _ => rfl))) xss_nil)))) (fun _ _ => rfl)) (xss_one (xs_ret (xe_mv fun _ => pv 1)))))))
theorem o_whole_roots (Ev : Evd P w K mg base A0) (k_check_poly : FnOk P w K mg base (L2.CX P w) 3 A0.f_check_poly A0.d_check_poly ["value"] (spM ⟨K, mg⟩ 1 m_check_poly)) (k_check_zero : FnOk P w K mg base (L2.CX P w) 3 A0.f_check_zero A0.d_check_zero ["one"] (spM ⟨K, mg⟩ 1 m_check_zero)) (k_candidates : FnOk P w K mg base (L2.CX P w) 1 A0.f_candidates A0.d_candidates ["one"] (spM ⟨K, mg⟩ 1 m_candidates)) (k_value_of : FnOk P w K mg base (L2.CX P w) 1 A0.f_value_of A0.d_value_of ["one", "number"] (spM ⟨K, mg⟩ 2 m_value_of)) (k_quotient : FnOk P w K mg base (L2.CX P w) 4 A0.f_quotient A0.d_quotient ["one", "other"] (spM ⟨K, mg⟩ 2 m_quotient)) (h : ∀ cs o, m_whole_roots cs = some o → ∃ n out, g_whole_roots n (startR 5 cs) = some out ∧ fin [true] out = some o) : FnOk P w K mg base (L2.CX P w) 5 A0.f_whole_roots A0.d_whole_roots ["one"] (spM ⟨K, mg⟩ 1 m_whole_roots) :=
  def_ok (fl := [true]) (Pk := [0]) Ev.F_whole_roots sc_whole_roots rfl (flB_ok rfl) (by decide) (fun cdv A outer s H E hr => w_whole_roots Ev k_check_poly k_check_zero k_candidates k_value_of k_quotient cdv A outer s H E hr) h
theorem w__law_draws (Ev : Evd P w K mg base A0) (cdv : Value) (A : Around) (outer : List Env) (s : Shared) (H : Hp) (E : XK) (hr : Room 0 (A.deeper (envOfC "_law_draws" (defScope s__law_draws) s.heap.objs.size A0.f__law_draws cdv))) :
    XSs ⟨K, mg⟩ (fun _ : Unit => cxOf (L2.CX P w) P w K mg base ["_law_script"] "_law_draws" (defScope s__law_draws) A0.f__law_draws cdv A outer s H E) (fun cls d _ H => E cls d H) [0] (defBody s__law_draws) g__law_draws :=
  (xss_one (xs_ret (xe_lst (xbs_cons (xb_of (xe_callTy (fun _ => call_list_of) prm_list (fun _ => rfl) (fun _ => Ev.z_list) (by decide +kernel) (xbs_cons (xb_var fun _ => pv 0) xbs_nil (fun _ => rfl)) (by decide) rfl (fun _ => rfl) (fun _ => rfl))) (xbs_cons (xb_of xe_int) (xbs_cons (xb_of xe_int) (xbs_cons (xb_of xe_int) xbs_nil (fun _ => rfl)) (fun _ => rfl)) (fun _ => rfl)) (fun _ => rfl)))))
theorem o__law_draws (Ev : Evd P w K mg base A0) (h : ∀ cs o, m__law_draws cs = some o → ∃ n out, g__law_draws n (startR 1 cs) = some out ∧ fin [true] out = some o) : FnOk P w K mg base (L2.CX P w) 1 A0.f__law_draws A0.d__law_draws ["_law_script"] (spM ⟨K, mg⟩ 1 m__law_draws) :=
  def_ok (fl := [true]) (Pk := [0]) Ev.F__law_draws sc__law_draws rfl (flB_ok rfl) (by decide) (fun cdv A outer s H E hr => w__law_draws Ev cdv A outer s H E hr) h
theorem w__law_pick (Ev : Evd P w K mg base A0) (cdv : Value) (A : Around) (outer : List Env) (s : Shared) (H : Hp) (E : XK) (hr : Room 0 (A.deeper (envOfC "_law_pick" (defScope s__law_pick) s.heap.objs.size A0.f__law_pick cdv))) :
    XSs ⟨K, mg⟩ (fun _ : Unit => cxOf (L2.CX P w) P w K mg base ["_law_row", "_law_many", "_law_cell", "_law_found"] "_law_pick" (defScope s__law_pick) A0.f__law_pick cdv A outer s H E) (fun cls d _ H => E cls d H) [0, 1] (defBody s__law_pick) g__law_pick :=
  (xss_cons (xs_if (xt_cmp (fun _ => op_eqD hr.units) prm_eq (xb_of (xe_ix (fun _ => ix_seq) prm_ix (xb_var fun _ => pv 0) (xb_of xe_int) (fun _ _ => rfl))) (xb_of xe_int) (nomark _)) (xss_one (xs_if (xt_cmp (fun _ => op_lt) prm_i (xb_of (xe_ix (fun _ => ix_seq) prm_ix (xb_var fun _ => pv 0) (xb_of xe_int) (fun _ _ => rfl))) (xb_of (xe_callB (fun _ => call_lenB) prm_lenA (fun _ => rfl) (fun _ => Ev.z_len) (by decide +kernel) (xbs_cons (xb_of (xe_ix (fun _ => ix_seq) prm_ix (xb_var fun _ => pv 0) (xb_of xe_int) (fun _ _ => rfl))) xbs_nil (fun _ => rfl)) (by decide) rfl (fun _ => rfl) (fun _ => rfl))) (nomark _)) (xss_cons (xs_set (by decide) (fun t h j => ps_set sc__law_pick.nd rfl (by first | exact .inl rfl | exact .inr rfl) (h j) rfl (by first | exact .inl rfl | exact .inr rfl)) (xe_ix (fun _ => ix_seq) prm_ix (xb_of (xe_ix (fun _ => ix_seq) prm_ix (xb_var fun _ => pv 0) (xb_of xe_int) (fun _ _ => rfl))) (xb_of (xe_ix (fun _ => ix_seq) prm_ix (xb_var fun _ => pv 0) (xb_of xe_int) (fun _ _ => rfl))) (fun _ _ => rfl))) (xss_cons (xs_setIx (fun _ => pv 0) (xb_of xe_int) (xb_of (xe_bin (fun _ => op_addA) prm_add (xb_of (xe_ix (fun _ => ix_seq) prm_ix (xb_var fun _ => pv 0) (xb_of xe_int) (fun _ _ => rfl))) (xb_of xe_int))) (fun _ => rfl) (fun _ => rfl) (fun _ => rfl) (fun _ _ => rfl)) (xss_one (xs_if (xt_cmp (fun _ => op_ge) prm_i (xb_var fun _ => pv 2) (xb_of (xe_bin (fun _ => op_pow) prm_pow (xb_of xe_int) (xb_of xe_int))) (nomark _)) (xss_one (xs_setIx (fun _ => pv 0) (xb_of xe_int) (xb_var fun _ => pv 2) (fun _ => rfl) (fun _ => rfl) (fun _ => rfl) (fun _ _ => rfl))) (xss_one (xs_setIx (fun _ => pv 0) (xb_of xe_int) (xb_of (xe_bin (fun _ => op_modN) prm_mod (xb_of (xe_callTy (fun _ => call_int1) prm_int (fun _ => rfl) (fun _ => Ev.z_int) (by decide +kernel) (xbs_cons (xb_of (xe_bin (fun _ => op_addA) prm_add (xb_of (xe_bin (fun _ => op_addA) prm_add (xb_of (xe_bin (fun _ => op_mulA) prm_mul (xb_of (xe_ix (fun _ => ix_seq) prm_ix (xb_var fun _ => pv 0) (xb_of xe_int) (fun _ _ => rfl))) (xb_of xe_int))) (xb_of (xe_bin (fun _ => op_mulA) prm_mul (xb_var fun _ => pv 2) (xb_of xe_int))))) (xb_of xe_int))) xbs_nil (fun _ => rfl)) (by decide) rfl (fun _ => rfl) (fun _ => rfl))) (xb_of xe_int))) (fun _ => rfl) (fun _ => rfl) (fun _ => rfl) (fun _ _ => rfl))))))) (xss_one (xs_setIx (fun _ => pv 0) (xb_of xe_int) (xb_of (xe_bin (fun _ => op_modN) prm_mod (xb_of (xe_callTy (fun _ => call_int1) prm_int (fun _ => rfl) (fun _ => Ev.z_int) (by decide +kernel) (xbs_cons (xb_of (xe_bin (fun _ => op_addA) prm_add (xb_of (xe_bin (fun _ => op_mulA) prm_mul (xb_of (xe_ix (fun _ => ix_seq) prm_ix (xb_var fun _ => pv 0) (xb_of xe_int) (fun _ _ => rfl))) (xb_of xe_int))) (xb_of xe_int))) xbs_nil (fun _ => rfl)) (by decide) rfl (fun _ => rfl) (fun _ => rfl))) (xb_of xe_int))) (fun _ => rfl) (fun _ => rfl) (fun _ => rfl) (fun _ _ => rfl))))) xss_nil) (xss_cons (xs_if (xt_cmp (fun _ => op_gt) prm_i (xb_of (xe_ix (fun _ => ix_seq) prm_ix (xb_var fun _ => pv 0) (xb_of xe_int) (fun _ _ => rfl))) (xb_of xe_int) (nomark _)) (xss_cons (xs_set (by decide) (fun t h j => ps_set sc__law_pick.nd rfl (by first | exact .inl rfl | exact .inr rfl) (h j) rfl (by first | exact .inl rfl | exact .inr rfl)) (xe_bin (fun _ => op_modN) prm_mod (xb_of (xe_callTy (fun _ => call_int1) prm_int (fun _ => rfl) (fun _ => Ev.z_int) (by decide +kernel) (xbs_cons (xb_of (xe_ix (fun _ => ix_seq) prm_ix (xb_var fun _ => pv 0) (xb_of xe_int) (fun _ _ => rfl))) xbs_nil (fun _ => rfl)) (by decide) rfl (fun _ => rfl) (fun _ => rfl))) (xb_var fun _ => pv 1))) (xss_cons (xs_setIx (fun _ => pv 0) (xb_of xe_int) (xb_of (xe_bin (fun _ => op_fdivB) prm_fdiv (xb_of (xe_ix (fun _ => ix_seq) prm_ix (xb_var fun _ => pv 0) (xb_of xe_int) (fun _ _ => rfl))) (xb_var fun _ => pv 1))) (fun _ => rfl) (fun _ => rfl) (fun _ => rfl) (fun _ _ => rfl)) (xss_one (xs_ret (xe_mv fun _ => pv 3))))) xss_nil) (xss_one (xs_ret (xe_bin (fun _ => op_modN) prm_mod (xb_of (xe_bin (fun _ => op_modN) prm_mod (xb_of (xe_callTy (fun _ => call_int1) prm_int (fun _ => rfl) (fun _ => Ev.z_int) (by decide +kernel) (xbs_cons (xb_of (xe_bin (fun _ => op_mulA) prm_mul (xb_of (xe_ix (fun _ => ix_seq) prm_ix (xb_var fun _ => pv 0) (xb_of xe_int) (fun _ _ => rfl))) (xb_of xe_int))) xbs_nil (fun _ => rfl)) (by decide) rfl (fun _ => rfl) (fun _ => rfl))) (xb_of xe_int))) (xb_var fun _ => pv 1))))))
theorem o__law_pick (Ev : Evd P w K mg base A0) (h : ∀ cs o, m__law_pick cs = some o → ∃ n out, g__law_pick n (startR 4 cs) = some out ∧ fin [true, true] out = some o) : FnOk P w K mg base (L2.CX P w) 1 A0.f__law_pick A0.d__law_pick ["_law_row", "_law_many"] (spM ⟨K, mg⟩ 2 m__law_pick) :=
  def_ok (fl := [true, true]) (Pk := [0, 1]) Ev.F__law_pick sc__law_pick rfl (flB_ok rfl) (by decide) (fun cdv A outer s H E hr => w__law_pick Ev cdv A outer s H E hr) h
theorem w__law_end (Ev : Evd P w K mg base A0) (cdv : Value) (A : Around) (outer : List Env) (s : Shared) (H : Hp) (E : XK) (hr : Room 0 (A.deeper (envOfC "_law_end" (defScope s__law_end) s.heap.objs.size A0.f__law_end cdv))) :
    XSs ⟨K, mg⟩ (fun _ : Unit => cxOf (L2.CX P w) P w K mg base ["_law_numbers", "_law_found", "_law_k"] "_law_end" (defScope s__law_end) A0.f__law_end cdv A outer s H E) (fun cls d _ H => E cls d H) [0] (defBody s__law_end) g__law_end :=
  (xss_cons (xs_set (by decide) (fun t h j => ps_set sc__law_end.nd rfl (by first | exact .inl rfl | exact .inr rfl) (h j) rfl (by first | exact .inl rfl | exact .inr rfl)) (xe_callTy (fun _ => call_list_of) prm_list (fun _ => rfl) (fun _ => Ev.z_list) (by decide +kernel) (xbs_cons (xb_var fun _ => pv 0) xbs_nil (fun _ => rfl)) (by decide) rfl (fun _ => rfl) (fun _ => rfl))) (xss_cons (xs_for (fun _ => passes_of (K := fun e s'' => L2.CX P w outer H s E e s'') (E₁ := fun e' s'' => L2.CX P w outer H s E e' s'') rfl) (fun _ => rfl) (xi_rng1 (fun _ => rfl) (fun _ => Ev.z_range) (xb_of (xe_callB (fun _ => call_lenB) prm_lenA (fun _ => rfl) (fun _ => Ev.z_len) (by decide +kernel) (xbs_cons (xb_var fun _ => pv 0) xbs_nil (fun _ => rfl)) (by decide) rfl (fun _ => rfl) (fun _ => rfl))) (fun _ => rfl)) (xg_name (by decide) (fun _ => pg_name sc__law_end.nd rfl (by first | exact .inl rfl | exact .inr rfl) (by first | exact .inl rfl | exact .inr rfl))) (xss_cons (xs_if (xt_cmp (fun _ => op_eqD hr.units) prm_eq (xb_of (xe_ix (fun _ => ix_seq) prm_ix (xb_var fun _ => pv 1) (xb_of (xe_un (fun _ => un_neg) prm_neg (xb_of xe_int))) (fun _ _ => rfl))) (xb_of xe_int) (nomark _)) (xss_one (xs_set (by decide) (fun t h j => ps_set sc__law_end.nd rfl (by first | exact .inl rfl | exact .inr rfl) (h j) rfl (by first | exact .inl rfl | exact .inr rfl)) (xe_slU (fun _ => rfl) (xb_var fun _ => pv 1) (xb_of (xe_un (fun _ => un_neg) prm_neg (xb_of xe_int)))))) xss_nil) (xss_one (xs_if (xt_cmp (fun _ => op_eqD hr.units) prm_eq (xb_var fun _ => pv 1) (xb_of (xe_lst xbs_nil)) (nomark _)) (xss_one (xs_ret (xe_tup xbs_nil))) xss_nil))) (fun _ _ => rfl)) (xss_one (xs_ret (xe_callTy (fun _ => call_tuple_of) prm_tuple (fun _ => rfl) (fun _ => Ev.z_tuple) (by decide +kernel) (xbs_cons (xb_var fun _ => pv 1) xbs_nil (fun _ => rfl)) (by decide) rfl (fun _ => rfl) (fun _ => rfl))))))
theorem o__law_end (Ev : Evd P w K mg base A0) (h : ∀ cs o, m__law_end cs = some o → ∃ n out, g__law_end n (startR 3 cs) = some out ∧ fin [true] out = some o) : FnOk P w K mg base (L2.CX P w) 1 A0.f__law_end A0.d__law_end ["_law_numbers"] (spM ⟨K, mg⟩ 1 m__law_end) :=
  def_ok (fl := [true]) (Pk := [0]) Ev.F__law_end sc__law_end rfl (flB_ok rfl) (by decide) (fun cdv A outer s H E hr => w__law_end Ev cdv A outer s H E hr) h
theorem w__law_mul (Ev : Evd P w K mg base A0) (k__law_end : FnOk P w K mg base (L2.CX P w) 1 A0.f__law_end A0.d__law_end ["_law_numbers"] (spM ⟨K, mg⟩ 1 m__law_end)) (cdv : Value) (A : Around) (outer : List Env) (s : Shared) (H : Hp) (E : XK) (hr : Room 1 (A.deeper (envOfC "_law_mul" (defScope s__law_mul) s.heap.objs.size A0.f__law_mul cdv))) :
    XSs ⟨K, mg⟩ (fun _ : Unit => cxOf (L2.CX P w) P w K mg base ["_law_a", "_law_b", "_law_found", "_law_k", "_law_j"] "_law_mul" (defScope s__law_mul) A0.f__law_mul cdv A outer s H E) (fun cls d _ H => E cls d H) [0, 1] (defBody s__law_mul) g__law_mul :=
  (xss_cons (xs_set (by decide) (fun t h j => ps_set sc__law_mul.nd rfl (by first | exact .inl rfl | exact .inr rfl) (h j) rfl (by first | exact .inl rfl | exact .inr rfl)) (xe_bin (fun _ => op_mulA) prm_mul (xb_of (xe_lst (xbs_cons (xb_of xe_int) xbs_nil (fun _ => rfl)))) (xb_of (xe_bin (fun _ => op_addA) prm_add (xb_of (xe_bin (fun _ => op_addA) prm_add (xb_of (xe_callB (fun _ => call_lenB) prm_lenA (fun _ => rfl) (fun _ => Ev.z_len) (by decide +kernel) (xbs_cons (xb_var fun _ => pv 0) xbs_nil (fun _ => rfl)) (by decide) rfl (fun _ => rfl) (fun _ => rfl))) (xb_of (xe_callB (fun _ => call_lenB) prm_lenA (fun _ => rfl) (fun _ => Ev.z_len) (by decide +kernel) (xbs_cons (xb_var fun _ => pv 1) xbs_nil (fun _ => rfl)) (by decide) rfl (fun _ => rfl) (fun _ => rfl))))) (xb_of xe_int))))) (xss_cons (xs_for (fun _ => passes_of (K := fun e s'' => L2.CX P w outer H s E e s'') (E₁ := fun e' s'' => L2.CX P w outer H s E e' s'') rfl) (fun _ => rfl) (xi_rng1 (fun _ => rfl) (fun _ => Ev.z_range) (xb_of (xe_callB (fun _ => call_lenB) prm_lenA (fun _ => rfl) (fun _ => Ev.z_len) (by decide +kernel) (xbs_cons (xb_var fun _ => pv 0) xbs_nil (fun _ => rfl)) (by decide) rfl (fun _ => rfl) (fun _ => rfl))) (fun _ => rfl)) (xg_name (by decide) (fun _ => pg_name sc__law_mul.nd rfl (by first | exact .inl rfl | exact .inr rfl) (by first | exact .inl rfl | exact .inr rfl))) (xss_one (xs_for (fun _ => passes_of (K := fun e s'' => L2.CX P w outer H s E e s'') (E₁ := fun e' s'' => L2.CX P w outer H s E e' s'') rfl) (fun _ => rfl) (xi_rng1 (fun _ => rfl) (fun _ => Ev.z_range) (xb_of (xe_callB (fun _ => call_lenB) prm_lenA (fun _ => rfl) (fun _ => Ev.z_len) (by decide +kernel) (xbs_cons (xb_var fun _ => pv 1) xbs_nil (fun _ => rfl)) (by decide) rfl (fun _ => rfl) (fun _ => rfl))) (fun _ => rfl)) (xg_name (by decide) (fun _ => pg_name sc__law_mul.nd rfl (by first | exact .inl rfl | exact .inr rfl) (by first | exact .inl rfl | exact .inr rfl))) (xss_one (xs_setIx (fun _ => pv 2) (xb_of (xe_bin (fun _ => op_addA) prm_add (xb_var fun _ => pv 3) (xb_var fun _ => pv 4))) (xb_of (xe_bin (fun _ => op_addA) prm_add (xb_of (xe_ix (fun _ => ix_seq) prm_ix (xb_var fun _ => pv 2) (xb_of (xe_bin (fun _ => op_addA) prm_add (xb_var fun _ => pv 3) (xb_var fun _ => pv 4))) (fun _ _ => rfl))) (xb_of (xe_bin (fun _ => op_mulA) prm_mul (xb_of (xe_ix (fun _ => ix_seq) prm_ix (xb_var fun _ => pv 0) (xb_var fun _ => pv 3) (fun _ _ => rfl))) (xb_of (xe_ix (fun _ => ix_seq) prm_ix (xb_var fun _ => pv 1) (xb_var fun _ => pv 4) (fun _ _ => rfl))))))) (fun _ => rfl) (fun _ => rfl) (fun _ => rfl) (fun _ _ => rfl))) (fun _ _ => rfl))) (fun _ _ => rfl)) (xss_one (xs_ret (xe_call (fun _ => k__law_end) (fun _ => hr.mono (by decide)) (fun _ => rfl) (fun _ => Ev.m__law_end) (fun _ => Ev.F__law_end.kp) (fun _ => Ev.b__law_end) (fun _ => takes_of rfl rfl rfl rfl) (xbs_cons (xb_var fun _ => pv 2) xbs_nil (fun _ => rfl)) (len_cons (fun _ _ _ _ => len_nil)) rfl (fun _ => rfl) (fun _ => rfl))))))
theorem o__law_mul (Ev : Evd P w K mg base A0) (k__law_end : FnOk P w K mg base (L2.CX P w) 1 A0.f__law_end A0.d__law_end ["_law_numbers"] (spM ⟨K, mg⟩ 1 m__law_end)) (h : ∀ cs o, m__law_mul cs = some o → ∃ n out, g__law_mul n (startR 5 cs) = some out ∧ fin [true, true] out = some o) : FnOk P w K mg base (L2.CX P w) 2 A0.f__law_mul A0.d__law_mul ["_law_a", "_law_b"] (spM ⟨K, mg⟩ 2 m__law_mul) :=
  def_ok (fl := [true, true]) (Pk := [0, 1]) Ev.F__law_mul sc__law_mul rfl (flB_ok rfl) (by decide) (fun cdv A outer s H E hr => w__law_mul Ev k__law_end cdv A outer s H E hr) h
theorem w__law_rooted (Ev : Evd P w K mg base A0) (k__law_pick : FnOk P w K mg base (L2.CX P w) 1 A0.f__law_pick A0.d__law_pick ["_law_row", "_law_many"] (spM ⟨K, mg⟩ 2 m__law_pick)) (k__law_mul : FnOk P w K mg base (L2.CX P w) 2 A0.f__law_mul A0.d__law_mul ["_law_a", "_law_b"] (spM ⟨K, mg⟩ 2 m__law_mul)) (cdv : Value) (A : Around) (outer : List Env) (s : Shared) (H : Hp) (E : XK) (hr : Room 2 (A.deeper (envOfC "_law_rooted" (defScope s__law_rooted) s.heap.objs.size A0.f__law_rooted cdv))) :
    XSs ⟨K, mg⟩ (fun _ : Unit => cxOf (L2.CX P w) P w K mg base ["_law_row", "_law_most", "_law_found", "_law_rows", "_law_k", "_law_root"] "_law_rooted" (defScope s__law_rooted) A0.f__law_rooted cdv A outer s H E) (fun cls d _ H => E cls d H) [0, 1] (defBody s__law_rooted) g__law_rooted :=
  (xss_cons (xs_parA (by decide) (by decide) (fun _ => rfl) (by first | exact .inl (fun t u h1 h2 k => ps_par rfl sc__law_rooted.nd rfl rfl (by decide) rfl rfl (pa_cons (h1 k) (pa_cons (h2 k) pa_nil)) rfl) | exact .inr (fun t u h1 h2 k => ps_asg (pe_tup (pa_cons (h1 k) (pa_cons (h2 k) pa_nil))) (pg_tup rfl (pgs_cons (pg_name sc__law_rooted.nd rfl (by first | exact .inl rfl | exact .inr rfl) (by first | exact .inl rfl | exact .inr rfl)) (pgs_cons (pg_name sc__law_rooted.nd rfl (by first | exact .inl rfl | exact .inr rfl) (by first | exact .inl rfl | exact .inr rfl)) pgs_nil))))) (xe_tup (xbs_cons (xb_of xe_int) xbs_nil (fun _ => rfl))) xe_dct0) (xss_cons (xs_for (fun _ => passes_of (K := fun e s'' => L2.CX P w outer H s E e s'') (E₁ := fun e' s'' => L2.CX P w outer H s E e' s'') rfl) (fun _ => rfl) (xi_rng1 (fun _ => rfl) (fun _ => Ev.z_range) (xb_of (xe_call (fun _ => k__law_pick) (fun _ => hr.mono (by decide)) (fun _ => rfl) (fun _ => Ev.m__law_pick) (fun _ => Ev.F__law_pick.kp) (fun _ => Ev.b__law_pick) (fun _ => takes_of rfl rfl rfl rfl) (xbs_cons (xb_var fun _ => pv 0) (xbs_cons (xb_of (xe_bin (fun _ => op_addA) prm_add (xb_var fun _ => pv 1) (xb_of xe_int))) xbs_nil (fun _ => rfl)) (fun _ => rfl)) (len_cons (len_cons (fun _ _ _ _ => len_nil))) rfl (fun _ => rfl) (fun _ => rfl))) (fun _ => rfl)) (xg_name (by decide) (fun _ => pg_name sc__law_rooted.nd rfl (by first | exact .inl rfl | exact .inr rfl) (by first | exact .inl rfl | exact .inr rfl))) (xss_cons (xs_set (by decide) (fun t h j => ps_set sc__law_rooted.nd rfl (by first | exact .inl rfl | exact .inr rfl) (h j) rfl (by first | exact .inl rfl | exact .inr rfl)) (xe_bin (fun _ => op_sub) prm_sub (xb_of (xe_call (fun _ => k__law_pick) (fun _ => hr.mono (by decide)) (fun _ => rfl) (fun _ => Ev.m__law_pick) (fun _ => Ev.F__law_pick.kp) (fun _ => Ev.b__law_pick) (fun _ => takes_of rfl rfl rfl rfl) (xbs_cons (xb_var fun _ => pv 0) (xbs_cons (xb_of xe_int) xbs_nil (fun _ => rfl)) (fun _ => rfl)) (len_cons (len_cons (fun _ _ _ _ => len_nil))) rfl (fun _ => rfl) (fun _ => rfl))) (xb_of xe_int))) (xss_cons (xs_setIxD (fun _ => u1 hr) (fun _ => pv 3) (xb_var fun _ => pv 5) (xb_of (xe_bin (fun _ => op_addA) prm_add (xb_of (xe_dg (fun _ => u1 hr) (fun _ => pv 3) (xb_var fun _ => pv 5) (xb_of xe_int) (fun _ => ⟨rfl, rfl, rfl, rfl⟩))) (xb_of xe_int))) (fun _ => rfl) (fun _ => rfl) (fun _ => rfl) (fun _ _ => rfl)) (xss_one (xs_set (by decide) (fun t h j => ps_set sc__law_rooted.nd rfl (by first | exact .inl rfl | exact .inr rfl) (h j) rfl (by first | exact .inl rfl | exact .inr rfl)) (xe_call (fun _ => k__law_mul) (fun _ => hr.mono (by decide)) (fun _ => rfl) (fun _ => Ev.m__law_mul) (fun _ => Ev.F__law_mul.kp) (fun _ => Ev.b__law_mul) (fun _ => takes_of rfl rfl rfl rfl) (xbs_cons (xb_var fun _ => pv 2) (xbs_cons (xb_of (xe_tup (xbs_cons (xb_of (xe_bin (fun _ => op_sub) prm_sub (xb_of xe_int) (xb_var fun _ => pv 5))) (xbs_cons (xb_of xe_int) xbs_nil (fun _ => rfl)) (fun _ => rfl)))) xbs_nil (fun _ => rfl)) (fun _ => rfl)) (len_cons (len_cons (fun _ _ _ _ => len_nil))) rfl (fun _ => rfl) (fun _ => rfl)))))) (fun _ _ => rfl)) (xss_one (xs_ret (xe_bx (xb_var fun _ => pv 2) (fun _ => pv 3) (fun _ => rfl) (fun _ => rfl))))))
theorem o__law_rooted (Ev : Evd P w K mg base A0) (k__law_pick : FnOk P w K mg base (L2.CX P w) 1 A0.f__law_pick A0.d__law_pick ["_law_row", "_law_many"] (spM ⟨K, mg⟩ 2 m__law_pick)) (k__law_mul : FnOk P w K mg base (L2.CX P w) 2 A0.f__law_mul A0.d__law_mul ["_law_a", "_law_b"] (spM ⟨K, mg⟩ 2 m__law_mul)) (h : ∀ cs o, m__law_rooted cs = some o → ∃ n out, g__law_rooted n (startR 6 cs) = some out ∧ fin [true, true] out = some o) : FnOk P w K mg base (L2.CX P w) 3 A0.f__law_rooted A0.d__law_rooted ["_law_row", "_law_most"] (spM ⟨K, mg⟩ 2 m__law_rooted) :=
  def_ok (fl := [true, true]) (Pk := [0, 1]) Ev.F__law_rooted sc__law_rooted rfl (flB_ok rfl) (by decide) (fun cdv A outer s H E hr => w__law_rooted Ev k__law_pick k__law_mul cdv A outer s H E hr) h
theorem w__law_odd_poly (Ev : Evd P w K mg base A0) (k__law_pick : FnOk P w K mg base (L2.CX P w) 1 A0.f__law_pick A0.d__law_pick ["_law_row", "_law_many"] (spM ⟨K, mg⟩ 2 m__law_pick)) (cdv : Value) (A : Around) (outer : List Env) (s : Shared) (H : Hp) (E : XK) (hr : Room 1 (A.deeper (envOfC "_law_odd_poly" (defScope s__law_odd_poly) s.heap.objs.size A0.f__law_odd_poly cdv))) :
    XSs ⟨K, mg⟩ (fun _ : Unit => cxOf (L2.CX P w) P w K mg base ["_law_row", "_law_odd"] "_law_odd_poly" (defScope s__law_odd_poly) A0.f__law_odd_poly cdv A outer s H E) (fun cls d _ H => E cls d H) [0] (defBody s__law_odd_poly) g__law_odd_poly :=
  (xss_cons (xs_set (by decide) (fun t h j => ps_set sc__law_odd_poly.nd rfl (by first | exact .inl rfl | exact .inr rfl) (h j) rfl (by first | exact .inl rfl | exact .inr rfl)) (xe_lst (xbs_cons (xb_of (xe_tup (xbs_cons (xb_of xe_none) (xbs_cons (xb_of xe_none) xbs_nil (fun _ => rfl)) (fun _ => rfl)))) (xbs_cons (xb_of (xe_tup (xbs_cons (xb_of (xe_lst (xbs_cons (xb_of xe_int) xbs_nil (fun _ => rfl)))) (xbs_cons (xb_of xe_none) xbs_nil (fun _ => rfl)) (fun _ => rfl)))) (xbs_cons (xb_of (xe_tup (xbs_cons (xb_of xe_str) (xbs_cons (xb_of xe_none) xbs_nil (fun _ => rfl)) (fun _ => rfl)))) (xbs_cons (xb_of (xe_tup (xbs_cons (xb_of (xe_bin (fun _ => op_mulA) prm_mul (xb_of (xe_tup (xbs_cons (xb_of xe_int) xbs_nil (fun _ => rfl)))) (xb_of xe_int))) (xbs_cons (xb_of xe_none) xbs_nil (fun _ => rfl)) (fun _ => rfl)))) (xbs_cons (xb_of (xe_tup (xbs_cons (xb_of (xe_tup (xbs_cons (xb_of xe_bool) xbs_nil (fun _ => rfl)))) (xbs_cons (xb_of xe_int) xbs_nil (fun _ => rfl)) (fun _ => rfl)))) (xbs_cons (xb_of (xe_tup (xbs_cons (xb_of (xe_tup (xbs_cons (xb_of xe_int) (xbs_cons (xb_of xe_int) xbs_nil (fun _ => rfl)) (fun _ => rfl)))) (xbs_cons (xb_of xe_int) xbs_nil (fun _ => rfl)) (fun _ => rfl)))) (xbs_cons (xb_of (xe_tup (xbs_cons (xb_of (xe_tup (xbs_cons (xb_of xe_int) xbs_nil (fun _ => rfl)))) (xbs_cons (xb_of xe_int) xbs_nil (fun _ => rfl)) (fun _ => rfl)))) (xbs_cons (xb_of (xe_tup (xbs_cons (xb_of xe_int) (xbs_cons (xb_of xe_none) xbs_nil (fun _ => rfl)) (fun _ => rfl)))) xbs_nil (fun _ => rfl)) (fun _ => rfl)) (fun _ => rfl)) (fun _ => rfl)) (fun _ => rfl)) (fun _ => rfl)) (fun _ => rfl)) (fun _ => rfl)))) (xss_cons (xs_set (by decide) (fun t h j => ps_set sc__law_odd_poly.nd rfl (by first | exact .inl rfl | exact .inr rfl) (h j) rfl (by first | exact .inl rfl | exact .inr rfl)) (xe_bin (fun _ => op_addA) prm_add (xb_var fun _ => pv 1) (xb_of (xe_lst (xbs_cons (xb_of (xe_tup (xbs_cons (xb_of (xe_tup (xbs_cons (xb_of xe_int) (xbs_cons (xb_of xe_none) xbs_nil (fun _ => rfl)) (fun _ => rfl)))) (xbs_cons (xb_of xe_int) xbs_nil (fun _ => rfl)) (fun _ => rfl)))) (xbs_cons (xb_of (xe_tup (xbs_cons (xb_of (xe_tup (xbs_cons (xb_of xe_int) (xbs_cons (xb_of xe_int) xbs_nil (fun _ => rfl)) (fun _ => rfl)))) (xbs_cons (xb_of xe_int) xbs_nil (fun _ => rfl)) (fun _ => rfl)))) (xbs_cons (xb_of (xe_tup (xbs_cons (xb_of (xe_tup (xbs_cons (xb_of (xe_un (fun _ => un_neg) prm_neg (xb_of xe_int))) (xbs_cons (xb_of xe_int) xbs_nil (fun _ => rfl)) (fun _ => rfl)))) (xbs_cons (xb_of xe_int) xbs_nil (fun _ => rfl)) (fun _ => rfl)))) (xbs_cons (xb_of (xe_tup (xbs_cons (xb_of (xe_tup (xbs_cons (xb_of xe_int) (xbs_cons (xb_of xe_str) (xbs_cons (xb_of xe_int) xbs_nil (fun _ => rfl)) (fun _ => rfl)) (fun _ => rfl)))) (xbs_cons (xb_of xe_int) xbs_nil (fun _ => rfl)) (fun _ => rfl)))) (xbs_cons (xb_of (xe_tup (xbs_cons (xb_of xe_dct0) (xbs_cons (xb_of xe_none) xbs_nil (fun _ => rfl)) (fun _ => rfl)))) xbs_nil (fun _ => rfl)) (fun _ => rfl)) (fun _ => rfl)) (fun _ => rfl)) (fun _ => rfl)))))) (xss_one (xs_ret (xe_ix (fun _ => ix_seq) prm_ix (xb_var fun _ => pv 1) (xb_of (xe_call (fun _ => k__law_pick) (fun _ => hr.mono (by decide)) (fun _ => rfl) (fun _ => Ev.m__law_pick) (fun _ => Ev.F__law_pick.kp) (fun _ => Ev.b__law_pick) (fun _ => takes_of rfl rfl rfl rfl) (xbs_cons (xb_var fun _ => pv 0) (xbs_cons (xb_of xe_int) xbs_nil (fun _ => rfl)) (fun _ => rfl)) (len_cons (len_cons (fun _ _ _ _ => len_nil))) rfl (fun _ => rfl) (fun _ => rfl))) (fun _ _ => rfl))))))
theorem o__law_odd_poly (Ev : Evd P w K mg base A0) (k__law_pick : FnOk P w K mg base (L2.CX P w) 1 A0.f__law_pick A0.d__law_pick ["_law_row", "_law_many"] (spM ⟨K, mg⟩ 2 m__law_pick)) (h : ∀ cs o, m__law_odd_poly cs = some o → ∃ n out, g__law_odd_poly n (startR 2 cs) = some out ∧ fin [true] out = some o) : FnOk P w K mg base (L2.CX P w) 2 A0.f__law_odd_poly A0.d__law_odd_poly ["_law_row"] (spM ⟨K, mg⟩ 1 m__law_odd_poly) :=
  def_ok (fl := [true]) (Pk := [0]) Ev.F__law_odd_poly sc__law_odd_poly rfl (flB_ok rfl) (by decide) (fun cdv A outer s H E hr => w__law_odd_poly Ev k__law_pick cdv A outer s H E hr) h
theorem w__law_wrong (Ev : Evd P w K mg base A0) (k_whole_roots : FnOk P w K mg base (L2.CX P w) 5 A0.f_whole_roots A0.d_whole_roots ["one"] (spM ⟨K, mg⟩ 1 m_whole_roots)) (cdv : Value) (A : Around) (outer : List Env) (s : Shared) (H : Hp) (E : XK) (hr : Room 5 (A.deeper (envOfC "_law_wrong" (defScope s__law_wrong) s.heap.objs.size A0.f__law_wrong cdv))) :
    XSs ⟨K, mg⟩ (fun _ : Unit => cxOf (L2.CX P w) P w K mg base ["_law_one", "_law_told_there", "e"] "_law_wrong" (defScope s__law_wrong) A0.f__law_wrong cdv A outer s H E) (fun cls d _ H => E cls d H) [0] (defBody s__law_wrong) g__law_wrong :=
  (xss_cons (xs_set (by decide) (fun t h j => ps_set sc__law_wrong.nd rfl (by first | exact .inl rfl | exact .inr rfl) (h j) rfl (by first | exact .inl rfl | exact .inr rfl)) xe_none) (xss_cons (xs_try (fun _ => rfl) (fun _ => rfl) (fun _ => rfl) (fun _ => sc__law_wrong.nd) (fun _ => rfl) (fun _ => rfl) (by decide) (fun _ => takes_of rfl rfl rfl rfl) (fun Wb => (xss_one (xs_set (by decide) (fun t h j => ps_set sc__law_wrong.nd rfl (by first | exact .inl rfl | exact .inr rfl) (h j) rfl (by first | exact .inl rfl | exact .inr rfl)) (xe_call (fun _ => k_whole_roots) (fun _ => hr.mono (by decide)) (fun _ => rfl) (fun _ => Ev.m_whole_roots) (fun _ => Ev.F_whole_roots.kp) (fun _ => Ev.b_whole_roots) (fun p => p.2.1) (xbs_cons (xb_var fun _ => pv 0) xbs_nil (fun _ => rfl)) (len_cons (fun _ _ _ _ => len_nil)) rfl (fun _ => rfl) (fun _ => rfl))))) (HdX.cons (x := "BadPoly") (fun _ => ⟨rfl, rfl, .inl Ev.m_BadPoly⟩) (tbl_ok (tbl_c ⟨_, Ev.m_BadPoly, Ev.x_BadPoly_BadPoly⟩ (tbl_c ⟨_, Ev.m_Zero, Ev.x_Zero_BadPoly⟩ (fun _ z => (List.not_mem_nil z).elim)))) (su_isf (c := "RootError") (cv := A0.C_RootError) (fun _ => rfl) (fun _ _ _ _ => pv 2) (by decide) (fun _ => rfl) (fun _ => Ev.z_isinstance) (fun _ => rfl) (fun _ => Ev.m_RootError) rfl (fun _ => rfl) (fun _ => rfl) (fun _ => rfl) (fun _ _ _ _ _ h => ps_set sc__law_wrong.nd rfl (by first | exact .inl rfl | exact .inr rfl) h rfl (by first | exact .inl rfl | exact .inr rfl)) (fun _ _ _ _ _ => rfl) (tbs_ok (tbs_c ⟨_, Ev.m_BadPoly, Ev.e_BadPoly, Ev.k_BadPoly_RootError⟩ (fun _ z => (List.not_mem_nil z).elim))) (se_lst (ses_str (fun _ => rfl) (ses_fld (fun _ _ _ _ => pv 2) (fun _ => rfl) (tbf_ok (tbf_c ⟨_, Ev.m_BadPoly, Ev.xf_BadPoly, Ev.nf_BadPoly_index⟩ (fun _ z => (List.not_mem_nil z).elim))) (fun _ => rfl) (fun _ => rfl) ses_nil)) (fun x ds h => Nat.le_trans ((sl_str (sl_fld sl_nil)) x ds h) (by decide))) ⟨_, fun _ _ _ _ => pe_str⟩) (HdX.cons (x := "Zero") (fun _ => ⟨rfl, rfl, .inl Ev.m_Zero⟩) (tbl_ok (tbl_c ⟨_, Ev.m_BadPoly, Ev.x_BadPoly_Zero⟩ (tbl_c ⟨_, Ev.m_Zero, Ev.x_Zero_Zero⟩ (fun _ z => (List.not_mem_nil z).elim)))) (su_isf (c := "RootError") (cv := A0.C_RootError) (fun _ => rfl) (fun _ _ _ _ => pv 2) (by decide) (fun _ => rfl) (fun _ => Ev.z_isinstance) (fun _ => rfl) (fun _ => Ev.m_RootError) rfl (fun _ => rfl) (fun _ => rfl) (fun _ => rfl) (fun _ _ _ _ _ h => ps_set sc__law_wrong.nd rfl (by first | exact .inl rfl | exact .inr rfl) h rfl (by first | exact .inl rfl | exact .inr rfl)) (fun _ _ _ _ _ => rfl) (tbs_ok (tbs_c ⟨_, Ev.m_Zero, Ev.e_Zero, Ev.k_Zero_RootError⟩ (fun _ z => (List.not_mem_nil z).elim))) se_str ⟨_, fun _ _ _ _ => pe_str⟩) HdX.nil))) (xss_one (xs_ret (xe_mv fun _ => pv 1)))))
theorem o__law_wrong (Ev : Evd P w K mg base A0) (k_whole_roots : FnOk P w K mg base (L2.CX P w) 5 A0.f_whole_roots A0.d_whole_roots ["one"] (spM ⟨K, mg⟩ 1 m_whole_roots)) (h : ∀ cs o, m__law_wrong cs = some o → ∃ n out, g__law_wrong n (startR 3 cs) = some out ∧ fin [true] out = some o) : FnOk P w K mg base (L2.CX P w) 6 A0.f__law_wrong A0.d__law_wrong ["_law_one"] (spM ⟨K, mg⟩ 1 m__law_wrong) :=
  def_ok (fl := [true]) (Pk := [0]) Ev.F__law_wrong sc__law_wrong rfl (flB_ok rfl) (by decide) (fun cdv A outer s H E hr => w__law_wrong Ev k_whole_roots cdv A outer s H E hr) h
theorem w_law (Ev : Evd P w K mg base A0) (k__law_draws : FnOk P w K mg base (L2.CX P w) 1 A0.f__law_draws A0.d__law_draws ["_law_script"] (spM ⟨K, mg⟩ 1 m__law_draws)) (k__law_rooted : FnOk P w K mg base (L2.CX P w) 3 A0.f__law_rooted A0.d__law_rooted ["_law_row", "_law_most"] (spM ⟨K, mg⟩ 2 m__law_rooted)) (k__law_pick : FnOk P w K mg base (L2.CX P w) 1 A0.f__law_pick A0.d__law_pick ["_law_row", "_law_many"] (spM ⟨K, mg⟩ 2 m__law_pick)) (k__law_mul : FnOk P w K mg base (L2.CX P w) 2 A0.f__law_mul A0.d__law_mul ["_law_a", "_law_b"] (spM ⟨K, mg⟩ 2 m__law_mul)) (k_whole_roots : FnOk P w K mg base (L2.CX P w) 5 A0.f_whole_roots A0.d_whole_roots ["one"] (spM ⟨K, mg⟩ 1 m_whole_roots)) (k__law_odd_poly : FnOk P w K mg base (L2.CX P w) 2 A0.f__law_odd_poly A0.d__law_odd_poly ["_law_row"] (spM ⟨K, mg⟩ 1 m__law_odd_poly)) (k__law_wrong : FnOk P w K mg base (L2.CX P w) 6 A0.f__law_wrong A0.d__law_wrong ["_law_one"] (spM ⟨K, mg⟩ 1 m__law_wrong)) (cdv : Value) (A : Around) (outer : List Env) (s : Shared) (H : Hp) (E : XK) (hr : Room 6 (A.deeper (envOfC "law" (defScope s_law) s.heap.objs.size A0.f_law cdv))) :
    XSs ⟨K, mg⟩ (fun _ : Unit => cxOf (L2.CX P w) P w K mg base ["_law_script", "_law_row", "_law_turn", "_law_found", "_law_rows", "_law_extra", "_law_a", "_law_root", "_law_wrong_here", "_law_due"] "law" (defScope s_law) A0.f_law cdv A outer s H E) (fun cls d _ H => E cls d H) [0] (defBody s_law) g_law :=
  (xss_cons (xs_set (by decide) (fun t h j => ps_set sc_law.nd rfl (by first | exact .inl rfl | exact .inr rfl) (h j) rfl (by first | exact .inl rfl | exact .inr rfl)) (xe_call (fun _ => k__law_draws) (fun _ => hr.mono (by decide)) (fun _ => rfl) (fun _ => Ev.m__law_draws) (fun _ => Ev.F__law_draws.kp) (fun _ => Ev.b__law_draws) (fun _ => takes_of rfl rfl rfl rfl) (xbs_cons (xb_var fun _ => pv 0) xbs_nil (fun _ => rfl)) (len_cons (fun _ _ _ _ => len_nil)) rfl (fun _ => rfl) (fun _ => rfl))) (xss_cons (xs_for (fun _ => passes_of (K := fun e s'' => L2.CX P w outer H s E e s'') (E₁ := fun e' s'' => L2.CX P w outer H s E e' s'') rfl) (fun _ => rfl) (xi_rng1 (fun _ => rfl) (fun _ => Ev.z_range) (xb_of xe_int) (fun _ => rfl)) (xg_name (by decide) (fun _ => pg_name sc_law.nd rfl (by first | exact .inl rfl | exact .inr rfl) (by first | exact .inl rfl | exact .inr rfl))) (xss_cons (xs_unb (fun _ => rfl) (fun _ => rfl) (by decide) (by decide) (fun _ => pg_name sc_law.nd rfl (by first | exact .inl rfl | exact .inr rfl) (by first | exact .inl rfl | exact .inr rfl)) (fun _ => pg_name sc_law.nd rfl (by first | exact .inl rfl | exact .inr rfl) (by first | exact .inl rfl | exact .inr rfl)) (xe_call (fun _ => k__law_rooted) (fun _ => hr.mono (by decide)) (fun _ => rfl) (fun _ => Ev.m__law_rooted) (fun _ => Ev.F__law_rooted.kp) (fun _ => Ev.b__law_rooted) (fun _ => takes_of rfl rfl rfl rfl) (xbs_cons (xb_var fun _ => pv 1) (xbs_cons (xb_of xe_int) xbs_nil (fun _ => rfl)) (fun _ => rfl)) (len_cons (len_cons (fun _ _ _ _ => len_nil))) rfl (fun _ => rfl) (fun _ => rfl)) (fun _ => rfl) (fun _ => rfl) (fun _ => rfl) (fun _ => rfl) (fun _ => rfl) (fun _ => rfl) (fun _ => rfl)) (xss_cons (xs_set (by decide) (fun t h j => ps_set sc_law.nd rfl (by first | exact .inl rfl | exact .inr rfl) (h j) rfl (by first | exact .inl rfl | exact .inr rfl)) (xe_ix (fun _ => ix_seq) prm_ix (xb_of (xe_lst (xbs_cons (xb_of (xe_tup (xbs_cons (xb_of xe_int) xbs_nil (fun _ => rfl)))) (xbs_cons (xb_of (xe_tup (xbs_cons (xb_of (xe_un (fun _ => un_neg) prm_neg (xb_of xe_int))) (xbs_cons (xb_of xe_int) xbs_nil (fun _ => rfl)) (fun _ => rfl)))) (xbs_cons (xb_of (xe_tup (xbs_cons (xb_of xe_int) (xbs_cons (xb_of xe_int) (xbs_cons (xb_of xe_int) xbs_nil (fun _ => rfl)) (fun _ => rfl)) (fun _ => rfl)))) (xbs_cons (xb_of (xe_tup (xbs_cons (xb_of (xe_un (fun _ => un_neg) prm_neg (xb_of xe_int))) (xbs_cons (xb_of xe_int) (xbs_cons (xb_of xe_int) xbs_nil (fun _ => rfl)) (fun _ => rfl)) (fun _ => rfl)))) (xbs_cons (xb_of (xe_tup (xbs_cons (xb_of xe_int) xbs_nil (fun _ => rfl)))) (xbs_cons (xb_of (xe_tup (xbs_cons (xb_of (xe_un (fun _ => un_neg) prm_neg (xb_of xe_int))) xbs_nil (fun _ => rfl)))) xbs_nil (fun _ => rfl)) (fun _ => rfl)) (fun _ => rfl)) (fun _ => rfl)) (fun _ => rfl)) (fun _ => rfl)))) (xb_of (xe_call (fun _ => k__law_pick) (fun _ => hr.mono (by decide)) (fun _ => rfl) (fun _ => Ev.m__law_pick) (fun _ => Ev.F__law_pick.kp) (fun _ => Ev.b__law_pick) (fun _ => takes_of rfl rfl rfl rfl) (xbs_cons (xb_var fun _ => pv 1) (xbs_cons (xb_of xe_int) xbs_nil (fun _ => rfl)) (fun _ => rfl)) (len_cons (len_cons (fun _ _ _ _ => len_nil))) rfl (fun _ => rfl) (fun _ => rfl))) (fun _ _ => rfl))) (xss_cons (xs_set (by decide) (fun t h j => ps_set sc_law.nd rfl (by first | exact .inl rfl | exact .inr rfl) (h j) rfl (by first | exact .inl rfl | exact .inr rfl)) (xe_call (fun _ => k__law_mul) (fun _ => hr.mono (by decide)) (fun _ => rfl) (fun _ => Ev.m__law_mul) (fun _ => Ev.F__law_mul.kp) (fun _ => Ev.b__law_mul) (fun _ => takes_of rfl rfl rfl rfl) (xbs_cons (xb_var fun _ => pv 3) (xbs_cons (xb_var fun _ => pv 5) xbs_nil (fun _ => rfl)) (fun _ => rfl)) (len_cons (len_cons (fun _ _ _ _ => len_nil))) rfl (fun _ => rfl) (fun _ => rfl))) (xss_cons (xs_if (xt_cmp (fun _ => op_eqD hr.units) prm_eq (xb_of (xe_call (fun _ => k__law_pick) (fun _ => hr.mono (by decide)) (fun _ => rfl) (fun _ => Ev.m__law_pick) (fun _ => Ev.F__law_pick.kp) (fun _ => Ev.b__law_pick) (fun _ => takes_of rfl rfl rfl rfl) (xbs_cons (xb_var fun _ => pv 1) (xbs_cons (xb_of xe_int) xbs_nil (fun _ => rfl)) (fun _ => rfl)) (len_cons (len_cons (fun _ _ _ _ => len_nil))) rfl (fun _ => rfl) (fun _ => rfl))) (xb_of xe_int) (nomark _)) (xss_cons (xs_set (by decide) (fun t h j => ps_set sc_law.nd rfl (by first | exact .inl rfl | exact .inr rfl) (h j) rfl (by first | exact .inl rfl | exact .inr rfl)) (xe_ix (fun _ => ix_seq) prm_ix (xb_of (xe_lst (xbs_cons (xb_of xe_int) (xbs_cons (xb_of (xe_un (fun _ => un_neg) prm_neg (xb_of xe_int))) (xbs_cons (xb_of xe_int) xbs_nil (fun _ => rfl)) (fun _ => rfl)) (fun _ => rfl)))) (xb_of (xe_call (fun _ => k__law_pick) (fun _ => hr.mono (by decide)) (fun _ => rfl) (fun _ => Ev.m__law_pick) (fun _ => Ev.F__law_pick.kp) (fun _ => Ev.b__law_pick) (fun _ => takes_of rfl rfl rfl rfl) (xbs_cons (xb_var fun _ => pv 1) (xbs_cons (xb_of xe_int) xbs_nil (fun _ => rfl)) (fun _ => rfl)) (len_cons (len_cons (fun _ _ _ _ => len_nil))) rfl (fun _ => rfl) (fun _ => rfl))) (fun _ _ => rfl))) (xss_cons (xs_setIxD (fun _ => u1 hr) (fun _ => pv 4) (xb_var fun _ => pv 7) (xb_of xe_int) (fun _ => rfl) (fun _ => rfl) (fun _ => rfl) (fun _ _ => rfl)) (xss_one (xs_set (by decide) (fun t h j => ps_set sc_law.nd rfl (by first | exact .inl rfl | exact .inr rfl) (h j) rfl (by first | exact .inl rfl | exact .inr rfl)) (xe_call (fun _ => k__law_mul) (fun _ => hr.mono (by decide)) (fun _ => rfl) (fun _ => Ev.m__law_mul) (fun _ => Ev.F__law_mul.kp) (fun _ => Ev.b__law_mul) (fun _ => takes_of rfl rfl rfl rfl) (xbs_cons (xb_var fun _ => pv 6) (xbs_cons (xb_of (xe_tup (xbs_cons (xb_of (xe_bin (fun _ => op_sub) prm_sub (xb_of xe_int) (xb_var fun _ => pv 7))) (xbs_cons (xb_of xe_int) xbs_nil (fun _ => rfl)) (fun _ => rfl)))) xbs_nil (fun _ => rfl)) (fun _ => rfl)) (len_cons (len_cons (fun _ _ _ _ => len_nil))) rfl (fun _ => rfl) (fun _ => rfl)))))) xss_nil) (xss_cons (xs_if (xt_cmp (fun _ => op_neD hr.units) prm_ne (xb_of (xe_call (fun _ => k_whole_roots) (fun _ => hr.mono (by decide)) (fun _ => rfl) (fun _ => Ev.m_whole_roots) (fun _ => Ev.F_whole_roots.kp) (fun _ => Ev.b_whole_roots) (fun _ => takes_of rfl rfl rfl rfl) (xbs_cons (xb_var fun _ => pv 6) xbs_nil (fun _ => rfl)) (len_cons (fun _ _ _ _ => len_nil)) rfl (fun _ => rfl) (fun _ => rfl))) (xb_of (xe_rest [7] (xe_lc0 (own := [("_law_root", 7)]) (N := 10) (fun _ => rfl) (fun _ => sc_law.nd) (xi_seq (fun _ => rfl) (xb_of (xe_callB (fun _ => (cr_sortDK rfl)) prm_sortD (fun _ => rfl) (fun _ => Ev.z_sorted) (by decide +kernel) (xbs_cons (xb_var fun _ => pv 4) xbs_nil (fun _ => rfl)) (by decide) rfl (fun _ => rfl) (fun _ => rfl)))) (fun _ => blkB_ok rfl) (xg_name (by decide) (fun _ => pg_name sc_law.nd rfl (by first | exact .inl rfl | exact .inr rfl) (by first | exact .inl rfl | exact .inr rfl))) (xb_of (xe_tup (xbs_cons (xb_var fun _ => pv 7) (xbs_cons (xb_of (xe_ixD (fun _ => u1 hr) (xb_var fun _ => pv 4) (xb_var fun _ => pv 7) (fun _ _ => rfl))) xbs_nil (fun _ => rfl)) (fun _ => rfl)))) (fun _ _ => rfl)))) (nomark _)) (xss_one (xs_ret xe_bool)) xss_nil) (xss_cons (xs_asg (xb_of (xe_call (fun _ => k__law_odd_poly) (fun _ => hr.mono (by decide)) (fun _ => rfl) (fun _ => Ev.m__law_odd_poly) (fun _ => Ev.F__law_odd_poly.kp) (fun _ => Ev.b__law_odd_poly) (fun _ => takes_of rfl rfl rfl rfl) (xbs_cons (xb_var fun _ => pv 1) xbs_nil (fun _ => rfl)) (len_cons (fun _ _ _ _ => len_nil)) rfl (fun _ => rfl) (fun _ => rfl))) (xg_tup (fun _ => rfl) (fun _ => rfl) (xgs_cons (xg_name (by decide) (fun _ => pg_name sc_law.nd rfl (by first | exact .inl rfl | exact .inr rfl) (by first | exact .inl rfl | exact .inr rfl))) (xgs_cons (xg_name (by decide) (fun _ => pg_name sc_law.nd rfl (by first | exact .inl rfl | exact .inr rfl) (by first | exact .inl rfl | exact .inr rfl))) xgs_nil (fun _ => rfl)) (fun _ => rfl)) (fun _ => rfl) (fun _ => rfl)) (fun _ => rfl) (fun _ => rfl) (fun _ => rfl)) (xss_one (xs_if (xt_w (xw_or (xt_cmp (fun _ => op_neD hr.units) prm_ne (xb_of (xe_call (fun _ => k__law_wrong) (fun _ => hr.mono (by decide)) (fun _ => rfl) (fun _ => Ev.m__law_wrong) (fun _ => Ev.F__law_wrong.kp) (fun _ => Ev.b__law_wrong) (fun _ => takes_of rfl rfl rfl rfl) (xbs_cons (xb_var fun _ => pv 8) xbs_nil (fun _ => rfl)) (len_cons (fun _ _ _ _ => len_nil)) rfl (fun _ => rfl) (fun _ => rfl))) (xb_of (xe_lst (xbs_cons (xb_of xe_str) (xbs_cons (xb_var fun _ => pv 9) xbs_nil (fun _ => rfl)) (fun _ => rfl)))) (nomark _)) (xw_or1 (xt_cmp (fun _ => op_neD hr.units) prm_ne (xb_of (xe_call (fun _ => k__law_wrong) (fun _ => hr.mono (by decide)) (fun _ => rfl) (fun _ => Ev.m__law_wrong) (fun _ => Ev.F__law_wrong.kp) (fun _ => Ev.b__law_wrong) (fun _ => takes_of rfl rfl rfl rfl) (xbs_cons (xb_of (xe_tup xbs_nil)) xbs_nil (fun _ => rfl)) (len_cons (fun _ _ _ _ => len_nil)) rfl (fun _ => rfl) (fun _ => rfl))) (xb_of xe_str) (nomark _))))) (xss_one (xs_ret xe_bool)) xss_nil)))))))) (fun _ _ => rfl)) (xss_one (xs_ret xe_bool))))
theorem o_law (Ev : Evd P w K mg base A0) (k__law_draws : FnOk P w K mg base (L2.CX P w) 1 A0.f__law_draws A0.d__law_draws ["_law_script"] (spM ⟨K, mg⟩ 1 m__law_draws)) (k__law_rooted : FnOk P w K mg base (L2.CX P w) 3 A0.f__law_rooted A0.d__law_rooted ["_law_row", "_law_most"] (spM ⟨K, mg⟩ 2 m__law_rooted)) (k__law_pick : FnOk P w K mg base (L2.CX P w) 1 A0.f__law_pick A0.d__law_pick ["_law_row", "_law_many"] (spM ⟨K, mg⟩ 2 m__law_pick)) (k__law_mul : FnOk P w K mg base (L2.CX P w) 2 A0.f__law_mul A0.d__law_mul ["_law_a", "_law_b"] (spM ⟨K, mg⟩ 2 m__law_mul)) (k_whole_roots : FnOk P w K mg base (L2.CX P w) 5 A0.f_whole_roots A0.d_whole_roots ["one"] (spM ⟨K, mg⟩ 1 m_whole_roots)) (k__law_odd_poly : FnOk P w K mg base (L2.CX P w) 2 A0.f__law_odd_poly A0.d__law_odd_poly ["_law_row"] (spM ⟨K, mg⟩ 1 m__law_odd_poly)) (k__law_wrong : FnOk P w K mg base (L2.CX P w) 6 A0.f__law_wrong A0.d__law_wrong ["_law_one"] (spM ⟨K, mg⟩ 1 m__law_wrong)) (h : ∀ cs o, m_law cs = some o → ∃ n out, g_law n (startR 10 cs) = some out ∧ fin [true] out = some o) : FnOk P w K mg base (L2.CX P w) 7 A0.f_law A0.d_law ["_law_script"] (spM ⟨K, mg⟩ 1 m_law) :=
  def_ok (fl := [true]) (Pk := [0]) Ev.F_law sc_law rfl (flB_ok rfl) (by decide) (fun cdv A outer s H E hr => w_law Ev k__law_draws k__law_rooted k__law_pick k__law_mul k_whole_roots k__law_odd_poly k__law_wrong cdv A outer s H E hr) h
end
end L3

namespace L3
open PySem PySem.Spec L2 PyProof.Rows
def clsInit (s : Stmt) : Stmt := match s with
  | .ClassDef (body := b :: _) .. => b
  | _ => s
theorem mem_c {α : Type} {p : α → Prop} {x : α} {l : List α} (h : p x) (r : ∀ y ∈ l, p y) : ∀ y ∈ x :: l, p y := fun y hy => by
  rcases List.mem_cons.mp hy with e | hy
  · rw [e]; exact h
  · exact r y hy
/-- the law's promise: true for every script -/
def spLaw (K : PySem.W.Frag) : Sp := fun vs H Q _ => ∃ (a : Addr) (ns : List Int), vs = [.ref a] ∧ SqL K H a (ns.map V.int) ∧ ∀ H', Q (.bl true) H'
theorem sp_law {G : Gd} {m : Mr} {vs : List V} {H : Hp} {Q : VK} {E : XK} (h : spLaw G.K vs H Q E) (hm : ∀ ns : List Int, ∃ outs, m [.fz (.list (zs ns))] = some (.ok (.b true) outs)) : spM G 1 m vs H Q E := by
  obtain ⟨a, ns, rfl, hS, q⟩ := h
  obtain ⟨outs, e⟩ := hm ns
  refine ⟨rfl, [.fz (.list (zs ns))], H, [], _, rfl, ⟨Same.refl _, [], .nil, ?_⟩, e, fun F' H' v s hr => ?_⟩
  · exact .cons (A := []) (.fz (.lst hS (RpA.of_ints ns))) .nil
  · have r := hr.rp
    cases r
    exact q H'
theorem cx_no {P : Program} {w : World} {outer : List Env} {H : Hp} {s s' : Shared} {u : Value} (h : L2.CX P w outer H s (fun _ _ _ => False) u s') : False := by
  obtain ⟨_, _, _, _, _, _, _, _, _, _, _, _, z⟩ := h
  exact z
end L3

namespace L3
open PySem PySem.Spec L2 PyProof.Rows
section
variable {P : Program} {w : World} {K : PySem.W.Frag} {mg : Str → Option Value} {base : Heap} {A0 : Ad}
theorem ok_all (Ev : Evd P w K mg base A0) : FnOk P w K mg base (L2.CX P w) 7 A0.f_law A0.d_law ["_law_script"] (spM ⟨K, mg⟩ 1 m_law) := by
  have k_is_from := o_is_from Ev h_is_from
  have k_check_poly := o_check_poly Ev k_is_from h_check_poly
  have k_trimmed := o_trimmed Ev h_trimmed
  have k_plus_of := o_plus_of Ev k_trimmed h_plus_of
  have k_scaled := o_scaled Ev k_trimmed h_scaled
  have k_less_of := o_less_of Ev k_plus_of k_scaled h_less_of
  have k_value_of := o_value_of Ev h_value_of
  have k_quotient := o_quotient Ev k_less_of k_scaled h_quotient
  have k_check_zero := o_check_zero Ev h_check_zero
  have k_candidates := o_candidates Ev h_candidates
  have k_whole_roots := o_whole_roots Ev k_check_poly k_check_zero k_candidates k_value_of k_quotient h_whole_roots
  have k__law_draws := o__law_draws Ev h__law_draws
  have k__law_pick := o__law_pick Ev h__law_pick
  have k__law_end := o__law_end Ev h__law_end
  have k__law_mul := o__law_mul Ev k__law_end h__law_mul
  have k__law_rooted := o__law_rooted Ev k__law_pick k__law_mul h__law_rooted
  have k__law_odd_poly := o__law_odd_poly Ev k__law_pick h__law_odd_poly
  have k__law_wrong := o__law_wrong Ev k_whole_roots h__law_wrong
  have k_law := o_law Ev k__law_draws k__law_rooted k__law_pick k__law_mul k_whole_roots k__law_odd_poly k__law_wrong h_law
  exact k_law
abbrev si_BadPoly : Stmt := clsInit (topS 3)
theorem sci_BadPoly : FnScope ["self", "index"] ["self", "index"] (defScope si_BadPoly) := ⟨rfl, rfl, rfl, by decide +kernel, rfl, by decide +kernel, by decide +kernel⟩
end
set_option maxHeartbeats 0 in
theorem all_mk {P : Program} {w : World} {K : PySem.W.Frag} {h : Heap} {mg : Str → Option Value} {fa : Addr} (X : K.In h) (G : h.Ns mainGlobals mg) (hfa : mg "law" = some (.ref fa))
    {f_is_from : Addr} {od_is_from an_is_from : Option Addr} {sl_is_from : Array (Option Value)} {oc_is_from kV_is_from dc_is_from pm_is_from cd_is_from ct_is_from : Value}
    {f_check_poly : Addr} {od_check_poly an_check_poly : Option Addr} {sl_check_poly : Array (Option Value)} {oc_check_poly kV_check_poly dc_check_poly pm_check_poly cd_check_poly ct_check_poly : Value}
    {f_trimmed : Addr} {od_trimmed an_trimmed : Option Addr} {sl_trimmed : Array (Option Value)} {oc_trimmed kV_trimmed dc_trimmed pm_trimmed cd_trimmed ct_trimmed : Value}
    {f_plus_of : Addr} {od_plus_of an_plus_of : Option Addr} {sl_plus_of : Array (Option Value)} {oc_plus_of kV_plus_of dc_plus_of pm_plus_of cd_plus_of ct_plus_of : Value}
    {f_scaled : Addr} {od_scaled an_scaled : Option Addr} {sl_scaled : Array (Option Value)} {oc_scaled kV_scaled dc_scaled pm_scaled cd_scaled ct_scaled : Value}
    {f_less_of : Addr} {od_less_of an_less_of : Option Addr} {sl_less_of : Array (Option Value)} {oc_less_of kV_less_of dc_less_of pm_less_of cd_less_of ct_less_of : Value}
    {f_value_of : Addr} {od_value_of an_value_of : Option Addr} {sl_value_of : Array (Option Value)} {oc_value_of kV_value_of dc_value_of pm_value_of cd_value_of ct_value_of : Value}
    {f_quotient : Addr} {od_quotient an_quotient : Option Addr} {sl_quotient : Array (Option Value)} {oc_quotient kV_quotient dc_quotient pm_quotient cd_quotient ct_quotient : Value}
    {f_check_zero : Addr} {od_check_zero an_check_zero : Option Addr} {sl_check_zero : Array (Option Value)} {oc_check_zero kV_check_zero dc_check_zero pm_check_zero cd_check_zero ct_check_zero : Value}
    {f_candidates : Addr} {od_candidates an_candidates : Option Addr} {sl_candidates : Array (Option Value)} {oc_candidates kV_candidates dc_candidates pm_candidates cd_candidates ct_candidates : Value}
    {f_whole_roots : Addr} {od_whole_roots an_whole_roots : Option Addr} {sl_whole_roots : Array (Option Value)} {oc_whole_roots kV_whole_roots dc_whole_roots pm_whole_roots cd_whole_roots ct_whole_roots : Value}
    {f__law_draws : Addr} {od__law_draws an__law_draws : Option Addr} {sl__law_draws : Array (Option Value)} {oc__law_draws kV__law_draws dc__law_draws pm__law_draws cd__law_draws ct__law_draws : Value}
    {f__law_pick : Addr} {od__law_pick an__law_pick : Option Addr} {sl__law_pick : Array (Option Value)} {oc__law_pick kV__law_pick dc__law_pick pm__law_pick cd__law_pick ct__law_pick : Value}
    {f__law_end : Addr} {od__law_end an__law_end : Option Addr} {sl__law_end : Array (Option Value)} {oc__law_end kV__law_end dc__law_end pm__law_end cd__law_end ct__law_end : Value}
    {f__law_mul : Addr} {od__law_mul an__law_mul : Option Addr} {sl__law_mul : Array (Option Value)} {oc__law_mul kV__law_mul dc__law_mul pm__law_mul cd__law_mul ct__law_mul : Value}
    {f__law_rooted : Addr} {od__law_rooted an__law_rooted : Option Addr} {sl__law_rooted : Array (Option Value)} {oc__law_rooted kV__law_rooted dc__law_rooted pm__law_rooted cd__law_rooted ct__law_rooted : Value}
    {f__law_odd_poly : Addr} {od__law_odd_poly an__law_odd_poly : Option Addr} {sl__law_odd_poly : Array (Option Value)} {oc__law_odd_poly kV__law_odd_poly dc__law_odd_poly pm__law_odd_poly cd__law_odd_poly ct__law_odd_poly : Value}
    {f__law_wrong : Addr} {od__law_wrong an__law_wrong : Option Addr} {sl__law_wrong : Array (Option Value)} {oc__law_wrong kV__law_wrong dc__law_wrong pm__law_wrong cd__law_wrong ct__law_wrong : Value}
    {f_law : Addr} {od_law an_law : Option Addr} {sl_law : Array (Option Value)} {oc_law kV_law dc_law pm_law cd_law ct_law : Value}
    {t_FAR : Tok}
    {t_MOST_TERMS : Tok}
    {C_BadPoly : Addr}
    {fi_BadPoly : Addr} {odi_BadPoly ani_BadPoly : Option Addr} {sli_BadPoly : Array (Option Value)} {oci_BadPoly kVi_BadPoly dci_BadPoly pmi_BadPoly cdi_BadPoly cti_BadPoly : Value} {nm_BadPoly q_BadPoly : Str} {N_BadPoly : Addr} {bs_BadPoly bm_BadPoly : List Value} {sn_BadPoly : List Str} {sub_BadPoly : List Value} {ab_BadPoly : Bool} {col_BadPoly : Option Bool} {dd_BadPoly : Option Addr} {m0_BadPoly m1_BadPoly m2_BadPoly m3_BadPoly m5_BadPoly : Option Value}
    {C_RootError : Addr}
    {C_Zero : Addr}
    (a_is_from : PySem.W.nsIn K mainGlobals "is_from" = some (some (.ref f_is_from)))
    (l_is_from : K.lookup f_is_from = some ⟨oc_is_from, od_is_from, .func (PySem.W.fnOf "is_from" "is_from" (defArgs s_is_from) (defBody s_is_from) (defScope s_is_from) .none kV_is_from dc_is_from pm_is_from an_is_from cd_is_from ct_is_from), sl_is_from⟩)
    (c_is_from : PySem.W.codeIn K cd_is_from "is_from" = true)
    (k_is_from : PySem.W.keepIn K (.ref f_is_from) = true)
    (a_check_poly : PySem.W.nsIn K mainGlobals "check_poly" = some (some (.ref f_check_poly)))
    (l_check_poly : K.lookup f_check_poly = some ⟨oc_check_poly, od_check_poly, .func (PySem.W.fnOf "check_poly" "check_poly" (defArgs s_check_poly) (defBody s_check_poly) (defScope s_check_poly) .none kV_check_poly dc_check_poly pm_check_poly an_check_poly cd_check_poly ct_check_poly), sl_check_poly⟩)
    (c_check_poly : PySem.W.codeIn K cd_check_poly "check_poly" = true)
    (k_check_poly : PySem.W.keepIn K (.ref f_check_poly) = true)
    (a_trimmed : PySem.W.nsIn K mainGlobals "trimmed" = some (some (.ref f_trimmed)))
    (l_trimmed : K.lookup f_trimmed = some ⟨oc_trimmed, od_trimmed, .func (PySem.W.fnOf "trimmed" "trimmed" (defArgs s_trimmed) (defBody s_trimmed) (defScope s_trimmed) .none kV_trimmed dc_trimmed pm_trimmed an_trimmed cd_trimmed ct_trimmed), sl_trimmed⟩)
    (c_trimmed : PySem.W.codeIn K cd_trimmed "trimmed" = true)
    (k_trimmed : PySem.W.keepIn K (.ref f_trimmed) = true)
    (a_plus_of : PySem.W.nsIn K mainGlobals "plus_of" = some (some (.ref f_plus_of)))
    (l_plus_of : K.lookup f_plus_of = some ⟨oc_plus_of, od_plus_of, .func (PySem.W.fnOf "plus_of" "plus_of" (defArgs s_plus_of) (defBody s_plus_of) (defScope s_plus_of) .none kV_plus_of dc_plus_of pm_plus_of an_plus_of cd_plus_of ct_plus_of), sl_plus_of⟩)
    (c_plus_of : PySem.W.codeIn K cd_plus_of "plus_of" = true)
    (k_plus_of : PySem.W.keepIn K (.ref f_plus_of) = true)
    (a_scaled : PySem.W.nsIn K mainGlobals "scaled" = some (some (.ref f_scaled)))
    (l_scaled : K.lookup f_scaled = some ⟨oc_scaled, od_scaled, .func (PySem.W.fnOf "scaled" "scaled" (defArgs s_scaled) (defBody s_scaled) (defScope s_scaled) .none kV_scaled dc_scaled pm_scaled an_scaled cd_scaled ct_scaled), sl_scaled⟩)
    (c_scaled : PySem.W.codeIn K cd_scaled "scaled" = true)
    (k_scaled : PySem.W.keepIn K (.ref f_scaled) = true)
    (a_less_of : PySem.W.nsIn K mainGlobals "less_of" = some (some (.ref f_less_of)))
    (l_less_of : K.lookup f_less_of = some ⟨oc_less_of, od_less_of, .func (PySem.W.fnOf "less_of" "less_of" (defArgs s_less_of) (defBody s_less_of) (defScope s_less_of) .none kV_less_of dc_less_of pm_less_of an_less_of cd_less_of ct_less_of), sl_less_of⟩)
    (c_less_of : PySem.W.codeIn K cd_less_of "less_of" = true)
    (k_less_of : PySem.W.keepIn K (.ref f_less_of) = true)
    (a_value_of : PySem.W.nsIn K mainGlobals "value_of" = some (some (.ref f_value_of)))
    (l_value_of : K.lookup f_value_of = some ⟨oc_value_of, od_value_of, .func (PySem.W.fnOf "value_of" "value_of" (defArgs s_value_of) (defBody s_value_of) (defScope s_value_of) .none kV_value_of dc_value_of pm_value_of an_value_of cd_value_of ct_value_of), sl_value_of⟩)
    (c_value_of : PySem.W.codeIn K cd_value_of "value_of" = true)
    (k_value_of : PySem.W.keepIn K (.ref f_value_of) = true)
    (a_quotient : PySem.W.nsIn K mainGlobals "quotient" = some (some (.ref f_quotient)))
    (l_quotient : K.lookup f_quotient = some ⟨oc_quotient, od_quotient, .func (PySem.W.fnOf "quotient" "quotient" (defArgs s_quotient) (defBody s_quotient) (defScope s_quotient) .none kV_quotient dc_quotient pm_quotient an_quotient cd_quotient ct_quotient), sl_quotient⟩)
    (c_quotient : PySem.W.codeIn K cd_quotient "quotient" = true)
    (k_quotient : PySem.W.keepIn K (.ref f_quotient) = true)
    (a_check_zero : PySem.W.nsIn K mainGlobals "check_zero" = some (some (.ref f_check_zero)))
    (l_check_zero : K.lookup f_check_zero = some ⟨oc_check_zero, od_check_zero, .func (PySem.W.fnOf "check_zero" "check_zero" (defArgs s_check_zero) (defBody s_check_zero) (defScope s_check_zero) .none kV_check_zero dc_check_zero pm_check_zero an_check_zero cd_check_zero ct_check_zero), sl_check_zero⟩)
    (c_check_zero : PySem.W.codeIn K cd_check_zero "check_zero" = true)
    (k_check_zero : PySem.W.keepIn K (.ref f_check_zero) = true)
    (a_candidates : PySem.W.nsIn K mainGlobals "candidates" = some (some (.ref f_candidates)))
    (l_candidates : K.lookup f_candidates = some ⟨oc_candidates, od_candidates, .func (PySem.W.fnOf "candidates" "candidates" (defArgs s_candidates) (defBody s_candidates) (defScope s_candidates) .none kV_candidates dc_candidates pm_candidates an_candidates cd_candidates ct_candidates), sl_candidates⟩)
    (c_candidates : PySem.W.codeIn K cd_candidates "candidates" = true)
    (k_candidates : PySem.W.keepIn K (.ref f_candidates) = true)
    (a_whole_roots : PySem.W.nsIn K mainGlobals "whole_roots" = some (some (.ref f_whole_roots)))
    (l_whole_roots : K.lookup f_whole_roots = some ⟨oc_whole_roots, od_whole_roots, .func (PySem.W.fnOf "whole_roots" "whole_roots" (defArgs s_whole_roots) (defBody s_whole_roots) (defScope s_whole_roots) .none kV_whole_roots dc_whole_roots pm_whole_roots an_whole_roots cd_whole_roots ct_whole_roots), sl_whole_roots⟩)
    (c_whole_roots : PySem.W.codeIn K cd_whole_roots "whole_roots" = true)
    (k_whole_roots : PySem.W.keepIn K (.ref f_whole_roots) = true)
    (a__law_draws : PySem.W.nsIn K mainGlobals "_law_draws" = some (some (.ref f__law_draws)))
    (l__law_draws : K.lookup f__law_draws = some ⟨oc__law_draws, od__law_draws, .func (PySem.W.fnOf "_law_draws" "_law_draws" (defArgs s__law_draws) (defBody s__law_draws) (defScope s__law_draws) .none kV__law_draws dc__law_draws pm__law_draws an__law_draws cd__law_draws ct__law_draws), sl__law_draws⟩)
    (c__law_draws : PySem.W.codeIn K cd__law_draws "_law_draws" = true)
    (k__law_draws : PySem.W.keepIn K (.ref f__law_draws) = true)
    (a__law_pick : PySem.W.nsIn K mainGlobals "_law_pick" = some (some (.ref f__law_pick)))
    (l__law_pick : K.lookup f__law_pick = some ⟨oc__law_pick, od__law_pick, .func (PySem.W.fnOf "_law_pick" "_law_pick" (defArgs s__law_pick) (defBody s__law_pick) (defScope s__law_pick) .none kV__law_pick dc__law_pick pm__law_pick an__law_pick cd__law_pick ct__law_pick), sl__law_pick⟩)
    (c__law_pick : PySem.W.codeIn K cd__law_pick "_law_pick" = true)
    (k__law_pick : PySem.W.keepIn K (.ref f__law_pick) = true)
    (a__law_end : PySem.W.nsIn K mainGlobals "_law_end" = some (some (.ref f__law_end)))
    (l__law_end : K.lookup f__law_end = some ⟨oc__law_end, od__law_end, .func (PySem.W.fnOf "_law_end" "_law_end" (defArgs s__law_end) (defBody s__law_end) (defScope s__law_end) .none kV__law_end dc__law_end pm__law_end an__law_end cd__law_end ct__law_end), sl__law_end⟩)
    (c__law_end : PySem.W.codeIn K cd__law_end "_law_end" = true)
    (k__law_end : PySem.W.keepIn K (.ref f__law_end) = true)
    (a__law_mul : PySem.W.nsIn K mainGlobals "_law_mul" = some (some (.ref f__law_mul)))
    (l__law_mul : K.lookup f__law_mul = some ⟨oc__law_mul, od__law_mul, .func (PySem.W.fnOf "_law_mul" "_law_mul" (defArgs s__law_mul) (defBody s__law_mul) (defScope s__law_mul) .none kV__law_mul dc__law_mul pm__law_mul an__law_mul cd__law_mul ct__law_mul), sl__law_mul⟩)
    (c__law_mul : PySem.W.codeIn K cd__law_mul "_law_mul" = true)
    (k__law_mul : PySem.W.keepIn K (.ref f__law_mul) = true)
    (a__law_rooted : PySem.W.nsIn K mainGlobals "_law_rooted" = some (some (.ref f__law_rooted)))
    (l__law_rooted : K.lookup f__law_rooted = some ⟨oc__law_rooted, od__law_rooted, .func (PySem.W.fnOf "_law_rooted" "_law_rooted" (defArgs s__law_rooted) (defBody s__law_rooted) (defScope s__law_rooted) .none kV__law_rooted dc__law_rooted pm__law_rooted an__law_rooted cd__law_rooted ct__law_rooted), sl__law_rooted⟩)
    (c__law_rooted : PySem.W.codeIn K cd__law_rooted "_law_rooted" = true)
    (k__law_rooted : PySem.W.keepIn K (.ref f__law_rooted) = true)
    (a__law_odd_poly : PySem.W.nsIn K mainGlobals "_law_odd_poly" = some (some (.ref f__law_odd_poly)))
    (l__law_odd_poly : K.lookup f__law_odd_poly = some ⟨oc__law_odd_poly, od__law_odd_poly, .func (PySem.W.fnOf "_law_odd_poly" "_law_odd_poly" (defArgs s__law_odd_poly) (defBody s__law_odd_poly) (defScope s__law_odd_poly) .none kV__law_odd_poly dc__law_odd_poly pm__law_odd_poly an__law_odd_poly cd__law_odd_poly ct__law_odd_poly), sl__law_odd_poly⟩)
    (c__law_odd_poly : PySem.W.codeIn K cd__law_odd_poly "_law_odd_poly" = true)
    (k__law_odd_poly : PySem.W.keepIn K (.ref f__law_odd_poly) = true)
    (a__law_wrong : PySem.W.nsIn K mainGlobals "_law_wrong" = some (some (.ref f__law_wrong)))
    (l__law_wrong : K.lookup f__law_wrong = some ⟨oc__law_wrong, od__law_wrong, .func (PySem.W.fnOf "_law_wrong" "_law_wrong" (defArgs s__law_wrong) (defBody s__law_wrong) (defScope s__law_wrong) .none kV__law_wrong dc__law_wrong pm__law_wrong an__law_wrong cd__law_wrong ct__law_wrong), sl__law_wrong⟩)
    (c__law_wrong : PySem.W.codeIn K cd__law_wrong "_law_wrong" = true)
    (k__law_wrong : PySem.W.keepIn K (.ref f__law_wrong) = true)
    (a_law : PySem.W.nsIn K mainGlobals "law" = some (some (.ref f_law)))
    (l_law : K.lookup f_law = some ⟨oc_law, od_law, .func (PySem.W.fnOf "law" "law" (defArgs s_law) (defBody s_law) (defScope s_law) .none kV_law dc_law pm_law an_law cd_law ct_law), sl_law⟩)
    (c_law : PySem.W.codeIn K cd_law "law" = true)
    (k_law : PySem.W.keepIn K (.ref f_law) = true)
    (v_FAR : PySem.W.nsIn K mainGlobals "FAR" = some (some (.int 1000000000 t_FAR)))
    (v_MOST_TERMS : PySem.W.nsIn K mainGlobals "MOST_TERMS" = some (some (.int 13 t_MOST_TERMS)))
    (z_abs : PySem.W.nsIn K mainGlobals "abs" = some none)
    (z_bool : PySem.W.nsIn K mainGlobals "bool" = some none)
    (z_enumerate : PySem.W.nsIn K mainGlobals "enumerate" = some none)
    (z_int : PySem.W.nsIn K mainGlobals "int" = some none)
    (z_isinstance : PySem.W.nsIn K mainGlobals "isinstance" = some none)
    (z_len : PySem.W.nsIn K mainGlobals "len" = some none)
    (z_list : PySem.W.nsIn K mainGlobals "list" = some none)
    (z_max : PySem.W.nsIn K mainGlobals "max" = some none)
    (z_range : PySem.W.nsIn K mainGlobals "range" = some none)
    (z_sorted : PySem.W.nsIn K mainGlobals "sorted" = some none)
    (z_tuple : PySem.W.nsIn K mainGlobals "tuple" = some none)
    (z_zip : PySem.W.nsIn K mainGlobals "zip" = some none)
    (gsp : PySem.W.specialIn K (.builtin "object.__class__") "__get__" = some (some (.builtin "getset_descriptor.__get__")))
    (gtk : PySem.W.takesIn K (.builtin "object.__class__") = some true)
    (aC_BadPoly : PySem.W.nsIn K mainGlobals "BadPoly" = some (some (.ref C_BadPoly)))
    (su_BadPoly : PySem.W.subIn K (.ref C_BadPoly) (.type "BaseException") = some true)
    (ty_BadPoly : PySem.W.typeIn K (.ref C_BadPoly) = some (.type "type"))
    (hd_BadPoly : PySem.W.hasDictIn K C_BadPoly = true)
    (kp_BadPoly : PySem.W.keepIn K (.ref C_BadPoly) = true)
    (cl_BadPoly : (PySem.W.clsIn K C_BadPoly).isSome = true)
    (ga_BadPoly : PySem.W.findIn K (.ref C_BadPoly) "__getattribute__" = some (some (.builtin "BaseException.__getattribute__")))
    (gg_BadPoly : PySem.W.findIn K (.ref C_BadPoly) "__getattr__" = some none)
    (ac_BadPoly : PySem.W.findIn K (.ref C_BadPoly) "__class__" = some (some (.builtin "object.__class__")))
    (mr_BadPoly : PySem.W.mroIn K C_BadPoly (.type "object") = some true)
    (xL_BadPoly : K.lookup C_BadPoly = some (excClassObj nm_BadPoly q_BadPoly C_BadPoly N_BadPoly bs_BadPoly bm_BadPoly true sn_BadPoly sub_BadPoly ab_BadPoly col_BadPoly dd_BadPoly m0_BadPoly m1_BadPoly m2_BadPoly m3_BadPoly m5_BadPoly "ValueError.__new__"))
    (rf_BadPoly : PySem.HandSPX.refsVE bm_BadPoly = true)
    (sa_BadPoly : PySem.W.findIn K (.ref C_BadPoly) "__setattr__" = some (some (.builtin "object.__setattr__")))
    (nf_BadPoly_index : PySem.W.findIn K (.ref C_BadPoly) "index" = some none)
    (iC_BadPoly : PySem.W.findIn K (.ref C_BadPoly) "__init__" = some (some (.ref fi_BadPoly)))
    (tI_BadPoly : PySem.W.typeIn K (.ref fi_BadPoly) = some (.type "function"))
    (li_BadPoly : K.lookup fi_BadPoly = some ⟨oci_BadPoly, odi_BadPoly, .func (PySem.W.fnOf "__init__" "BadPoly.__init__" (defArgs si_BadPoly) (defBody si_BadPoly) (defScope si_BadPoly) .none kVi_BadPoly dci_BadPoly pmi_BadPoly ani_BadPoly cdi_BadPoly cti_BadPoly), sli_BadPoly⟩)
    (ci_BadPoly : PySem.W.codeIn K cdi_BadPoly "BadPoly.__init__" = true)
    (ki_BadPoly : PySem.W.keepIn K (.ref fi_BadPoly) = true)
    (aC_RootError : PySem.W.nsIn K mainGlobals "RootError" = some (some (.ref C_RootError)))
    (aC_Zero : PySem.W.nsIn K mainGlobals "Zero" = some (some (.ref C_Zero)))
    (su_Zero : PySem.W.subIn K (.ref C_Zero) (.type "BaseException") = some true)
    (ty_Zero : PySem.W.typeIn K (.ref C_Zero) = some (.type "type"))
    (hd_Zero : PySem.W.hasDictIn K C_Zero = true)
    (kp_Zero : PySem.W.keepIn K (.ref C_Zero) = true)
    (cl_Zero : (PySem.W.clsIn K C_Zero).isSome = true)
    (ga_Zero : PySem.W.findIn K (.ref C_Zero) "__getattribute__" = some (some (.builtin "BaseException.__getattribute__")))
    (gg_Zero : PySem.W.findIn K (.ref C_Zero) "__getattr__" = some none)
    (ac_Zero : PySem.W.findIn K (.ref C_Zero) "__class__" = some (some (.builtin "object.__class__")))
    (mr_Zero : PySem.W.mroIn K C_Zero (.type "object") = some true)
    (ex_Zero : PySem.W.excIn K C_Zero [.type "ValueError", .type "Exception", .type "BaseException", .type "object"] "ValueError.__new__" = true)
    (x_BadPoly_BadPoly : PySem.W.subIn K (.ref C_BadPoly) (.ref C_BadPoly) = some true)
    (x_BadPoly_Zero : PySem.W.subIn K (.ref C_BadPoly) (.ref C_Zero) = some false)
    (x_Zero_BadPoly : PySem.W.subIn K (.ref C_Zero) (.ref C_BadPoly) = some false)
    (x_Zero_Zero : PySem.W.subIn K (.ref C_Zero) (.ref C_Zero) = some true)
    (kt_BadPoly_RootError : PySem.W.kitOne K (.ref C_BadPoly) (.ref C_RootError) = some true)
    (kt_Zero_RootError : PySem.W.kitOne K (.ref C_Zero) (.ref C_RootError) = some true) :
    ∃ fd : FuncData, (∀ (s : Shared) (v : Value), BindsTo s fd ⟨[v], []⟩ [("_law_script", v)]) ∧ ∀ base : Heap, K.In base → base.Ns mainGlobals mg → FnOk P w K mg base (L2.CX P w) 7 fa fd ["_law_script"] (spLaw K) := by
  have e := hfa.symm.trans (PySem.W.mg_of X G a_law)
  cases e
  have F_is_from := fun_mk (st := s_is_from) l_is_from c_is_from k_is_from
  have b_is_from := F_is_from.binds (ps := ["value", "low", "high"]) fun _ _ _ _ _ _ us hl => match us, hl with | [_, _, _], _ => rfl
  have F_check_poly := fun_mk (st := s_check_poly) l_check_poly c_check_poly k_check_poly
  have b_check_poly := F_check_poly.binds (ps := ["value"]) fun _ _ _ _ _ _ us hl => match us, hl with | [_], _ => rfl
  have F_trimmed := fun_mk (st := s_trimmed) l_trimmed c_trimmed k_trimmed
  have b_trimmed := F_trimmed.binds (ps := ["row"]) fun _ _ _ _ _ _ us hl => match us, hl with | [_], _ => rfl
  have F_plus_of := fun_mk (st := s_plus_of) l_plus_of c_plus_of k_plus_of
  have b_plus_of := F_plus_of.binds (ps := ["one", "other"]) fun _ _ _ _ _ _ us hl => match us, hl with | [_, _], _ => rfl
  have F_scaled := fun_mk (st := s_scaled) l_scaled c_scaled k_scaled
  have b_scaled := F_scaled.binds (ps := ["one", "number"]) fun _ _ _ _ _ _ us hl => match us, hl with | [_, _], _ => rfl
  have F_less_of := fun_mk (st := s_less_of) l_less_of c_less_of k_less_of
  have b_less_of := F_less_of.binds (ps := ["one", "other"]) fun _ _ _ _ _ _ us hl => match us, hl with | [_, _], _ => rfl
  have F_value_of := fun_mk (st := s_value_of) l_value_of c_value_of k_value_of
  have b_value_of := F_value_of.binds (ps := ["one", "number"]) fun _ _ _ _ _ _ us hl => match us, hl with | [_, _], _ => rfl
  have F_quotient := fun_mk (st := s_quotient) l_quotient c_quotient k_quotient
  have b_quotient := F_quotient.binds (ps := ["one", "other"]) fun _ _ _ _ _ _ us hl => match us, hl with | [_, _], _ => rfl
  have F_check_zero := fun_mk (st := s_check_zero) l_check_zero c_check_zero k_check_zero
  have b_check_zero := F_check_zero.binds (ps := ["one"]) fun _ _ _ _ _ _ us hl => match us, hl with | [_], _ => rfl
  have F_candidates := fun_mk (st := s_candidates) l_candidates c_candidates k_candidates
  have b_candidates := F_candidates.binds (ps := ["one"]) fun _ _ _ _ _ _ us hl => match us, hl with | [_], _ => rfl
  have F_whole_roots := fun_mk (st := s_whole_roots) l_whole_roots c_whole_roots k_whole_roots
  have b_whole_roots := F_whole_roots.binds (ps := ["one"]) fun _ _ _ _ _ _ us hl => match us, hl with | [_], _ => rfl
  have F__law_draws := fun_mk (st := s__law_draws) l__law_draws c__law_draws k__law_draws
  have b__law_draws := F__law_draws.binds (ps := ["_law_script"]) fun _ _ _ _ _ _ us hl => match us, hl with | [_], _ => rfl
  have F__law_pick := fun_mk (st := s__law_pick) l__law_pick c__law_pick k__law_pick
  have b__law_pick := F__law_pick.binds (ps := ["_law_row", "_law_many"]) fun _ _ _ _ _ _ us hl => match us, hl with | [_, _], _ => rfl
  have F__law_end := fun_mk (st := s__law_end) l__law_end c__law_end k__law_end
  have b__law_end := F__law_end.binds (ps := ["_law_numbers"]) fun _ _ _ _ _ _ us hl => match us, hl with | [_], _ => rfl
  have F__law_mul := fun_mk (st := s__law_mul) l__law_mul c__law_mul k__law_mul
  have b__law_mul := F__law_mul.binds (ps := ["_law_a", "_law_b"]) fun _ _ _ _ _ _ us hl => match us, hl with | [_, _], _ => rfl
  have F__law_rooted := fun_mk (st := s__law_rooted) l__law_rooted c__law_rooted k__law_rooted
  have b__law_rooted := F__law_rooted.binds (ps := ["_law_row", "_law_most"]) fun _ _ _ _ _ _ us hl => match us, hl with | [_, _], _ => rfl
  have F__law_odd_poly := fun_mk (st := s__law_odd_poly) l__law_odd_poly c__law_odd_poly k__law_odd_poly
  have b__law_odd_poly := F__law_odd_poly.binds (ps := ["_law_row"]) fun _ _ _ _ _ _ us hl => match us, hl with | [_], _ => rfl
  have F__law_wrong := fun_mk (st := s__law_wrong) l__law_wrong c__law_wrong k__law_wrong
  have b__law_wrong := F__law_wrong.binds (ps := ["_law_one"]) fun _ _ _ _ _ _ us hl => match us, hl with | [_], _ => rfl
  have F_law := fun_mk (st := s_law) l_law c_law k_law
  have b_law := F_law.binds (ps := ["_law_script"]) fun _ _ _ _ _ _ us hl => match us, hl with | [_], _ => rfl
  have e_BadPoly : EcK K C_BadPoly := ⟨kp_BadPoly, su_BadPoly, ty_BadPoly, cl_BadPoly, hd_BadPoly, ga_BadPoly, gg_BadPoly, ac_BadPoly, gsp, gtk, mr_BadPoly⟩
  have Fi_BadPoly := fun_mk (st := si_BadPoly) li_BadPoly ci_BadPoly ki_BadPoly
  have bi_BadPoly := Fi_BadPoly.binds (ps := ["self", "index"]) fun _ _ _ _ _ _ us hl => match us, hl with | [_, _], _ => rfl
  have ox_BadPoly : OexC K C_BadPoly := ⟨⟨_, _, _, _, _, _, _, _, _, _, _, _, _, _, _, xL_BadPoly, rf_BadPoly⟩, sa_BadPoly, su_BadPoly, ty_BadPoly, kp_BadPoly⟩
  have e_Zero : EcK K C_Zero := ⟨kp_Zero, su_Zero, ty_Zero, cl_Zero, hd_Zero, ga_Zero, gg_Zero, ac_Zero, gsp, gtk, mr_Zero⟩
  exact ⟨_, fun s v => .of_eq rfl, fun base _ _ => (ok_all (A0 := ⟨f_is_from, _, f_check_poly, _, f_trimmed, _, f_plus_of, _, f_scaled, _, f_less_of, _, f_value_of, _, f_quotient, _, f_check_zero, _, f_candidates, _, f_whole_roots, _, f__law_draws, _, f__law_pick, _, f__law_end, _, f__law_mul, _, f__law_rooted, _, f__law_odd_poly, _, f__law_wrong, _, fa, _, C_BadPoly, C_RootError, C_Zero, fi_BadPoly, _, t_FAR, t_MOST_TERMS, ()⟩) ⟨F_is_from, b_is_from, PySem.W.mg_of X G a_is_from, F_check_poly, b_check_poly, PySem.W.mg_of X G a_check_poly, F_trimmed, b_trimmed, PySem.W.mg_of X G a_trimmed, F_plus_of, b_plus_of, PySem.W.mg_of X G a_plus_of, F_scaled, b_scaled, PySem.W.mg_of X G a_scaled, F_less_of, b_less_of, PySem.W.mg_of X G a_less_of, F_value_of, b_value_of, PySem.W.mg_of X G a_value_of, F_quotient, b_quotient, PySem.W.mg_of X G a_quotient, F_check_zero, b_check_zero, PySem.W.mg_of X G a_check_zero, F_candidates, b_candidates, PySem.W.mg_of X G a_candidates, F_whole_roots, b_whole_roots, PySem.W.mg_of X G a_whole_roots, F__law_draws, b__law_draws, PySem.W.mg_of X G a__law_draws, F__law_pick, b__law_pick, PySem.W.mg_of X G a__law_pick, F__law_end, b__law_end, PySem.W.mg_of X G a__law_end, F__law_mul, b__law_mul, PySem.W.mg_of X G a__law_mul, F__law_rooted, b__law_rooted, PySem.W.mg_of X G a__law_rooted, F__law_odd_poly, b__law_odd_poly, PySem.W.mg_of X G a__law_odd_poly, F__law_wrong, b__law_wrong, PySem.W.mg_of X G a__law_wrong, F_law, b_law, PySem.W.mg_of X G a_law, PySem.W.mg_of X G v_FAR, PySem.W.mg_of X G v_MOST_TERMS, PySem.W.mg_none_of X G z_abs, PySem.W.mg_none_of X G z_bool, PySem.W.mg_none_of X G z_enumerate, PySem.W.mg_none_of X G z_int, PySem.W.mg_none_of X G z_isinstance, PySem.W.mg_none_of X G z_len, PySem.W.mg_none_of X G z_list, PySem.W.mg_none_of X G z_max, PySem.W.mg_none_of X G z_range, PySem.W.mg_none_of X G z_sorted, PySem.W.mg_none_of X G z_tuple, PySem.W.mg_none_of X G z_zip, PySem.W.mg_of X G aC_BadPoly, e_BadPoly, ⟨ox_BadPoly, e_BadPoly, (mem_c nf_BadPoly_index (fun _ z => (List.not_mem_nil z).elim)), iC_BadPoly, tI_BadPoly, init1_ok Fi_BadPoly sci_BadPoly rfl (by first | exact .inl rfl | exact .inr (.inl rfl)) (by first | exact .inl rfl | exact .inr (.inl rfl)) rfl rfl, bi_BadPoly⟩, PySem.W.mg_of X G aC_RootError, PySem.W.mg_of X G aC_Zero, e_Zero, ⟨e_Zero, ex_Zero⟩, PySem.W.exm_ref su_BadPoly hd_BadPoly ty_BadPoly x_BadPoly_BadPoly, PySem.W.exm_ref su_Zero hd_Zero ty_Zero x_BadPoly_Zero, PySem.W.exm_ref su_BadPoly hd_BadPoly ty_BadPoly x_Zero_BadPoly, PySem.W.exm_ref su_Zero hd_Zero ty_Zero x_Zero_Zero, kt_BadPoly_RootError, kt_Zero_RootError, ⟨ga_BadPoly, gg_BadPoly, su_BadPoly, hd_BadPoly⟩, nf_BadPoly_index, trivial⟩).imp fun vs H Q E hs => sp_law hs fun ns => m_law_true ns⟩
end L3
open PySem PySem.W PyProof.Rows
set_option maxRecDepth 100000 in
set_option maxHeartbeats 0 in
theorem PySem.Challenge.cw_fewroots_k03_whole_roots_holds : PySem.Challenge.rw_fewroots_k03_whole_roots.Holds := by
  w_on; o_law; k_head; (case hw => w_witness2)
  k_fill
  refine L2.walk_of (l := PySem.Challenge.rw_fewroots_k03_whole_roots) (n := 63) (k := 7) (x := "_law_script") (CX := fun w => L2.CX PySem.Challenge.rw_fewroots_k03_whole_roots.prog w) (sp := fun w => L3.spLaw _) rfl (by decide) rfl ⟨rfl, by decide, by decide⟩ (fun w h Y => PySem.W.kIn_of Y) ?F (fun _ _ a ns hl _ hS => ⟨a, ns, rfl, hS, fun _ => rfl⟩) (fun _ _ _ _ _ h => L3.cx_no h)
  case F =>
    intro w mg fa h KX G hmg
    refine' L3.all_mk KX G hmg ?a_is_from ?l_is_from ?c_is_from ?k_is_from ?a_check_poly ?l_check_poly ?c_check_poly ?k_check_poly ?a_trimmed ?l_trimmed ?c_trimmed ?k_trimmed ?a_plus_of ?l_plus_of ?c_plus_of ?k_plus_of ?a_scaled ?l_scaled ?c_scaled ?k_scaled ?a_less_of ?l_less_of ?c_less_of ?k_less_of ?a_value_of ?l_value_of ?c_value_of ?k_value_of ?a_quotient ?l_quotient ?c_quotient ?k_quotient ?a_check_zero ?l_check_zero ?c_check_zero ?k_check_zero ?a_candidates ?l_candidates ?c_candidates ?k_candidates ?a_whole_roots ?l_whole_roots ?c_whole_roots ?k_whole_roots ?a__law_draws ?l__law_draws ?c__law_draws ?k__law_draws ?a__law_pick ?l__law_pick ?c__law_pick ?k__law_pick ?a__law_end ?l__law_end ?c__law_end ?k__law_end ?a__law_mul ?l__law_mul ?c__law_mul ?k__law_mul ?a__law_rooted ?l__law_rooted ?c__law_rooted ?k__law_rooted ?a__law_odd_poly ?l__law_odd_poly ?c__law_odd_poly ?k__law_odd_poly ?a__law_wrong ?l__law_wrong ?c__law_wrong ?k__law_wrong ?a_law ?l_law ?c_law ?k_law ?v_FAR ?v_MOST_TERMS ?z_abs ?z_bool ?z_enumerate ?z_int ?z_isinstance ?z_len ?z_list ?z_max ?z_range ?z_sorted ?z_tuple ?z_zip ?gsp ?gtk ?aC_BadPoly ?su_BadPoly ?ty_BadPoly ?hd_BadPoly ?kp_BadPoly ?cl_BadPoly ?ga_BadPoly ?gg_BadPoly ?ac_BadPoly ?mr_BadPoly ?xL_BadPoly ?rf_BadPoly ?sa_BadPoly ?nf_BadPoly_index ?iC_BadPoly ?tI_BadPoly ?li_BadPoly ?ci_BadPoly ?ki_BadPoly ?aC_RootError ?aC_Zero ?su_Zero ?ty_Zero ?hd_Zero ?kp_Zero ?cl_Zero ?ga_Zero ?gg_Zero ?ac_Zero ?mr_Zero ?ex_Zero ?x_BadPoly_BadPoly ?x_BadPoly_Zero ?x_Zero_BadPoly ?x_Zero_Zero ?kt_BadPoly_RootError ?kt_Zero_RootError
    (case a_is_from => first | k_is | kit_is | k_exc | rfl)
    (case l_is_from => first | k_is | kit_is | k_exc | rfl)
    (case c_is_from => first | k_is | kit_is | k_exc | rfl)
    (case k_is_from => first | k_is | kit_is | k_exc | rfl)
    (case a_check_poly => first | k_is | kit_is | k_exc | rfl)
    (case l_check_poly => first | k_is | kit_is | k_exc | rfl)
    (case c_check_poly => first | k_is | kit_is | k_exc | rfl)
    (case k_check_poly => first | k_is | kit_is | k_exc | rfl)
    (case a_trimmed => first | k_is | kit_is | k_exc | rfl)
    (case l_trimmed => first | k_is | kit_is | k_exc | rfl)
    (case c_trimmed => first | k_is | kit_is | k_exc | rfl)
    (case k_trimmed => first | k_is | kit_is | k_exc | rfl)
    (case a_plus_of => first | k_is | kit_is | k_exc | rfl)
    (case l_plus_of => first | k_is | kit_is | k_exc | rfl)
    (case c_plus_of => first | k_is | kit_is | k_exc | rfl)
    (case k_plus_of => first | k_is | kit_is | k_exc | rfl)
    (case a_scaled => first | k_is | kit_is | k_exc | rfl)
    (case l_scaled => first | k_is | kit_is | k_exc | rfl)
    (case c_scaled => first | k_is | kit_is | k_exc | rfl)
    (case k_scaled => first | k_is | kit_is | k_exc | rfl)
    (case a_less_of => first | k_is | kit_is | k_exc | rfl)
    (case l_less_of => first | k_is | kit_is | k_exc | rfl)
    (case c_less_of => first | k_is | kit_is | k_exc | rfl)
    (case k_less_of => first | k_is | kit_is | k_exc | rfl)
    (case a_value_of => first | k_is | kit_is | k_exc | rfl)
    (case l_value_of => first | k_is | kit_is | k_exc | rfl)
    (case c_value_of => first | k_is | kit_is | k_exc | rfl)
    (case k_value_of => first | k_is | kit_is | k_exc | rfl)
    (case a_quotient => first | k_is | kit_is | k_exc | rfl)
    (case l_quotient => first | k_is | kit_is | k_exc | rfl)
    (case c_quotient => first | k_is | kit_is | k_exc | rfl)
    (case k_quotient => first | k_is | kit_is | k_exc | rfl)
    (case a_check_zero => first | k_is | kit_is | k_exc | rfl)
    (case l_check_zero => first | k_is | kit_is | k_exc | rfl)
    (case c_check_zero => first | k_is | kit_is | k_exc | rfl)
    (case k_check_zero => first | k_is | kit_is | k_exc | rfl)
    (case a_candidates => first | k_is | kit_is | k_exc | rfl)
    (case l_candidates => first | k_is | kit_is | k_exc | rfl)
    (case c_candidates => first | k_is | kit_is | k_exc | rfl)
    (case k_candidates => first | k_is | kit_is | k_exc | rfl)
    (case a_whole_roots => first | k_is | kit_is | k_exc | rfl)
    (case l_whole_roots => first | k_is | kit_is | k_exc | rfl)
    (case c_whole_roots => first | k_is | kit_is | k_exc | rfl)
    (case k_whole_roots => first | k_is | kit_is | k_exc | rfl)
    (case a__law_draws => first | k_is | kit_is | k_exc | rfl)
    (case l__law_draws => first | k_is | kit_is | k_exc | rfl)
    (case c__law_draws => first | k_is | kit_is | k_exc | rfl)
    (case k__law_draws => first | k_is | kit_is | k_exc | rfl)
    (case a__law_pick => first | k_is | kit_is | k_exc | rfl)
    (case l__law_pick => first | k_is | kit_is | k_exc | rfl)
    (case c__law_pick => first | k_is | kit_is | k_exc | rfl)
    (case k__law_pick => first | k_is | kit_is | k_exc | rfl)
    (case a__law_end => first | k_is | kit_is | k_exc | rfl)
    (case l__law_end => first | k_is | kit_is | k_exc | rfl)
    (case c__law_end => first | k_is | kit_is | k_exc | rfl)
    (case k__law_end => first | k_is | kit_is | k_exc | rfl)
    (case a__law_mul => first | k_is | kit_is | k_exc | rfl)
    (case l__law_mul => first | k_is | kit_is | k_exc | rfl)
    (case c__law_mul => first | k_is | kit_is | k_exc | rfl)
    (case k__law_mul => first | k_is | kit_is | k_exc | rfl)
    (case a__law_rooted => first | k_is | kit_is | k_exc | rfl)
    (case l__law_rooted => first | k_is | kit_is | k_exc | rfl)
    (case c__law_rooted => first | k_is | kit_is | k_exc | rfl)
    (case k__law_rooted => first | k_is | kit_is | k_exc | rfl)
    (case a__law_odd_poly => first | k_is | kit_is | k_exc | rfl)
    (case l__law_odd_poly => first | k_is | kit_is | k_exc | rfl)
    (case c__law_odd_poly => first | k_is | kit_is | k_exc | rfl)
    (case k__law_odd_poly => first | k_is | kit_is | k_exc | rfl)
    (case a__law_wrong => first | k_is | kit_is | k_exc | rfl)
    (case l__law_wrong => first | k_is | kit_is | k_exc | rfl)
    (case c__law_wrong => first | k_is | kit_is | k_exc | rfl)
    (case k__law_wrong => first | k_is | kit_is | k_exc | rfl)
    (case a_law => first | k_is | kit_is | k_exc | rfl)
    (case l_law => first | k_is | kit_is | k_exc | rfl)
    (case c_law => first | k_is | kit_is | k_exc | rfl)
    (case k_law => first | k_is | kit_is | k_exc | rfl)
    (case v_FAR => first | k_is | kit_is | k_exc | rfl)
    (case v_MOST_TERMS => first | k_is | kit_is | k_exc | rfl)
    (case z_abs => first | k_is | kit_is | k_exc | rfl)
    (case z_bool => first | k_is | kit_is | k_exc | rfl)
    (case z_enumerate => first | k_is | kit_is | k_exc | rfl)
    (case z_int => first | k_is | kit_is | k_exc | rfl)
    (case z_isinstance => first | k_is | kit_is | k_exc | rfl)
    (case z_len => first | k_is | kit_is | k_exc | rfl)
    (case z_list => first | k_is | kit_is | k_exc | rfl)
    (case z_max => first | k_is | kit_is | k_exc | rfl)
    (case z_range => first | k_is | kit_is | k_exc | rfl)
    (case z_sorted => first | k_is | kit_is | k_exc | rfl)
    (case z_tuple => first | k_is | kit_is | k_exc | rfl)
    (case z_zip => first | k_is | kit_is | k_exc | rfl)
    (case gsp => first | k_is | kit_is | k_exc | rfl)
    (case gtk => first | k_is | kit_is | k_exc | rfl)
    (case aC_BadPoly => first | k_is | kit_is | k_exc | rfl)
    (case su_BadPoly => first | k_is | kit_is | k_exc | rfl)
    (case ty_BadPoly => first | k_is | kit_is | k_exc | rfl)
    (case hd_BadPoly => first | k_is | kit_is | k_exc | rfl)
    (case kp_BadPoly => first | k_is | kit_is | k_exc | rfl)
    (case cl_BadPoly => first | k_is | kit_is | k_exc | rfl)
    (case ga_BadPoly => first | k_is | kit_is | k_exc | rfl)
    (case gg_BadPoly => first | k_is | kit_is | k_exc | rfl)
    (case ac_BadPoly => first | k_is | kit_is | k_exc | rfl)
    (case mr_BadPoly => first | k_is | kit_is | k_exc | rfl)
    (case xL_BadPoly => first | k_is | kit_is | k_exc | rfl)
    (case rf_BadPoly => first | k_is | kit_is | k_exc | rfl)
    (case sa_BadPoly => first | k_is | kit_is | k_exc | rfl)
    (case nf_BadPoly_index => first | k_is | kit_is | k_exc | rfl)
    (case iC_BadPoly => first | k_is | kit_is | k_exc | rfl)
    (case tI_BadPoly => first | k_is | kit_is | k_exc | rfl)
    (case li_BadPoly => first | k_is | kit_is | k_exc | rfl)
    (case ci_BadPoly => first | k_is | kit_is | k_exc | rfl)
    (case ki_BadPoly => first | k_is | kit_is | k_exc | rfl)
    (case aC_RootError => first | k_is | kit_is | k_exc | rfl)
    (case aC_Zero => first | k_is | kit_is | k_exc | rfl)
    (case su_Zero => first | k_is | kit_is | k_exc | rfl)
    (case ty_Zero => first | k_is | kit_is | k_exc | rfl)
    (case hd_Zero => first | k_is | kit_is | k_exc | rfl)
    (case kp_Zero => first | k_is | kit_is | k_exc | rfl)
    (case cl_Zero => first | k_is | kit_is | k_exc | rfl)
    (case ga_Zero => first | k_is | kit_is | k_exc | rfl)
    (case gg_Zero => first | k_is | kit_is | k_exc | rfl)
    (case ac_Zero => first | k_is | kit_is | k_exc | rfl)
    (case mr_Zero => first | k_is | kit_is | k_exc | rfl)
    (case ex_Zero => first | k_is | kit_is | k_exc | rfl)
    (case x_BadPoly_BadPoly => first | k_is | kit_is | k_exc | rfl)
    (case x_BadPoly_Zero => first | k_is | kit_is | k_exc | rfl)
    (case x_Zero_BadPoly => first | k_is | kit_is | k_exc | rfl)
    (case x_Zero_Zero => first | k_is | kit_is | k_exc | rfl)
    (case kt_BadPoly_RootError => first | k_is | kit_is | k_exc | rfl)
    (case kt_Zero_RootError => first | k_is | kit_is | k_exc | rfl)


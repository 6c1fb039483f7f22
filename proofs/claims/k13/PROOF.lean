import PyProof.Rows.All
import Wide.All
import OpenK.AllK
import Wide.FinOn
import HandS.ForMost
import HandS.ForExc
import HandS.Wide
import HandS.Zip
import KE.GoesEnum
import HandS.TupMul
import HandS.IsInst
import HandS.Deep
import HandS.ExcInit
import HandS.ExcField
import HandS.TryMany
import KE.KExcIs
import HandS.ExcIs
import HandS.Star
import HandS.Dict
import HandS.Style
import HandS.DictComp
import HandS.WordsDict
import HandS.Small
import HandS.Flt
import HandS.Text
import HandS.Steps
import PyProof.StrOps2
import KE.KExcPX
import PySem.Challenge.RW_fewroots_k13_texts_refused
set_option Elab.async false
set_option linter.all false
set_option maxRecDepth 100000
namespace L3
open PySem PySem.Spec L2

abbrev D := PyData
/-! ### what a value stands for, in the frozen part F of the heap -/
def kD : Key → D
  | .inl i => .int i
  | .inr x => .str x
mutual
inductive Rp (K : PySem.W.Frag) (F : Hp) : V → D → Prop
  | non : Rp K F .non .none
  | bl (b : Bool) : Rp K F (.bl b) (.bool b)
  | int (i : Int) : Rp K F (.int i) (.int i)
  | str (x : Str) : Rp K F (.str x) (.str x)
  | lst {a : Addr} {vs : List V} {ds : List D} : SqL K F a vs → RpA K F vs ds → Rp K F (.ref a) (.list ds)
  | tup {a : Addr} {vs : List V} {ds : List D} : SqT K F a vs → RpA K F vs ds → Rp K F (.ref a) (.tuple ds)
  | dct {a : Addr} {kvs : List (Key × V)} {es : List (D × D)} : F a = some (.dK kvs) → RpK K F kvs es → Rp K F (.ref a) (.dict es)
inductive RpA (K : PySem.W.Frag) (F : Hp) : List V → List D → Prop
  | nil : RpA K F [] []
  | cons {v : V} {vs : List V} {d : D} {ds : List D} : Rp K F v d → RpA K F vs ds → RpA K F (v :: vs) (d :: ds)
inductive RpK (K : PySem.W.Frag) (F : Hp) : List (Key × V) → List (D × D) → Prop
  | nil : RpK K F [] []
  | cons {k : Key} {v : V} {kvs : List (Key × V)} {d : D} {es : List (D × D)} : Rp K F v d → RpK K F kvs es → RpK K F ((k, v) :: kvs) ((kD k, d) :: es)
end
theorem sameT {K : PySem.W.Frag} {F F' : Hp} {a : Addr} {xs : List V} (e : Same F F') (h : SqT K F a xs) : SqT K F' a xs := by
  rcases h with (h | ⟨o, h⟩) | h
  · exact .inl (.inl (e _ _ h))
  · exact .inl (.inr ⟨o, e _ _ h⟩)
  · exact .inr h
section
variable {K : PySem.W.Frag} {F F' : Hp}
mutual
theorem Rp.mono (e : Same F F') : ∀ {v : V} {d : D}, Rp K F v d → Rp K F' v d
  | _, _, .non => .non
  | _, _, .bl b => .bl b
  | _, _, .int i => .int i
  | _, _, .str x => .str x
  | _, _, .lst h r => .lst (e.seq h) (RpA.mono e r)
  | _, _, .tup h r => .tup (sameT e h) (RpA.mono e r)
  | _, _, .dct h r => .dct (e _ _ h) (RpK.mono e r)
theorem RpA.mono (e : Same F F') : ∀ {vs : List V} {ds : List D}, RpA K F vs ds → RpA K F' vs ds
  | _, _, .nil => .nil
  | _, _, .cons h r => .cons (Rp.mono e h) (RpA.mono e r)
theorem RpK.mono (e : Same F F') : ∀ {vs : List (Key × V)} {ds : List (D × D)}, RpK K F vs ds → RpK K F' vs ds
  | _, _, .nil => .nil
  | _, _, .cons h r => .cons (Rp.mono e h) (RpK.mono e r)
end
theorem RpA.length : ∀ {vs : List V} {ds : List D}, RpA K F vs ds → vs.length = ds.length
  | _, _, .nil => rfl
  | _, _, .cons _ r => by rw [List.length_cons, List.length_cons, RpA.length r]
theorem RpA.get : ∀ {vs : List V} {ds : List D} {i : Nat} {d : D}, RpA K F vs ds → ds[i]? = some d → ∃ v, vs[i]? = some v ∧ Rp K F v d
  | _, _, _, _, .nil, e => by simp at e
  | _, _, 0, _, .cons h _, e => by
    simp only [List.getElem?_cons_zero, Option.some.injEq] at e
    subst e
    exact ⟨_, rfl, h⟩
  | _, _, i + 1, _, .cons _ r, e => by
    rw [List.getElem?_cons_succ] at e
    obtain ⟨v, h1, h2⟩ := RpA.get r e
    exact ⟨v, by rw [List.getElem?_cons_succ]; exact h1, h2⟩
theorem RpA.getV : ∀ {vs : List V} {ds : List D} {i : Nat} {v : V}, RpA K F vs ds → vs[i]? = some v → ∃ d, ds[i]? = some d ∧ Rp K F v d
  | _, _, _, _, .nil, e => by simp at e
  | _, _, 0, _, .cons h _, e => by
    simp only [List.getElem?_cons_zero, Option.some.injEq] at e
    subst e
    exact ⟨_, rfl, h⟩
  | _, _, i + 1, _, .cons _ r, e => by
    rw [List.getElem?_cons_succ] at e
    obtain ⟨v, h1, h2⟩ := RpA.getV r e
    exact ⟨v, by rw [List.getElem?_cons_succ]; exact h1, h2⟩
theorem RpA.append : ∀ {vs ws : List V} {ds es : List D}, RpA K F vs ds → RpA K F ws es → RpA K F (vs ++ ws) (ds ++ es)
  | _, _, _, _, .nil, s => s
  | _, _, _, _, .cons h r, s => .cons h (RpA.append r s)
theorem RpA.take : ∀ {vs : List V} {ds : List D} (n : Nat), RpA K F vs ds → RpA K F (vs.take n) (ds.take n)
  | _, _, 0, _ => .nil
  | _, _, _ + 1, .nil => .nil
  | _, _, n + 1, .cons h r => .cons h (RpA.take n r)
theorem RpA.drop : ∀ {vs : List V} {ds : List D} (n : Nat), RpA K F vs ds → RpA K F (vs.drop n) (ds.drop n)
  | _, _, 0, r => r
  | _, _, _ + 1, .nil => .nil
  | _, _, n + 1, .cons _ r => RpA.drop n r
theorem RpA.set : ∀ {vs : List V} {ds : List D} (i : Nat) {v : V} {d : D}, Rp K F v d → RpA K F vs ds → RpA K F (vs.set i v) (ds.set i d)
  | _, _, _, _, _, _, .nil => .nil
  | _, _, 0, _, _, q, .cons _ r => .cons q r
  | _, _, i + 1, _, _, q, .cons h r => .cons h (RpA.set i q r)
theorem RpA.reverse {vs : List V} {ds : List D} (h : RpA K F vs ds) : RpA K F vs.reverse ds.reverse := by
  induction vs generalizing ds with
  | nil => cases h; exact .nil
  | cons v vs ih =>
    cases h with
    | cons h r =>
      rw [List.reverse_cons, List.reverse_cons]
      exact RpA.append (ih r) (.cons h .nil)
theorem RpA.rep {vs : List V} {ds : List D} (h : RpA K F vs ds) : ∀ k : Nat, RpA K F (List.replicate k vs).flatten (List.replicate k ds).flatten
  | 0 => .nil
  | k + 1 => by
    rw [List.replicate_succ, List.replicate_succ, List.flatten_cons, List.flatten_cons]
    exact RpA.append h (RpA.rep h k)
theorem RpA.eraseIdx : ∀ {vs : List V} {ds : List D} (i : Nat), RpA K F vs ds → RpA K F (vs.eraseIdx i) (ds.eraseIdx i)
  | _, _, _, .nil => .nil
  | _, _, 0, .cons _ r => r
  | _, _, i + 1, .cons h r => .cons h (RpA.eraseIdx i r)
theorem RpA.dropLast {vs : List V} {ds : List D} (h : RpA K F vs ds) : RpA K F vs.dropLast ds.dropLast := by
  rw [List.dropLast_eq_take, List.dropLast_eq_take, h.length]
  exact h.take _
theorem RpA.ints : ∀ {ns : List Int} {vs : List V}, RpA K F vs (ns.map PyData.int) → vs = ns.map V.int
  | [], _, h => by cases h; rfl
  | n :: ns, _, h => by
    cases h with
    | cons h r =>
      cases h
      rw [RpA.ints r]
      rfl
theorem RpA.bools : ∀ {ns : List Bool} {vs : List V}, RpA K F vs (ns.map PyData.bool) → vs = ns.map V.bl
  | [], _, h => by cases h; rfl
  | n :: ns, _, h => by
    cases h with
    | cons h r =>
      cases h
      rw [RpA.bools r]
      rfl
theorem RpA.strs : ∀ {ns : List Str} {vs : List V}, RpA K F vs (ns.map PyData.str) → vs = ns.map V.str
  | [], _, h => by cases h; rfl
  | n :: ns, _, h => by
    cases h with
    | cons h r =>
      cases h
      rw [RpA.strs r]
      rfl
theorem RpA.of_ints : ∀ (ns : List Int), RpA K F (ns.map V.int) (ns.map PyData.int)
  | [] => .nil
  | n :: ns => .cons (.int n) (RpA.of_ints ns)
theorem RpA.of_strs : ∀ (ns : List Str), RpA K F (ns.map V.str) (ns.map PyData.str)
  | [] => .nil
  | n :: ns => .cons (.str n) (RpA.of_strs ns)
mutual
theorem Rp.dp : ∀ {d : D} {v : V}, Rp K F v d → d.canLay0 = true → Dp K F v d
  | .none, _, h, _ => by cases h; exact .non
  | .bool b, _, h, _ => by cases h; exact .bl b
  | .int i, _, h, _ => by cases h; exact .int i
  | .str x, _, h, _ => by cases h; exact .str x
  | .list ds, _, h, c => by
    cases h with
    | lst h r => exact .lst h (RpA.dp r (by simpa [PyData.canLay0] using c))
  | .tuple ds, _, h, c => by
    cases h with
    | tup h r => exact .tup h (RpA.dp r (by simpa [PyData.canLay0] using c))
  | .dict es, _, h, c => by simp [PyData.canLay0] at c
theorem RpA.dp : ∀ {ds : List D} {vs : List V}, RpA K F vs ds → PyData.canLayAll0 ds = true → DpAll K F vs ds
  | [], _, h, _ => by cases h; exact .nil
  | d :: ds, _, h, c => by
    cases h with
    | cons h r =>
      have c' : d.canLay0 = true ∧ PyData.canLayAll0 ds = true := by simpa [PyData.canLayAll0] using c
      exact .cons (Rp.dp h c'.1) (RpA.dp r c'.2)
end
end

/-! ### cells: frozen data, or an object of one's own -/
inductive Cl where
  | fz (d : D)
  | lst (ds : List D)
  | dct (es : List (Key × D))
  | dtt (es : List (List Key × D))
  | dlk (es : List (Key × D))
  | ins (c : Str) (fs : List (Str × D))
abbrev Cl.i (n : Int) : Cl := .fz (.int n)
abbrev Cl.b (n : Bool) : Cl := .fz (.bool n)
abbrev Cl.t (ns : List D) : Cl := .fz (.tuple ns)

inductive RpKs (K : PySem.W.Frag) (F : Hp) {κ : Type} : List (κ × V) → List (κ × D) → Prop
  | nil : RpKs K F [] []
  | cons {k : κ} {v : V} {kvs : List (κ × V)} {d : D} {es : List (κ × D)} : Rp K F v d → RpKs K F kvs es → RpKs K F ((k, v) :: kvs) ((k, d) :: es)
theorem RpKs.mono {K : PySem.W.Frag} {F F' : Hp} {κ : Type} (e : Same F F') : ∀ {vs : List (κ × V)} {ds : List (κ × D)}, RpKs K F vs ds → RpKs K F' vs ds
  | _, _, .nil => .nil
  | _, _, .cons h r => .cons (Rp.mono e h) (RpKs.mono e r)

inductive CR (K : PySem.W.Frag) (cl : Str → Addr → Prop) (F H : Hp) : Cl → V → List Addr → Prop
  | fz {d : D} {v : V} : Rp K F v d → CR K cl F H (.fz d) v []
  | lst {a : Addr} {vs : List V} {ds : List D} : H a = some (.lst vs) → F a = none → RpA K F vs ds → CR K cl F H (.lst ds) (.ref a) [a]
  | dct {a : Addr} {kvs : List (Key × V)} {es : List (Key × D)} : H a = some (.dK kvs) → F a = none → RpKs K F kvs es → CR K cl F H (.dct es) (.ref a) [a]
  | dtt {a : Addr} {kvs : List (List Key × V)} {es : List (List Key × D)} : H a = some (.dT kvs) → F a = none → RpKs K F kvs es → CR K cl F H (.dtt es) (.ref a) [a]
  | dlk {a : Addr} {o : Obj} {kvs : List (Key × V)} {es : List (Key × D)} : F a = some (.frz o (.dK kvs)) → RpKs K F kvs es → CR K cl F H (.dlk es) (.ref a) []
  | ins {a C dx : Addr} {c : Str} {kvs : List (Str × V)} {es : List (Str × D)} : cl c C → H a = some (.ins C dx kvs) → F a = none → F dx = some (.own a) → RpKs K F kvs es → CR K cl F H (.ins c es) (.ref a) [a]
theorem CR.mono {K : PySem.W.Frag} {cl : Str → Addr → Prop} {F F' H H' : Hp} {c : Cl} {v : V} {A : List Addr} (e : Same F F') (h : CR K cl F H c v A) (hA : ∀ a ∈ A, F' a = none ∧ H' a = H a) : CR K cl F' H' c v A := by
  cases h with
  | fz r => exact .fz (r.mono e)
  | lst h1 h2 r => exact .lst ((hA _ (List.mem_singleton.mpr rfl)).2.trans h1) (hA _ (List.mem_singleton.mpr rfl)).1 (r.mono e)
  | dct h1 h2 r => exact .dct ((hA _ (List.mem_singleton.mpr rfl)).2.trans h1) (hA _ (List.mem_singleton.mpr rfl)).1 (r.mono e)
  | dtt h1 h2 r => exact .dtt ((hA _ (List.mem_singleton.mpr rfl)).2.trans h1) (hA _ (List.mem_singleton.mpr rfl)).1 (r.mono e)
  | dlk h1 r => exact .dlk (e _ _ h1) (r.mono e)
  | ins hc h1 h2 h3 r => exact .ins hc ((hA _ (List.mem_singleton.mpr rfl)).2.trans h1) (hA _ (List.mem_singleton.mpr rfl)).1 (e _ _ h3) (r.mono e)
theorem CR.fr {K : PySem.W.Frag} {cl : Str → Addr → Prop} {F H : Hp} {c : Cl} {v : V} {A : List Addr} (h : CR K cl F H c v A) : ∀ a ∈ A, F a = none ∧ ∃ o, H a = some o := by
  intro a ha
  cases h with
  | fz r => cases ha
  | lst h1 h2 r => rw [List.mem_singleton.mp ha]; exact ⟨h2, _, h1⟩
  | dct h1 h2 r => rw [List.mem_singleton.mp ha]; exact ⟨h2, _, h1⟩
  | dtt h1 h2 r => rw [List.mem_singleton.mp ha]; exact ⟨h2, _, h1⟩
  | dlk h1 r => cases ha
  | ins hc h1 h2 h3 r => rw [List.mem_singleton.mp ha]; exact ⟨h2, _, h1⟩

inductive HL (K : PySem.W.Frag) (cl : Str → Addr → Prop) (F H : Hp) : List (Cl × V) → List Addr → Prop
  | nil : HL K cl F H [] []
  | cons {c : Cl} {v : V} {L : List (Cl × V)} {A B : List Addr} : CR K cl F H c v A → HL K cl F H L B → HL K cl F H ((c, v) :: L) (A ++ B)
section
variable {K : PySem.W.Frag} {cl : Str → Addr → Prop} {F F' H H' : Hp}
theorem HL.mono (e : Same F F') : ∀ {L : List (Cl × V)} {A : List Addr}, HL K cl F H L A → (∀ a ∈ A, F' a = none ∧ H' a = H a) → HL K cl F' H' L A
  | _, _, .nil, _ => .nil
  | _, _, .cons h r, hA => .cons (h.mono e fun a ha => hA a (List.mem_append_left _ ha)) (r.mono e fun a ha => hA a (List.mem_append_right _ ha))
theorem HL.fr : ∀ {L : List (Cl × V)} {A : List Addr}, HL K cl F H L A → ∀ a ∈ A, F a = none ∧ ∃ o, H a = some o
  | _, _, .nil, _, h => by cases h
  | _, _, .cons h r, a, ha => (List.mem_append.mp ha).elim (h.fr a) (r.fr a)
theorem HL.perm {L L' : List (Cl × V)} (p : L.Perm L') : ∀ {A : List Addr}, HL K cl F H L A → ∃ A', A.Perm A' ∧ HL K cl F H L' A' := by
  induction p with
  | nil => intro A h; exact ⟨A, .refl _, h⟩
  | cons x p ih =>
    intro A h
    cases h with
    | cons h r =>
      obtain ⟨A', q, r'⟩ := ih r
      exact ⟨_, List.Perm.append_left _ q, .cons h r'⟩
  | swap x y l =>
    intro A h
    cases h with
    | cons h1 r =>
      cases r with
      | cons h2 r =>
        refine ⟨_, ?_, .cons h2 (.cons h1 r)⟩
        rw [← List.append_assoc, ← List.append_assoc]
        exact List.Perm.append_right _ List.perm_append_comm
  | trans p q ih1 ih2 =>
    intro A h
    obtain ⟨A1, q1, h1⟩ := ih1 h
    obtain ⟨A2, q2, h2⟩ := ih2 h1
    exact ⟨A2, q1.trans q2, h2⟩
theorem HL.left : ∀ {L M : List (Cl × V)} {A : List Addr}, HL K cl F H (L ++ M) A → ∃ A1 A2, A = A1 ++ A2 ∧ HL K cl F H L A1 ∧ HL K cl F H M A2
  | [], M, A, h => ⟨[], A, rfl, .nil, h⟩
  | x :: L, M, _, h => by
    cases h with
    | cons h r =>
      obtain ⟨A1, A2, e, h1, h2⟩ := HL.left r
      rw [e]
      exact ⟨_, A2, by rw [List.append_assoc], .cons h h1, h2⟩

structure HR (K : PySem.W.Frag) (cl : Str → Addr → Prop) (F H : Hp) (L : List (Cl × V)) : Prop where
  sub : Same F H
  own : ∃ A, A.Nodup ∧ HL K cl F H L A
theorem HR.perm {L L' : List (Cl × V)} (h : HR K cl F H L) (p : L.Perm L') : HR K cl F H L' := by
  obtain ⟨s, A, n, r⟩ := h
  obtain ⟨A', q, r'⟩ := r.perm p
  exact ⟨s, A', q.nodup_iff.mp n, r'⟩
theorem HR.left {L M : List (Cl × V)} (h : HR K cl F H (L ++ M)) : HR K cl F H L := by
  obtain ⟨s, A, n, r⟩ := h
  obtain ⟨A1, A2, e, h1, h2⟩ := r.left
  rw [e] at n
  exact ⟨s, A1, (List.nodup_append.mp n).1, h1⟩
theorem HR.tail {x : Cl × V} {L : List (Cl × V)} (h : HR K cl F H (x :: L)) : HR K cl F H L :=
  (h.perm (L' := L ++ [x]) (List.perm_append_comm (l₁ := [x]) (l₂ := L))).left
theorem HR.drop2 {x y : Cl × V} {L : List (Cl × V)} (h : HR K cl F H (x :: y :: L)) : HR K cl F H (x :: L) :=
  (h.perm (.swap _ _ _)).tail
theorem HR.swap {x y : Cl × V} {L : List (Cl × V)} (h : HR K cl F H (x :: y :: L)) : HR K cl F H (y :: x :: L) := h.perm (.swap _ _ _)
theorem HR.head {c : Cl} {v : V} {L : List (Cl × V)} (h : HR K cl F H ((c, v) :: L)) : ∃ A, CR K cl F H c v A := by
  obtain ⟨s, A, n, r⟩ := h
  cases r with
  | cons h r => exact ⟨_, h⟩
theorem HR.mem {c : Cl} {v : V} {L : List (Cl × V)} (h : HR K cl F H L) (m : (c, v) ∈ L) : ∃ A, CR K cl F H c v A := by
  obtain ⟨L', p⟩ : ∃ L', L.Perm ((c, v) :: L') := by
    obtain ⟨a, b, e⟩ := List.append_of_mem m
    exact ⟨a ++ b, by rw [e]; exact List.perm_middle⟩
  exact (h.perm p).head
theorem HR.rp {d : D} {v : V} {L : List (Cl × V)} (h : HR K cl F H ((.fz d, v) :: L)) : Rp K F v d := by
  obtain ⟨A, q⟩ := h.head
  cases q with
  | fz r => exact r
theorem HR.push {d : D} {v : V} {L : List (Cl × V)} (h : HR K cl F H L) (r : Rp K F v d) : HR K cl F H ((.fz d, v) :: L) := by
  obtain ⟨s, A, n, q⟩ := h
  exact ⟨s, [] ++ A, n, .cons (.fz r) q⟩
/-- a new frozen object -/
theorem HR.newF {L : List (Cl × V)} {p : Addr} {o : HO} (h : HR K cl F H L) (hp : H p = none) : Same F (upd F p o) ∧ HR K cl (upd F p o) (upd H p o) L := by
  obtain ⟨s, A, n, q⟩ := h
  have fp : F p = none := s.free hp
  have sm : Same F (upd F p o) := fun b u e => by rw [upd_ne (ne_of_none e fp)]; exact e
  refine ⟨sm, fun b u e => ?_, A, n, q.mono sm fun a ha => ?_⟩
  · by_cases hb : b = p
    · subst hb; rw [upd_same] at e ⊢; exact e
    · rw [upd_ne hb] at e ⊢; exact s _ _ e
  · obtain ⟨h1, u, h2⟩ := q.fr a ha
    have ne : a ≠ p := ne_of_none h2 hp
    rw [upd_ne ne, upd_ne ne]
    exact ⟨h1, rfl⟩
/-- a new object of one's own -/
theorem HR.newO {L : List (Cl × V)} {p : Addr} {o : HO} {c : Cl} (h : HR K cl F H L) (hp : H p = none) (hc : CR K cl F (upd H p o) c (.ref p) [p]) : HR K cl F (upd H p o) ((c, .ref p) :: L) := by
  obtain ⟨s, A, n, q⟩ := h
  have np : ∀ a ∈ A, a ≠ p := fun a ha => by
    obtain ⟨_, u, h2⟩ := q.fr a ha
    exact ne_of_none h2 hp
  refine ⟨fun b u e => ?_, [p] ++ A, List.nodup_cons.mpr ⟨fun m => np p m rfl, n⟩, .cons hc (q.mono (Same.refl _) fun a ha => ⟨(q.fr a ha).1, upd_ne (np a ha)⟩)⟩
  rw [upd_ne (ne_of_none (s _ _ e) hp)]
  exact s _ _ e
/-- an object of one's own is changed -/
theorem HR.mut {L : List (Cl × V)} {p : Addr} {o : HO} {c c' : Cl} (h : HR K cl F H ((c, .ref p) :: L)) (h1 : ∀ A, CR K cl F H c (.ref p) A → A = [p]) (hc : CR K cl F (upd H p o) c' (.ref p) [p]) : HR K cl F (upd H p o) ((c', .ref p) :: L) := by
  obtain ⟨s, A, n, q⟩ := h
  cases q with
  | cons q r =>
    have e := h1 _ q
    subst e
    have n' := List.nodup_cons.mp n
    have fp := (q.fr p (List.mem_singleton.mpr rfl)).1
    refine ⟨fun b u e => ?_, _, n, .cons hc (r.mono (Same.refl _) fun a ha => ⟨(r.fr a ha).1, upd_ne fun z => n'.1 (z ▸ ha)⟩)⟩
    rw [upd_ne (ne_of_none e fp)]
    exact s _ _ e
theorem kd_map {κ : Type} : True := trivial
theorem RpKs.rpK : ∀ {kvs : List (Key × V)} {es : List (Key × D)}, RpKs K F kvs es → RpK K F kvs (es.map fun p => (kD p.1, p.2))
  | _, _, .nil => .nil
  | _, _, .cons h r => .cons h (RpKs.rpK r)
/-- what a cell is when nobody changes it any more -/
def Cl.data : Cl → Option D
  | .fz d => some d
  | .lst ds => some (.list ds)
  | .dct es => some (.dict (es.map fun p => (kD p.1, p.2)))
  | .dtt _ => none
  | .dlk _ => none
  | .ins _ _ => none
/-- .. frozen -/
theorem HR.freeze {L : List (Cl × V)} {c : Cl} {v : V} {d : D} (h : HR K cl F H ((c, v) :: L)) (e : c.data = some d) : ∃ F', Same F F' ∧ HR K cl F' H ((.fz d, v) :: L) := by
  obtain ⟨s, A, n, q⟩ := h
  cases q with
  | cons q r =>
    have go : ∀ (a : Addr) (o : HO), H a = some o → F a = none → (∀ F', Same F F' → F' a = some o → Rp K F' (.ref a) d) → v = .ref a → (∀ b, HL K cl F H L b → (([a] ++ b).Nodup → True)) → ∀ B, ([a] ++ B).Nodup → HL K cl F H L B → ∃ F', Same F F' ∧ HR K cl F' H ((.fz d, v) :: L) := by
      intro a o h1 h2 h3 ev _ B nB rB
      subst ev
      have n' := List.nodup_cons.mp nB
      have sm : Same F (upd F a o) := fun b u e => by rw [upd_ne (ne_of_none e h2)]; exact e
      refine ⟨upd F a o, sm, fun b u e => ?_, [] ++ B, n'.2, .cons (.fz (h3 _ sm upd_same)) (rB.mono sm fun b hb => ⟨?_, rfl⟩)⟩
      · by_cases hb : b = a
        · subst hb; rw [upd_same] at e; rw [h1]; exact e
        · rw [upd_ne hb] at e; exact s _ _ e
      · have hb' : b ∈ B := hb
        have nb : b ≠ a := fun z => by subst z; exact n'.1 hb'
        rw [upd_ne nb]
        exact (rB.fr b hb').1
    cases q with
    | fz r' =>
      cases e
      exact ⟨F, Same.refl _, s, _, n, .cons (.fz r') r⟩
    | lst h1 h2 r' =>
      cases e
      exact go _ _ h1 h2 (fun F' sm hF => .lst (.inl (.inl hF)) (r'.mono sm)) rfl (fun _ _ _ => trivial) _ n r
    | dct h1 h2 r' =>
      cases e
      exact go _ _ h1 h2 (fun F' sm hF => .dct hF (r'.mono sm).rpK) rfl (fun _ _ _ => trivial) _ n r
    | dtt h1 h2 r' => cases e
    | dlk h1 r' => cases e
    | ins hc h1 h2 h3 r' => cases e
end

/-! ### the slots -/
abbrev En := List (Option Cl)
def eL : En → St → List (Cl × V)
  | some c :: ρ, some v :: σ => (c, v) :: eL ρ σ
  | some _ :: ρ, none :: σ => eL ρ σ
  | none :: ρ, _ :: σ => eL ρ σ
  | _, _ => []
def EnOk : En → St → Prop
  | [], [] => True
  | some _ :: ρ, some _ :: σ => EnOk ρ σ
  | none :: ρ, _ :: σ => EnOk ρ σ
  | _, _ => False
theorem EnOk.len : ∀ {ρ : En} {σ : St}, EnOk ρ σ → ρ.length = σ.length
  | [], [], _ => rfl
  | some _ :: ρ, some _ :: σ, h => congrArg (· + 1) (EnOk.len (ρ := ρ) (σ := σ) h)
  | none :: ρ, _ :: σ, h => congrArg (· + 1) (EnOk.len (ρ := ρ) (σ := σ) h)
  | some _ :: _, none :: _, h => h.elim
  | [], _ :: _, h => h.elim
  | some _ :: _, [], h => h.elim
  | none :: _, [], h => h.elim
theorem en_get : ∀ {ρ : En} {σ : St} {i : Nat} {c : Cl}, EnOk ρ σ → ρ[i]? = some (some c) → ∃ v, σ[i]? = some (some v) ∧ (eL ρ σ).Perm ((c, v) :: eL (ρ.set i none) σ) ∧ EnOk (ρ.set i none) σ
  | [], _, _, _, _, e => by simp at e
  | some c' :: ρ, some v :: σ, 0, c, h, e => by
    simp only [List.getElem?_cons_zero, Option.some.injEq] at e
    subst e
    exact ⟨v, rfl, .refl _, h⟩
  | some c' :: ρ, some v :: σ, i + 1, c, h, e => by
    rw [List.getElem?_cons_succ] at e
    obtain ⟨w, h1, h2, h3⟩ := en_get (ρ := ρ) (σ := σ) h e
    refine ⟨w, by rw [List.getElem?_cons_succ]; exact h1, ?_, h3⟩
    exact (List.Perm.cons _ h2).trans (.swap _ _ _)
  | none :: ρ, x :: σ, 0, c, h, e => by simp at e
  | none :: ρ, x :: σ, i + 1, c, h, e => by
    rw [List.getElem?_cons_succ] at e
    obtain ⟨w, h1, h2, h3⟩ := en_get (ρ := ρ) (σ := σ) h e
    exact ⟨w, by rw [List.getElem?_cons_succ]; exact h1, h2, h3⟩
  | some _ :: _, none :: _, _, _, h, _ => h.elim
  | some _ :: _, [], _, _, h, _ => h.elim
  | none :: _, [], _, _, h, _ => h.elim
/-- a slot is stored -/
theorem en_set : ∀ {ρ : En} {σ : St} {i : Nat} (c : Cl) (v : V), EnOk ρ σ → i < ρ.length → EnOk (ρ.set i (some c)) (σ.set i (some v)) ∧ ∃ M, ((c, v) :: eL ρ σ).Perm (eL (ρ.set i (some c)) (σ.set i (some v)) ++ M)
  | [], _, _, _, _, _, e => by simp at e
  | some c' :: ρ, some v' :: σ, 0, c, v, h, _ => ⟨h, [(c', v')], by
      show ((c, v) :: (c', v') :: eL ρ σ).Perm ((c, v) :: (eL ρ σ ++ [(c', v')]))
      exact List.Perm.cons _ (List.perm_append_comm (l₁ := [(c', v')]) (l₂ := eL ρ σ))⟩
  | none :: ρ, x :: σ, 0, c, v, h, _ => ⟨h, [], by
      rw [List.append_nil]
      exact .refl _⟩
  | some c' :: ρ, some v' :: σ, i + 1, c, v, h, e => by
    obtain ⟨h1, M, h2⟩ := en_set (ρ := ρ) (σ := σ) (i := i) c v h (Nat.lt_of_succ_lt_succ e)
    exact ⟨h1, M, (List.Perm.swap _ _ _).trans (List.Perm.cons _ h2)⟩
  | none :: ρ, x :: σ, i + 1, c, v, h, e => by
    obtain ⟨h1, M, h2⟩ := en_set (ρ := ρ) (σ := σ) (i := i) c v h (Nat.lt_of_succ_lt_succ e)
    exact ⟨h1, M, h2⟩
  | some _ :: _, none :: _, _, _, _, h, _ => h.elim
  | some _ :: _, [], _, _, _, h, _ => h.elim
  | none :: _, [], _, _, _, h, _ => h.elim
/-- a slot's cell comes back -/
theorem en_put : ∀ {ρ : En} {σ : St} {i : Nat} {v : V} (c : Cl), EnOk ρ σ → ρ[i]? = some none → σ[i]? = some (some v) → EnOk (ρ.set i (some c)) σ ∧ ((c, v) :: eL ρ σ).Perm (eL (ρ.set i (some c)) σ)
  | [], _, _, _, _, _, e, _ => by simp at e
  | some c' :: ρ, some v' :: σ, 0, v, c, h, e, _ => by simp at e
  | none :: ρ, x :: σ, 0, v, c, h, _, e => by
    simp only [List.getElem?_cons_zero, Option.some.injEq] at e
    subst e
    exact ⟨h, .refl _⟩
  | some c' :: ρ, some v' :: σ, i + 1, v, c, h, e, e2 => by
    rw [List.getElem?_cons_succ] at e e2
    obtain ⟨h1, h2⟩ := en_put (ρ := ρ) (σ := σ) c h e e2
    exact ⟨h1, (List.Perm.swap _ _ _).trans (List.Perm.cons _ h2)⟩
  | none :: ρ, x :: σ, i + 1, v, c, h, e, e2 => by
    rw [List.getElem?_cons_succ] at e e2
    obtain ⟨h1, h2⟩ := en_put (ρ := ρ) (σ := σ) c h e e2
    exact ⟨h1, h2⟩
  | some _ :: _, none :: _, _, _, _, h, _, _ => h.elim
  | some _ :: _, [], _, _, _, h, _, _ => h.elim
  | none :: _, [], _, _, _, h, _, _ => h.elim
/-- a slot is emptied -/
theorem en_none : ∀ {ρ : En} {σ : St} (i : Nat) (o : Option V), EnOk ρ σ → EnOk (ρ.set i none) (σ.set i o) ∧ ∃ M, (eL ρ σ).Perm (eL (ρ.set i none) (σ.set i o) ++ M)
  | [], [], _, _, h => ⟨h, [], .refl _⟩
  | some c' :: ρ, some v' :: σ, 0, o, h => ⟨h, [(c', v')], (List.perm_append_comm (l₁ := [(c', v')]) (l₂ := eL ρ σ))⟩
  | none :: ρ, x :: σ, 0, o, h => ⟨h, [], by rw [List.append_nil]; exact .refl _⟩
  | some c' :: ρ, some v' :: σ, i + 1, o, h => by
    obtain ⟨h1, M, h2⟩ := en_none (ρ := ρ) (σ := σ) i o h
    exact ⟨h1, M, List.Perm.cons _ h2⟩
  | none :: ρ, x :: σ, i + 1, o, h => by
    obtain ⟨h1, M, h2⟩ := en_none (ρ := ρ) (σ := σ) i o h
    exact ⟨h1, M, h2⟩
  | some _ :: _, none :: _, _, _, h => h.elim
  | some _ :: _, [], _, _, h => h.elim
  | none :: _, [], _, _, h => h.elim
  | [], _ :: _, _, _, h => h.elim

structure R (K : PySem.W.Frag) (cl : Str → Addr → Prop) (F H : Hp) (ρ : En) (σ : St) (T : List (Cl × V)) : Prop where
  hr : HR K cl F H (eL ρ σ ++ T)
  ok : EnOk ρ σ
section
variable {K : PySem.W.Frag} {cl : Str → Addr → Prop} {F F' H H' : Hp} {ρ : En} {σ : St} {T : List (Cl × V)} {c : Cl} {v : V} {d : D} {i : Nat}
theorem mid {α : Type} (x : α) (L T : List α) : (L ++ x :: T).Perm (x :: (L ++ T)) := List.perm_middle
theorem R.mk' (h : HR K cl F H ((c, v) :: (eL ρ σ ++ T))) (ok : EnOk ρ σ) : R K cl F H ρ σ ((c, v) :: T) := ⟨h.perm (mid _ _ _).symm, ok⟩
theorem R.hr' (h : R K cl F H ρ σ ((c, v) :: T)) : HR K cl F H ((c, v) :: (eL ρ σ ++ T)) := h.hr.perm (mid _ _ _)
theorem R.tail (h : R K cl F H ρ σ ((c, v) :: T)) : R K cl F H ρ σ T := ⟨h.hr'.tail, h.ok⟩
theorem R.drop2 {x : Cl × V} (h : R K cl F H ρ σ ((c, v) :: x :: T)) : R K cl F H ρ σ ((c, v) :: T) := by
  refine .mk' ?_ h.ok
  exact (h.hr'.perm (List.Perm.cons _ (mid _ _ _))).drop2
theorem R.swap {c' : Cl} {v' : V} (h : R K cl F H ρ σ ((c, v) :: (c', v') :: T)) : R K cl F H ρ σ ((c', v') :: (c, v) :: T) := ⟨h.hr.perm (List.Perm.append_left _ (.swap _ _ _)), h.ok⟩
theorem R.sub (h : R K cl F H ρ σ T) : Same F H := h.hr.sub
theorem R.rp (h : R K cl F H ρ σ ((.fz d, v) :: T)) : Rp K F v d := h.hr'.rp
theorem R.push (h : R K cl F H ρ σ T) (r : Rp K F v d) : R K cl F H ρ σ ((.fz d, v) :: T) := .mk' (h.hr.push r) h.ok
theorem R.cr (h : R K cl F H ρ σ ((c, v) :: T)) : ∃ A, CR K cl F H c v A := h.hr'.head
theorem R.at (h : R K cl F H ρ σ T) (e : ρ[i]? = some (some c)) : ∃ v, σ[i]? = some (some v) ∧ ∃ A, CR K cl F H c v A := by
  obtain ⟨v, h1, h2, _⟩ := en_get h.ok e
  exact ⟨v, h1, ((h.hr.perm (List.Perm.append_right _ h2))).head⟩
theorem R.take (h : R K cl F H ρ σ T) (e : ρ[i]? = some (some c)) : ∃ v, σ[i]? = some (some v) ∧ R K cl F H (ρ.set i none) σ ((c, v) :: T) := by
  obtain ⟨v, h1, h2, h3⟩ := en_get h.ok e
  exact ⟨v, h1, .mk' (h.hr.perm (List.Perm.append_right _ h2)) h3⟩
theorem R.set (h : R K cl F H ρ σ ((c, v) :: T)) (hi : i < ρ.length) : R K cl F H (ρ.set i (some c)) (σ.set i (some v)) T := by
  obtain ⟨h1, M, h2⟩ := en_set c v h.ok hi
  refine ⟨?_, h1⟩
  have q : HR K cl F H ((c, v) :: eL ρ σ ++ T) := h.hr'
  refine ((q.perm (List.Perm.append_right T h2)).perm (L' := eL (ρ.set i (some c)) (σ.set i (some v)) ++ T ++ M) ?_).left
  rw [List.append_assoc, List.append_assoc]
  exact List.Perm.append_left _ List.perm_append_comm
theorem R.put (h : R K cl F H ρ σ ((c, v) :: T)) (e : ρ[i]? = some none) (e2 : σ[i]? = some (some v)) : R K cl F H (ρ.set i (some c)) σ T := by
  obtain ⟨h1, h2⟩ := en_put c h.ok e e2
  refine ⟨?_, h1⟩
  have q : HR K cl F H ((c, v) :: eL ρ σ ++ T) := h.hr'
  exact q.perm (List.Perm.append_right T h2)
theorem R.gone (h : R K cl F H ρ σ T) (i : Nat) (o : Option V) : R K cl F H (ρ.set i none) (σ.set i o) T := by
  obtain ⟨h1, M, h2⟩ := en_none i o h.ok
  refine ⟨((h.hr.perm (List.Perm.append_right T h2)).perm (L' := eL (ρ.set i none) (σ.set i o) ++ T ++ M) ?_).left, h1⟩
  rw [List.append_assoc, List.append_assoc]
  exact List.Perm.append_left _ List.perm_append_comm
theorem R.freeze (h : R K cl F H ρ σ ((c, v) :: T)) (e : c.data = some d) : ∃ F', Same F F' ∧ R K cl F' H ρ σ ((.fz d, v) :: T) := by
  obtain ⟨F', s, q⟩ := h.hr'.freeze e
  exact ⟨F', s, .mk' q h.ok⟩
end
end L3

namespace L3
open PySem PySem.Spec L2

/-! ### what the written part is; errors; results -/
structure Gd where
  K : PySem.W.Frag
  mg : Str → Option Value
def clOf (mg : Str → Option Value) (c : Str) (C : Addr) : Prop := mg c = some (.ref C)
abbrev Gd.R (G : Gd) (F H : Hp) (ρ : En) (σ : L2.St) (T : List (Cl × V)) : Prop := L3.R G.K (clOf G.mg) F H ρ σ T
abbrev Gd.HR (G : Gd) (F H : Hp) (L : List (Cl × V)) : Prop := L3.HR G.K (clOf G.mg) F H L
abbrev Gd.CR (G : Gd) (F H : Hp) (c : Cl) (v : V) (A : List Addr) : Prop := L3.CR G.K (clOf G.mg) F H c v A
structure Ex where
  cls : Str
  fs : List (Str × D)
def XR (G : Gd) (F : Hp) (x : Ex) (cls : Value) (d : Option Addr) : Prop :=
  ∃ C, G.mg x.cls = some (.ref C) ∧ cls = .ref C ∧ ((x.fs = [] ∧ d = none) ∨ ∃ dd fvs, d = some dd ∧ F dd = some (.xd fvs) ∧ RpKs G.K F fvs x.fs)
inductive Rz (α : Type) where
  | ok (a : α) (ρ : En)
  | ex (x : Ex) (ρ : En)
abbrev Fn (α : Type) := Nat → En → Option (Rz α)
def bnd {α β : Type} (x : Option (Rz α)) (k : α → En → Option (Rz β)) : Option (Rz β) :=
  match x with
  | some (.ok a ρ) => k a ρ
  | some (.ex x ρ) => some (.ex x ρ)
  | none => none
@[simp] theorem bnd_ok {α β : Type} (a : α) (ρ : En) (k : α → En → Option (Rz β)) : bnd (some (.ok a ρ)) k = k a ρ := rfl
@[simp] theorem bnd_ex {α β : Type} (x : Ex) (ρ : En) (k : α → En → Option (Rz β)) : bnd (some (.ex x ρ)) k = some (.ex x ρ) := rfl
@[simp] theorem bnd_none {α β : Type} (k : α → En → Option (Rz β)) : bnd none k = none := rfl

/-- what is wanted of an exception -/
def PoX (G : Gd) (W : WX) (F : Hp) (σ : L2.St) (T : List (Cl × V)) (x : Ex) (ρ : En) : Prop :=
  ∀ F' H' cls d, Same F F' → G.R F' H' ρ σ T → XR G F' x cls d → W cls d σ H'
theorem PoX.mono {G : Gd} {W : WX} {F F1 : Hp} {σ : L2.St} {T : List (Cl × V)} {x : Ex} {ρ : En} (h : PoX G W F σ T x ρ) (s : Same F F1) : PoX G W F1 σ T x ρ :=
  fun F' H' cls d s' r q => h F' H' cls d (s.trans s') r q

/-! ### operands: a slot's cell as it stands, or a value -/
inductive Bv where
  | pl (i : Nat)
  | vl (c : Cl)
def lk (ρ : En) : Bv → Option Cl
  | .pl i => (ρ[i]?).join
  | .vl c => some c
def bvT (b : Bv) (v : V) (T : List (Cl × V)) : List (Cl × V) :=
  match b with
  | .pl _ => T
  | .vl c => (c, v) :: T
def bvV (σ : L2.St) (b : Bv) (v : V) : Prop :=
  match b with
  | .pl i => σ[i]? = some (some v)
  | .vl _ => True
def bvTs : List Bv → List V → List (Cl × V) → List (Cl × V)
  | b :: bs, v :: vs, T => bvTs bs vs (bvT b v T)
  | _, _, T => T
def bvVs (σ : L2.St) : List Bv → List V → Prop
  | [], [] => True
  | b :: bs, v :: vs => bvV σ b v ∧ bvVs σ bs vs
  | _, _ => False
def lks (ρ : En) : List Bv → Option (List Cl)
  | [] => some []
  | b :: bs => match lk ρ b, lks ρ bs with
    | some c, some cs => some (c :: cs)
    | _, _ => none
section
variable {G : Gd} {W : WX} {F F' H H' : Hp} {ρ : En} {σ : L2.St} {T : List (Cl × V)}
theorem bvT_sub (b : Bv) (v : V) : ∀ x ∈ T, x ∈ bvT b v T := fun x hx => by
  cases b with
  | pl i => exact hx
  | vl c => exact List.mem_cons_of_mem _ hx
theorem bvTs_sub : ∀ (bs : List Bv) (vs : List V) (T : List (Cl × V)), ∀ x ∈ T, x ∈ bvTs bs vs T
  | [], _, _, _, h => h
  | _ :: _, [], _, _, h => h
  | b :: bs, v :: vs, T, x, h => bvTs_sub bs vs _ x (bvT_sub b v x h)
theorem bvT_drop (b : Bv) (v : V) (h : G.R F H ρ σ (bvT b v T)) : G.R F H ρ σ T := by
  cases b with
  | pl i => exact h
  | vl c => exact h.tail
theorem bvTs_drop : ∀ (bs : List Bv) (vs : List V) (T : List (Cl × V)), G.R F H ρ σ (bvTs bs vs T) → G.R F H ρ σ T
  | [], _, _, h => h
  | _ :: _, [], _, h => h
  | b :: bs, v :: vs, T, h => bvT_drop b v (bvTs_drop bs vs _ h)
inductive CRs (G : Gd) (F H : Hp) : List Cl → List V → Prop
  | nil : CRs G F H [] []
  | cons {c : Cl} {v : V} {cs : List Cl} {vs : List V} (h : ∃ A, G.CR F H c v A) (r : CRs G F H cs vs) : CRs G F H (c :: cs) (v :: vs)
theorem bv_cr {b : Bv} {v : V} {c : Cl} (h : G.R F H ρ σ T) (m : ∀ x ∈ bvT b v [], x ∈ T) (hv : bvV σ b v) (e : lk ρ b = some c) : ∃ A, G.CR F H c v A := by
  cases b with
  | pl i =>
    have e' : ρ[i]? = some (some c) := by
      show ρ[i]? = _
      have e : (ρ[i]?).join = some c := e
      cases q : ρ[i]? with
      | none => rw [q] at e; cases e
      | some o => rw [q] at e; rw [show o = some c from e]
    obtain ⟨w, h1, A, h2⟩ := h.at e'
    have hv : σ[i]? = some (some v) := hv
    rw [hv] at h1
    cases h1
    exact ⟨A, h2⟩
  | vl c' =>
    cases e
    exact h.hr.mem (List.mem_append_right _ (m _ (List.mem_singleton.mpr rfl)))
theorem bvs_cr : ∀ {bs : List Bv} {vs : List V} {cs : List Cl} {T0 : List (Cl × V)}, G.R F H ρ σ T → (∀ x ∈ bvTs bs vs T0, x ∈ T) → bvVs σ bs vs → lks ρ bs = some cs → CRs G F H cs vs
  | [], [], cs, _, _, _, _, e => by
    cases e
    exact .nil
  | [], _ :: _, _, _, _, _, h, _ => h.elim
  | _ :: _, [], _, _, _, _, h, _ => h.elim
  | b :: bs, v :: vs, cs, T0, h, m, hv, e => by
    unfold lks at e
    cases q1 : lk ρ b with
    | none => rw [q1] at e; cases e
    | some c =>
      cases q2 : lks ρ bs with
      | none => rw [q1, q2] at e; cases e
      | some cs' =>
        rw [q1, q2] at e
        cases e
        refine .cons (bv_cr h (fun x hx => m x (bvTs_sub bs vs _ x ?_)) hv.1 q1) (bvs_cr h (T0 := bvT b v T0) m hv.2 q2)
        cases b with
        | pl i => cases hx
        | vl c =>
          rw [List.mem_singleton.mp hx]
          exact List.mem_cons_self
end

/-! ### the judgements -/
def PoE (G : Gd) (W : WX) (F : Hp) (σ : L2.St) (T : List (Cl × V)) (Q : VK) : Rz Cl → Prop
  | .ok c ρ => ∀ F' H' v, Same F F' → G.R F' H' ρ σ ((c, v) :: T) → Q v H'
  | .ex x ρ => PoX G W F σ T x ρ
def SndE (G : Gd) (W : WX) (t : TE) (f : Fn Cl) : Prop :=
  ∀ n ρ r, f n ρ = some r → ∀ F H σ T Q, G.R F H ρ σ T → PoE G W F σ T Q r → t σ H Q
def PoB (G : Gd) (W : WX) (F : Hp) (σ : L2.St) (T : List (Cl × V)) (Q : VK) : Rz Bv → Prop
  | .ok b ρ => ∀ F' H' v, Same F F' → G.R F' H' ρ σ (bvT b v T) → bvV σ b v → Q v H'
  | .ex x ρ => PoX G W F σ T x ρ
def SndB (G : Gd) (W : WX) (t : TE) (f : Fn Bv) : Prop :=
  ∀ n ρ r, f n ρ = some r → ∀ F H σ T Q, G.R F H ρ σ T → PoB G W F σ T Q r → t σ H Q
def PoBs (G : Gd) (W : WX) (F : Hp) (σ : L2.St) (T : List (Cl × V)) (Q : List V → Hp → Prop) : Rz (List Bv) → Prop
  | .ok bs ρ => ∀ F' H' vs, Same F F' → G.R F' H' ρ σ (bvTs bs vs T) → bvVs σ bs vs → Q vs H'
  | .ex x ρ => PoX G W F σ T x ρ
def SndBs (G : Gd) (W : WX) (t : TA) (f : Fn (List Bv)) : Prop :=
  ∀ n ρ r, f n ρ = some r → ∀ F H σ T Q, G.R F H ρ σ T → PoBs G W F σ T Q r → t σ H Q
def PoT (G : Gd) (W : WX) (F : Hp) (σ : L2.St) (T : List (Cl × V)) (Q : Bool → Hp → Prop) : Rz Bool → Prop
  | .ok b ρ => ∀ F' H', Same F F' → G.R F' H' ρ σ T → Q b H'
  | .ex x ρ => PoX G W F σ T x ρ
def SndT (G : Gd) (W : WX) (t : TT) (f : Fn Bool) : Prop :=
  ∀ n ρ r, f n ρ = some r → ∀ F H σ T Q, G.R F H ρ σ T → PoT G W F σ T Q r → t σ H Q

section
variable {ι : Type}
def XE (G : Gd) (X : ι → Cx) (W : WX) (e : Expr) (f : Fn Cl) : Prop := ∃ t : TE, (∀ i, PE (X i) e t) ∧ SndE G W t f
def XB (G : Gd) (X : ι → Cx) (W : WX) (e : Expr) (f : Fn Bv) : Prop := ∃ t : TE, (∀ i, PE (X i) e t) ∧ SndB G W t f
def XBs (G : Gd) (X : ι → Cx) (W : WX) (es : List Expr) (f : Fn (List Bv)) : Prop := ∃ t : TA, (∀ i, PA (X i) es t) ∧ SndBs G W t f
def XT (G : Gd) (X : ι → Cx) (W : WX) (e : Expr) (f : Fn Bool) : Prop := ∃ t : TT, (∀ i, PT (X i) e t) ∧ SndT G W t f
def XW (G : Gd) (X : ι → Cx) (W : WX) (e : Expr) (f : Fn Bool) : Prop := ∃ t : TT, (∀ i, PW (X i) e t) ∧ SndT G W t f
end

/-! ### operands and their lists -/
section
variable {ι : Type} {G : Gd} {X : ι → Cx} {W : WX} {e : Expr} {es : List Expr}
def fOf (f : Fn Cl) : Fn Bv := fun n ρ => bnd (f n ρ) fun c ρ' => some (.ok (.vl c) ρ')
theorem xb_of {f : Fn Cl} (h : XE G X W e f) : XB G X W e (fOf f) := by
  obtain ⟨t, h1, h2⟩ := h
  refine ⟨t, h1, fun n ρ r e F H σ T Q hR hP => ?_⟩
  unfold fOf at e
  cases q : f n ρ with
  | none => rw [q] at e; cases e
  | some r1 =>
    rw [q] at e
    refine h2 n ρ r1 q F H σ T Q hR ?_
    cases r1 with
    | ok c ρ' =>
      cases e
      exact fun F' H' v s r' => hP F' H' v s r' trivial
    | ex x ρ' =>
      cases e
      exact hP
def fPl (i : Nat) : Fn Bv := fun _ ρ => if ((ρ[i]?).join).isSome then some (.ok (.pl i) ρ) else none
theorem snd_pl (i : Nat) : SndB G W (tVar i) (fPl i) := fun n ρ r e F H σ T Q hR hP => by
  unfold fPl at e
  cases q : ρ[i]? with
  | none => rw [q] at e; cases e
  | some o =>
    cases o with
    | none => rw [q] at e; cases e
    | some c =>
      rw [q] at e
      cases e
      obtain ⟨v, h1, _⟩ := hR.at q
      exact ⟨v, h1, hP F H v (Same.refl _) hR h1⟩
theorem xb_var {i : Nat} {x : Str} {pos : Pos} (h : ∀ j, PE (X j) (.Name x pos) (tVar i)) : XB G X W (.Name x pos) (fPl i) := ⟨_, h, snd_pl i⟩
def fNil : Fn (List Bv) := fun _ ρ => some (.ok [] ρ)
def fCons (f : Fn Bv) (g : Fn (List Bv)) : Fn (List Bv) := fun n ρ => bnd (f n ρ) fun b ρ1 => bnd (g n ρ1) fun bs ρ2 => some (.ok (b :: bs) ρ2)
theorem snd_nil : SndBs G W tNil fNil := fun n ρ r e F H σ T Q hR hP => by
  cases e
  exact hP F H [] (Same.refl _) hR trivial
theorem PoX.dropT {F F1 : Hp} {σ : L2.St} {T : List (Cl × V)} {x : Ex} {ρ : En} {b : Bv} {v : V} (h : PoX G W F σ T x ρ) (s : Same F F1) : PoX G W F1 σ (bvT b v T) x ρ :=
  fun F' H' cls d s' r q => h F' H' cls d (s.trans s') (bvT_drop b v r) q
theorem snd_cons {ta : TE} {t : TA} {f : Fn Bv} {g : Fn (List Bv)} (ha : SndB G W ta f) (hr : SndBs G W t g) : SndBs G W (tCons ta t) (fCons f g) := fun n ρ r e F H σ T Q hR hP => by
  unfold fCons at e
  cases q : f n ρ with
  | none => rw [q] at e; cases e
  | some r1 =>
    rw [q] at e
    refine ha n ρ r1 q F H σ T _ hR ?_
    cases r1 with
    | ex x ρ' =>
      cases e
      exact hP
    | ok b ρ1 =>
      intro F1 H1 v s1 R1 v1
      rw [bnd_ok] at e
      cases q2 : g n ρ1 with
      | none => rw [q2] at e; cases e
      | some r2 =>
        rw [q2] at e
        refine hr n ρ1 r2 q2 F1 H1 σ _ _ R1 ?_
        cases r2 with
        | ex x ρ' =>
          cases e
          exact PoX.dropT hP s1
        | ok bs ρ2 =>
          cases e
          exact fun F2 H2 vs s2 R2 v2 => hP F2 H2 (v :: vs) (s1.trans s2) R2 ⟨v1, v2⟩
theorem xbs_nil : XBs G X W [] fNil := ⟨_, fun _ => pa_nil, snd_nil⟩
theorem xbs_cons {f : Fn Bv} {g : Fn (List Bv)} (ha : XB G X W e f) (hr : XBs G X W es g) (hs : ∀ i, starEach (e :: es) (X i).env = (false, eval e (X i).env) :: starEach es (X i).env) : XBs G X W (e :: es) (fCons f g) := by
  obtain ⟨t, h1, h2⟩ := ha
  obtain ⟨t', h1', h2'⟩ := hr
  exact ⟨_, fun i => pa_cons (h1 i) (h1' i) (hs i), snd_cons h2 h2'⟩

/-! ### an operation on values -/
def Prm (G : Gd) (r : List V → Hp → VK → Prop) (g : List Cl → Option Cl) : Prop :=
  ∀ F H L cs vs c Q, G.HR F H L → CRs G F H cs vs → g cs = some c → (∀ F' H' v, Same F F' → G.HR F' H' ((c, v) :: L) → Q v H') → r vs H Q
def fPr (f : Fn (List Bv)) (g : List Cl → Option Cl) : Fn Cl := fun n ρ => bnd (f n ρ) fun bs ρ1 => match lks ρ1 bs with
  | some cs => match g cs with
    | some c => some (.ok c ρ1)
    | none => none
  | none => none
theorem bvTs_mem {F H : Hp} {ρ : En} {σ : L2.St} : True := trivial
theorem snd_prm {t : TA} {f : Fn (List Bv)} {r : List V → Hp → VK → Prop} {g : List Cl → Option Cl} (ht : SndBs G W t f) (hp : Prm G r g) : SndE G W (tCB r t) (fPr f g) := fun n ρ r' e F H σ T Q hR hP => by
  unfold fPr at e
  cases q : f n ρ with
  | none => rw [q] at e; cases e
  | some r1 =>
    rw [q] at e
    refine ht n ρ r1 q F H σ T _ hR ?_
    cases r1 with
    | ex x ρ' =>
      cases e
      exact hP
    | ok bs ρ1 =>
      intro F1 H1 vs s1 R1 v1
      rw [bnd_ok] at e
      cases q2 : lks ρ1 bs with
      | none => rw [q2] at e; cases e
      | some cs =>
        rw [q2] at e
        dsimp only at e
        cases q3 : g cs with
        | none => rw [q3] at e; cases e
        | some c =>
          rw [q3] at e
          cases e
          have R0 := bvTs_drop bs vs T R1
          refine hp F1 H1 _ cs vs c _ R0.hr (bvs_cr (T0 := T) R1 (fun _ z => z) v1 q2) q3 fun F' H' v s' h' => ?_
          exact hP F' H' v (s1.trans s') (.mk' h' R0.ok)
def l1 (r : V → Hp → VK → Prop) : List V → Hp → VK → Prop := fun vs H Q => match vs with
  | [x] => r x H Q
  | _ => False
def l2 (r : R2) : List V → Hp → VK → Prop := fun vs H Q => match vs with
  | [x, y] => r x y H Q
  | _ => False
variable {a b : Expr} {fa fb : Fn Bv} {g : List Cl → Option Cl} {pos : Pos}
abbrev f2 (fa fb : Fn Bv) (g : List Cl → Option Cl) : Fn Cl := fPr (fCons fa (fCons fb fNil)) g
abbrev f1 (fa : Fn Bv) (g : List Cl → Option Cl) : Fn Cl := fPr (fCons fa fNil) g
theorem xe_bin {op : Operator} {r : R2} (ho : ∀ i, OpR (X i) (binaryOp op) r) (hp : Prm G (l2 r) g) (ha : XB G X W a fa) (hb : XB G X W b fb) : XE G X W (.BinOp a op b pos) (f2 fa fb g) := by
  obtain ⟨ta, h1, h2⟩ := ha
  obtain ⟨tb, h3, h4⟩ := hb
  exact ⟨_, fun i => pe_op (ho i) (h1 i) (h3 i), snd_prm (r := l2 r) (snd_cons h2 (snd_cons h4 snd_nil)) hp⟩
theorem xe_un {op : UnaryOp} {r : V → Hp → VK → Prop} (ho : ∀ i, UnR (X i) (unaryOp op) r) (hp : Prm G (l1 r) g) (ha : XB G X W a fa) : XE G X W (.UnaryOp op a pos) (f1 fa g) := by
  obtain ⟨ta, h1, h2⟩ := ha
  exact ⟨_, fun i => pe_un (ho i) (h1 i), snd_prm (r := l1 r) (snd_cons h2 snd_nil) hp⟩
theorem xe_cmp {op : CmpOp} {r : R2} (ho : ∀ i, OpR (X i) (compareOp op) r) (hp : Prm G (l2 r) g) (ha : XB G X W a fa) (hb : XB G X W b fb) (hm : behindInMarks op b = false) : XE G X W (.Compare a [op] [b] pos) (f2 fa fb g) := by
  obtain ⟨ta, h1, h2⟩ := ha
  obtain ⟨tb, h3, h4⟩ := hb
  exact ⟨_, fun i => pe_cmpR (ho i) (h1 i) (h3 i) hm, snd_prm (r := l2 r) (snd_cons h2 (snd_cons h4 snd_nil)) hp⟩
theorem xe_ix {r : R2} (hr : ∀ i, IxR (X i) r) (hp : Prm G (l2 r) g) (ha : XB G X W a fa) (hb : XB G X W b fb) (hs : PlainIx b) : XE G X W (.Subscript a b pos) (f2 fa fb g) := by
  obtain ⟨ta, h1, h2⟩ := ha
  obtain ⟨tb, h3, h4⟩ := hb
  exact ⟨_, fun i => pe_ix (hr i) (h1 i) (h3 i) hs, snd_prm (r := l2 r) (snd_cons h2 (snd_cons h4 snd_nil)) hp⟩
/-- a built-in function's call -/
theorem xe_callB {id : String} {x : Str} {p : Pos} {f : Fn (List Bv)} {r : List V → Hp → VK → Prop} (hc : ∀ i, CallR (X i) (.builtin id) r) (hp : Prm G r g) (hg : ∀ i, Gl (X i) x) (hm : ∀ i, (X i).mg x = none) (hv : bootBuiltins x = some (.builtin id)) (ha : XBs G X W (e :: es) f)
    (hn : x ≠ "__name__") (hdb : (x == ("__debug__" : Str)) = false) (he : ∀ i, starEach (e :: es) (X i).env = (false, eval e (X i).env) :: starEach es (X i).env) (hpl : ∀ i, (backTo pos (starEach es (X i).env)).any (·.1) = false) :
    XE G X W (.Call (.Name x p) (e :: es) [] pos) (fPr f g) := by
  obtain ⟨t, h1, h2⟩ := ha
  exact ⟨_, fun i => pe_callB (hc i) (hg i) (hm i) hv (h1 i) hn hdb (he i) (hpl i), snd_prm h2 hp⟩
theorem xe_callTy {T : String} {x : Str} {p : Pos} {f : Fn (List Bv)} {r : List V → Hp → VK → Prop} (hc : ∀ i, CallR (X i) (.type T) r) (hp : Prm G r g) (hg : ∀ i, Gl (X i) x) (hm : ∀ i, (X i).mg x = none) (hv : bootBuiltins x = some (.type T)) (ha : XBs G X W (e :: es) f)
    (hn : x ≠ "__name__") (hdb : (x == ("__debug__" : Str)) = false) (he : ∀ i, starEach (e :: es) (X i).env = (false, eval e (X i).env) :: starEach es (X i).env) (hpl : ∀ i, (backTo pos (starEach es (X i).env)).any (·.1) = false) :
    XE G X W (.Call (.Name x p) (e :: es) [] pos) (fPr f g) := by
  obtain ⟨t, h1, h2⟩ := ha
  exact ⟨_, fun i => pe_callTy (hc i) (hg i) (hm i) hv (h1 i) hn hdb (he i) (hpl i), snd_prm h2 hp⟩
end
end L3

namespace L3
open PySem PySem.Spec L2

/-! ### frozen operands -/
def fzB (ρ : En) : Bv → Option (D × En)
  | .pl i => match (ρ[i]?).join with
    | some c => match c.data with
      | some d => some (d, ρ.set i (some (.fz d)))
      | none => none
    | none => none
  | .vl c => match c.data with
    | some d => some (d, ρ)
    | none => none
def fzBs (ρ : En) : List Bv → Option (List D × En)
  | [] => some ([], ρ)
  | b :: bs => match fzBs ρ bs with
    | some (ds, ρ1) => match fzB ρ1 b with
      | some (d, ρ2) => some (d :: ds, ρ2)
      | none => none
    | none => none
section
variable {G : Gd} {W : WX} {F F' H H' : Hp} {ρ ρ' : En} {σ : L2.St} {T : List (Cl × V)}
theorem join_some {ρ : En} {i : Nat} {c : Cl} (e : (ρ[i]?).join = some c) : ρ[i]? = some (some c) := by
  cases q : ρ[i]? with
  | none => rw [q] at e; cases e
  | some o => rw [q] at e; rw [show o = some c from e]
theorem set_get_none {ρ : En} {i : Nat} {o : Option Cl} (e : ρ[i]? = some o) : (ρ.set i none)[i]? = some none := by
  obtain ⟨h, _⟩ := List.getElem?_eq_some_iff.mp e
  rw [List.getElem?_set_self h]
theorem fz_one {b : Bv} {v : V} {d : D} (hR : G.R F H ρ σ (bvT b v T)) (hv : bvV σ b v) (e : fzB ρ b = some (d, ρ')) : ∃ F', Same F F' ∧ G.R F' H ρ' σ T ∧ Rp G.K F' v d := by
  cases b with
  | pl i =>
    have hR : G.R F H ρ σ T := hR
    unfold fzB at e
    dsimp only at e
    cases q : (ρ[i]?).join with
    | none => rw [q] at e; cases e
    | some c =>
      rw [q] at e
      dsimp only at e
      cases q2 : c.data with
      | none => rw [q2] at e; cases e
      | some d' =>
        rw [q2] at e
        cases e
        have qi := join_some q
        obtain ⟨w, h1, R1⟩ := hR.take qi
        obtain ⟨F', s, R2⟩ := R1.freeze q2
        have hv : σ[i]? = some (some v) := hv
        rw [hv] at h1
        cases h1
        have r := R2.rp
        have R3 := R2.put (set_get_none qi) hv
        rw [List.set_set] at R3
        exact ⟨F', s, R3, r⟩
  | vl c =>
    unfold fzB at e
    dsimp only at e
    cases q2 : c.data with
    | none => rw [q2] at e; cases e
    | some d' =>
      rw [q2] at e
      cases e
      obtain ⟨F', s, R2⟩ := R.freeze (c := c) (v := v) hR q2
      exact ⟨F', s, R2.tail, R2.rp⟩
theorem fz_many : ∀ {bs : List Bv} {vs : List V} {ds : List D} {T : List (Cl × V)} {ρ' : En}, G.R F H ρ σ (bvTs bs vs T) → bvVs σ bs vs → fzBs ρ bs = some (ds, ρ') → ∃ F', Same F F' ∧ G.R F' H ρ' σ T ∧ RpA G.K F' vs ds
  | [], [], ds, T, ρ', hR, _, e => by
    cases e
    exact ⟨F, Same.refl _, hR, .nil⟩
  | [], _ :: _, _, _, _, _, h, _ => h.elim
  | _ :: _, [], _, _, _, _, h, _ => h.elim
  | b :: bs, v :: vs, ds, T, ρ', hR, hv, e => by
    unfold fzBs at e
    cases q : fzBs ρ bs with
    | none => rw [q] at e; cases e
    | some p =>
      obtain ⟨ds', ρ1⟩ := p
      rw [q] at e
      dsimp only at e
      cases q2 : fzB ρ1 b with
      | none => rw [q2] at e; cases e
      | some p2 =>
        obtain ⟨d, ρ2⟩ := p2
        rw [q2] at e
        cases e
        obtain ⟨F1, s1, R1, r1⟩ := fz_many (T := bvT b v T) hR hv.2 q
        obtain ⟨F2, s2, R2, r2⟩ := fz_one R1 hv.1 q2
        exact ⟨F2, s1.trans s2, R2, .cons r2 (r1.mono s2)⟩
end

section
variable {ι : Type} {G : Gd} {X : ι → Cx} {W : WX} {e : Expr} {es : List Expr}
/-- an operand as frozen data -/
def fFz (f : Fn Bv) : Fn Cl := fun n ρ => bnd (f n ρ) fun b ρ1 => match fzB ρ1 b with
  | some (d, ρ2) => some (.ok (.fz d) ρ2)
  | none => none
theorem snd_fz {t : TE} {f : Fn Bv} (h : SndB G W t f) : SndE G W t (fFz f) := fun n ρ r e F H σ T Q hR hP => by
  unfold fFz at e
  cases q : f n ρ with
  | none => rw [q] at e; cases e
  | some r1 =>
    rw [q] at e
    refine h n ρ r1 q F H σ T Q hR ?_
    cases r1 with
    | ex x ρ' => cases e; exact hP
    | ok b ρ1 =>
      rw [bnd_ok] at e
      cases q2 : fzB ρ1 b with
      | none => rw [q2] at e; cases e
      | some p =>
        obtain ⟨d, ρ2⟩ := p
        rw [q2] at e
        cases e
        intro F1 H1 v s1 R1 v1
        obtain ⟨F2, s2, R2, r2⟩ := fz_one R1 v1 q2
        exact hP F2 H1 v (s1.trans s2) (R2.push r2)
theorem xe_fz {f : Fn Bv} (h : XB G X W e f) : XE G X W e (fFz f) := by
  obtain ⟨t, h1, h2⟩ := h
  exact ⟨t, h1, snd_fz h2⟩
/-- a slot's cell moved out -/
def fMv (i : Nat) : Fn Cl := fun _ ρ => match (ρ[i]?).join with
  | some c => some (.ok c (ρ.set i none))
  | none => none
theorem xe_mv {i : Nat} {x : Str} {pos : Pos} (h : ∀ j, PE (X j) (.Name x pos) (tVar i)) : XE G X W (.Name x pos) (fMv i) := ⟨_, h, fun n ρ r e F H σ T Q hR hP => by
  unfold fMv at e
  cases q : (ρ[i]?).join with
  | none => rw [q] at e; cases e
  | some c =>
    rw [q] at e
    cases e
    obtain ⟨v, h1, R1⟩ := hR.take (join_some q)
    exact ⟨v, h1, hP F H v (Same.refl _) R1⟩⟩
/-- constants -/
def fC (d : D) : Fn Cl := fun _ ρ => some (.ok (.fz d) ρ)
theorem snd_c {v : V} {d : D} (h : ∀ F, Rp G.K F v d) : SndE G W (tC v) (fC d) := fun n ρ r e F H σ T Q hR hP => by
  cases e
  exact hP F H v (Same.refl _) (hR.push (h F))
theorem xe_int {i : Int} {j : Nat} {pos : Pos} : XE G X W (.Constant (.int i) j pos) (fC (.int i)) := ⟨_, fun _ => pe_int, snd_c fun _ => .int i⟩
theorem xe_bool {i : Bool} {j : Nat} {pos : Pos} : XE G X W (.Constant (.bool i) j pos) (fC (.bool i)) := ⟨_, fun _ => pe_bl, snd_c fun _ => .bl i⟩
theorem xe_none {j : Nat} {pos : Pos} : XE G X W (.Constant .none j pos) (fC .none) := ⟨_, fun _ => pe_non, snd_c fun _ => .non⟩
theorem xe_str {x : Str} {j : Nat} {pos : Pos} : XE G X W (.Constant (.str x) j pos) (fC (.str x)) := ⟨_, fun _ => pe_str, snd_c fun _ => .str x⟩
/-- a module's constant -/
theorem xe_glob {x : Str} {v : V} {u : Value} {d : D} {pos : Pos} (hg : ∀ i, Gl (X i) x) (hm : ∀ i, (X i).mg x = some u) (r : RelV v u) (h : ∀ F, Rp G.K F v d) (hd : (x == ("__debug__" : Str)) = false) : XE G X W (.Name x pos) (fC d) :=
  ⟨_, fun i => pe_glob (hg i) (hm i) r hd, snd_c h⟩
/-! ### displays -/
def fTup (f : Fn (List Bv)) : Fn Cl := fun n ρ => bnd (f n ρ) fun bs ρ1 => match fzBs ρ1 bs with
  | some (ds, ρ2) => if ds.length ≤ 1000 then some (.ok (.fz (.tuple ds)) ρ2) else none
  | none => none
def fLst (f : Fn (List Bv)) : Fn Cl := fun n ρ => bnd (f n ρ) fun bs ρ1 => match fzBs ρ1 bs with
  | some (ds, ρ2) => if ds.length ≤ 1000 then some (.ok (.lst ds) ρ2) else none
  | none => none
theorem line1000 {n : Nat} (h : n ≤ 1000) : n ≤ sizeLine := Nat.le_of_lt (small1000 h)
theorem R.newTup {F H : Hp} {ρ : En} {σ : L2.St} {T : List (Cl × V)} {p : Addr} {vs : List V} {ds : List D} (hR : G.R F H ρ σ T) (hp : H p = none) (r : RpA G.K F vs ds) : Same F (upd F p (.tup vs)) ∧ G.R (upd F p (.tup vs)) (upd H p (.tup vs)) ρ σ ((.fz (.tuple ds), .ref p) :: T) := by
  obtain ⟨s, q⟩ := hR.hr.newF (o := .tup vs) hp
  exact ⟨s, R.push ⟨q, hR.ok⟩ (.tup (.inl (.inl upd_same)) (r.mono s))⟩
theorem R.newLst {F H : Hp} {ρ : En} {σ : L2.St} {T : List (Cl × V)} {p : Addr} {vs : List V} {ds : List D} (hR : G.R F H ρ σ T) (hp : H p = none) (r : RpA G.K F vs ds) : G.R F (upd H p (.lst vs)) ρ σ ((.lst ds, .ref p) :: T) :=
  .mk' (hR.hr.newO hp (.lst upd_same (hR.sub.free hp) r)) hR.ok
theorem snd_tup {t : TA} {f : Fn (List Bv)} (h : SndBs G W t f) : SndE G W (tTup t) (fTup f) := fun n ρ r e F H σ T Q hR hP => by
  unfold fTup at e
  cases q : f n ρ with
  | none => rw [q] at e; cases e
  | some r1 =>
    rw [q] at e
    refine h n ρ r1 q F H σ T _ hR ?_
    cases r1 with
    | ex x ρ' => cases e; exact hP
    | ok bs ρ1 =>
      rw [bnd_ok] at e
      cases q2 : fzBs ρ1 bs with
      | none => rw [q2] at e; cases e
      | some p =>
        obtain ⟨ds, ρ2⟩ := p
        rw [q2] at e
        dsimp only at e
        split at e
        · rename_i hz
          cases e
          intro F1 H1 vs s1 R1 v1
          obtain ⟨F2, s2, R2, r2⟩ := fz_many R1 v1 q2
          refine ⟨by rw [r2.length]; exact line1000 hz, fun p hp => ?_⟩
          obtain ⟨s3, R3⟩ := R.newTup R2 hp r2
          exact hP _ _ _ ((s1.trans s2).trans s3) R3
        · cases e
theorem snd_lst {t : TA} {f : Fn (List Bv)} (h : SndBs G W t f) : SndE G W (tLst t) (fLst f) := fun n ρ r e F H σ T Q hR hP => by
  unfold fLst at e
  cases q : f n ρ with
  | none => rw [q] at e; cases e
  | some r1 =>
    rw [q] at e
    refine h n ρ r1 q F H σ T _ hR ?_
    cases r1 with
    | ex x ρ' => cases e; exact hP
    | ok bs ρ1 =>
      rw [bnd_ok] at e
      cases q2 : fzBs ρ1 bs with
      | none => rw [q2] at e; cases e
      | some p =>
        obtain ⟨ds, ρ2⟩ := p
        rw [q2] at e
        dsimp only at e
        split at e
        · rename_i hz
          cases e
          intro F1 H1 vs s1 R1 v1
          obtain ⟨F2, s2, R2, r2⟩ := fz_many R1 v1 q2
          refine ⟨by rw [r2.length]; exact line1000 hz, fun p hp => ?_⟩
          exact hP _ _ _ (s1.trans s2) (R.newLst R2 hp r2)
        · cases e
theorem xe_tup {f : Fn (List Bv)} {k : Nat} {pos : Pos} (h : XBs G X W es f) : XE G X W (.Tuple es k pos) (fTup f) := by
  obtain ⟨t, h1, h2⟩ := h
  exact ⟨_, fun i => pe_tup (h1 i), snd_tup h2⟩
theorem xe_lst {f : Fn (List Bv)} {pos : Pos} (h : XBs G X W es f) : XE G X W (.List es pos) (fLst f) := by
  obtain ⟨t, h1, h2⟩ := h
  exact ⟨_, fun i => pe_lst (h1 i), snd_lst h2⟩

/-! ### tests -/
def asB (c : Cl) : Option Bool := match c with
  | .fz (.bool b) => some b
  | _ => none
def fTst (f : Fn Cl) : Fn Bool := fun n ρ => bnd (f n ρ) fun c ρ1 => match asB c with
  | some b => some (.ok b ρ1)
  | none => none
theorem asB_some {c : Cl} {b : Bool} (h : asB c = some b) : c = .fz (.bool b) := by
  unfold asB at h
  split at h
  · cases h; rfl
  · cases h
theorem snd_tB {t : TE} {f : Fn Cl} (h : SndE G W t f) : SndT G W (tB t) (fTst f) := fun n ρ r e F H σ T Q hR hP => by
  unfold fTst at e
  cases q : f n ρ with
  | none => rw [q] at e; cases e
  | some r1 =>
    rw [q] at e
    refine h n ρ r1 q F H σ T _ hR ?_
    cases r1 with
    | ex x ρ' => cases e; exact hP
    | ok c ρ1 =>
      rw [bnd_ok] at e
      cases q2 : asB c with
      | none => rw [q2] at e; cases e
      | some b =>
        rw [q2] at e
        cases e
        have ec := asB_some q2
        subst ec
        intro F1 H1 v s1 R1
        have r := R1.rp
        cases r
        exact ⟨b, rfl, hP F1 H1 s1 R1.tail⟩
theorem xt_val {f : Fn Cl} (h : XE G X W e f) (he : ∀ i, ∀ whole, isTrue e (X i).env whole = (do let v ← whole; standAt e.pos; holding [v] (truthy v))) : XT G X W e (fTst f) := by
  obtain ⟨t, h1, h2⟩ := h
  exact ⟨_, fun i => pt_val (h1 i) (he i), snd_tB h2⟩
variable {a b : Expr} {fa fb : Fn Bv} {g : List Cl → Option Cl} {pos : Pos}
theorem xt_cmp {op : CmpOp} {r : R2} (ho : ∀ i, OpR (X i) (compareOp op) r) (hp : Prm G (l2 r) g) (ha : XB G X W a fa) (hb : XB G X W b fb) (hm : behindInMarks op b = false) : XT G X W (.Compare a [op] [b] pos) (fTst (f2 fa fb g)) := by
  obtain ⟨ta, h1, h2⟩ := ha
  obtain ⟨tb, h3, h4⟩ := hb
  exact ⟨_, fun i => pt_cmpR (ho i) (h1 i) (h3 i) hm, snd_tB (snd_prm (r := l2 r) (snd_cons h2 (snd_cons h4 snd_nil)) hp)⟩
variable {tA tB' : Fn Bool} {rest : List Expr}
def fAnd (t u : Fn Bool) : Fn Bool := fun n ρ => bnd (t n ρ) fun c ρ1 => if c = true then u n ρ1 else some (.ok false ρ1)
def fOr (t u : Fn Bool) : Fn Bool := fun n ρ => bnd (t n ρ) fun c ρ1 => if c = true then some (.ok true ρ1) else u n ρ1
def fNot (t : Fn Bool) : Fn Bool := fun n ρ => bnd (t n ρ) fun c ρ1 => some (.ok (!c) ρ1)
theorem xw_and1 (h : XT G X W a tA) : XW G X W (.BoolOp .And [a] pos) tA := by
  obtain ⟨t, h1, h2⟩ := h
  exact ⟨t, fun i => pw_and1 (h1 i), h2⟩
theorem xw_or1 (h : XT G X W a tA) : XW G X W (.BoolOp .Or [a] pos) tA := by
  obtain ⟨t, h1, h2⟩ := h
  exact ⟨t, fun i => pw_or1 (h1 i), h2⟩
theorem snd_and {t u : TT} {f g : Fn Bool} (h : SndT G W t f) (k : SndT G W u g) : SndT G W (tAnd t u) (fAnd f g) := fun n ρ r e F H σ T Q hR hP => by
  unfold fAnd at e
  cases q : f n ρ with
  | none => rw [q] at e; cases e
  | some r1 =>
    rw [q] at e
    refine h n ρ r1 q F H σ T _ hR ?_
    cases r1 with
    | ex x ρ' => cases e; exact hP
    | ok c ρ1 =>
      rw [bnd_ok] at e
      intro F1 H1 s1 R1
      cases c with
      | true =>
        rw [if_pos rfl] at e
        rw [if_pos rfl]
        refine k n ρ1 r e F1 H1 σ T Q R1 ?_
        cases r with
        | ex x ρ' => exact PoX.mono hP s1
        | ok d ρ2 => exact fun F2 H2 s2 R2 => hP F2 H2 (s1.trans s2) R2
      | false =>
        rw [if_neg Bool.false_ne_true] at e
        rw [if_neg Bool.false_ne_true]
        cases e
        exact hP F1 H1 s1 R1
theorem snd_or {t u : TT} {f g : Fn Bool} (h : SndT G W t f) (k : SndT G W u g) : SndT G W (tOr t u) (fOr f g) := fun n ρ r e F H σ T Q hR hP => by
  unfold fOr at e
  cases q : f n ρ with
  | none => rw [q] at e; cases e
  | some r1 =>
    rw [q] at e
    refine h n ρ r1 q F H σ T _ hR ?_
    cases r1 with
    | ex x ρ' => cases e; exact hP
    | ok c ρ1 =>
      rw [bnd_ok] at e
      intro F1 H1 s1 R1
      cases c with
      | false =>
        rw [if_neg Bool.false_ne_true] at e
        rw [if_neg Bool.false_ne_true]
        refine k n ρ1 r e F1 H1 σ T Q R1 ?_
        cases r with
        | ex x ρ' => exact PoX.mono hP s1
        | ok d ρ2 => exact fun F2 H2 s2 R2 => hP F2 H2 (s1.trans s2) R2
      | true =>
        rw [if_pos rfl] at e
        rw [if_pos rfl]
        cases e
        exact hP F1 H1 s1 R1
theorem snd_not {t : TT} {f : Fn Bool} (h : SndT G W t f) : SndT G W (tNot t) (fNot f) := fun n ρ r e F H σ T Q hR hP => by
  unfold fNot at e
  cases q : f n ρ with
  | none => rw [q] at e; cases e
  | some r1 =>
    rw [q] at e
    refine h n ρ r1 q F H σ T _ hR ?_
    cases r1 with
    | ex x ρ' => cases e; exact hP
    | ok c ρ1 =>
      cases e
      exact fun F1 H1 s1 R1 => hP F1 H1 s1 R1
theorem xw_and (ha : XT G X W a tA) (hb : XW G X W (.BoolOp .And (b :: rest) pos) tB') : XW G X W (.BoolOp .And (a :: b :: rest) pos) (fAnd tA tB') := by
  obtain ⟨t, h1, h2⟩ := ha
  obtain ⟨u, h3, h4⟩ := hb
  exact ⟨_, fun i => pw_and (h1 i) (h3 i), snd_and h2 h4⟩
theorem xw_or (ha : XT G X W a tA) (hb : XW G X W (.BoolOp .Or (b :: rest) pos) tB') : XW G X W (.BoolOp .Or (a :: b :: rest) pos) (fOr tA tB') := by
  obtain ⟨t, h1, h2⟩ := ha
  obtain ⟨u, h3, h4⟩ := hb
  exact ⟨_, fun i => pw_or (h1 i) (h3 i), snd_or h2 h4⟩
theorem xt_w {f : Fn Bool} (h : XW G X W e f) : XT G X W e f := by
  obtain ⟨t, h1, h2⟩ := h
  exact ⟨t, fun i => (h1 i).pt, h2⟩
theorem xt_not (h : XT G X W a tA) : XT G X W (.UnaryOp .Not a pos) (fNot tA) := by
  obtain ⟨t, h1, h2⟩ := h
  exact ⟨_, fun i => pt_not (h1 i), snd_not h2⟩
/-! ### .. as values -/
def fBv (t : Fn Bool) : Fn Cl := fun n ρ => bnd (t n ρ) fun c ρ1 => some (.ok (.fz (.bool c)) ρ1)
def fAndV (f : Fn Cl) (g : Fn Cl) : Fn Cl := fun n ρ => bnd (fTst f n ρ) fun c ρ1 => if c = true then g n ρ1 else some (.ok (.fz (.bool false)) ρ1)
def fOrV (f : Fn Cl) (g : Fn Cl) : Fn Cl := fun n ρ => bnd (fTst f n ρ) fun c ρ1 => if c = true then some (.ok (.fz (.bool true)) ρ1) else g n ρ1
theorem xe_one {op : BoolOp} {f : Fn Cl} (h : XE G X W a f) : XE G X W (.BoolOp op [a] pos) f := by
  obtain ⟨t, h1, h2⟩ := h
  exact ⟨t, fun i => pe_one (h1 i), h2⟩
theorem PoE.mono {F F1 : Hp} {σ : L2.St} {T : List (Cl × V)} {Q : VK} {r : Rz Cl} (h : PoE G W F σ T Q r) (s : Same F F1) : PoE G W F1 σ T Q r := by
  cases r with
  | ok c ρ => exact fun F' H' v s' r' => h F' H' v (s.trans s') r'
  | ex x ρ => exact PoX.mono h s
theorem xe_and {f g : Fn Cl} (ha : XE G X W a f) (hb : XE G X W (.BoolOp .And (b :: rest) pos) g) : XE G X W (.BoolOp .And (a :: b :: rest) pos) (fAndV f g) := by
  obtain ⟨t, h1, h2⟩ := ha
  obtain ⟨u, h3, h4⟩ := hb
  refine ⟨_, fun i => pe_and (h1 i) (h3 i), fun n ρ r e F H σ T Q hR hP => ?_⟩
  unfold fAndV at e
  cases q : fTst f n ρ with
  | none => rw [q] at e; cases e
  | some r1 =>
    rw [q] at e
    refine snd_tB h2 n ρ r1 q F H σ T (fun c H1 => if c = true then u σ H1 Q else Q (.bl false) H1) hR ?_
    cases r1 with
    | ex x ρ' => cases e; exact hP
    | ok c ρ1 =>
      rw [bnd_ok] at e
      intro F1 H1 s1 R1
      cases c with
      | true =>
        rw [if_pos rfl] at e
        rw [if_pos rfl]
        exact h4 n ρ1 r e F1 H1 σ T Q R1 (hP.mono s1)
      | false =>
        rw [if_neg Bool.false_ne_true] at e
        rw [if_neg Bool.false_ne_true]
        cases e
        exact hP F1 H1 _ s1 (R1.push (.bl false))
theorem xe_or {f g : Fn Cl} (ha : XE G X W a f) (hb : XE G X W (.BoolOp .Or (b :: rest) pos) g) : XE G X W (.BoolOp .Or (a :: b :: rest) pos) (fOrV f g) := by
  obtain ⟨t, h1, h2⟩ := ha
  obtain ⟨u, h3, h4⟩ := hb
  refine ⟨_, fun i => pe_or (h1 i) (h3 i), fun n ρ r e F H σ T Q hR hP => ?_⟩
  unfold fOrV at e
  cases q : fTst f n ρ with
  | none => rw [q] at e; cases e
  | some r1 =>
    rw [q] at e
    refine snd_tB h2 n ρ r1 q F H σ T (fun c H1 => if c = true then Q (.bl true) H1 else u σ H1 Q) hR ?_
    cases r1 with
    | ex x ρ' => cases e; exact hP
    | ok c ρ1 =>
      rw [bnd_ok] at e
      intro F1 H1 s1 R1
      cases c with
      | false =>
        rw [if_neg Bool.false_ne_true] at e
        rw [if_neg Bool.false_ne_true]
        exact h4 n ρ1 r e F1 H1 σ T Q R1 (hP.mono s1)
      | true =>
        rw [if_pos rfl] at e
        rw [if_pos rfl]
        cases e
        exact hP F1 H1 _ s1 (R1.push (.bl true))
theorem xe_not {f : Fn Cl} (ha : XE G X W a f) : XE G X W (.UnaryOp .Not a pos) (fBv (fNot (fTst f))) := by
  obtain ⟨t, h1, h2⟩ := ha
  refine ⟨_, fun i => pe_not (h1 i), fun n ρ r e F H σ T Q hR hP => ?_⟩
  unfold fBv at e
  cases q : fNot (fTst f) n ρ with
  | none => rw [q] at e; cases e
  | some r1 =>
    rw [q] at e
    refine snd_not (snd_tB h2) n ρ r1 q F H σ T (fun c H1 => Q (.bl c) H1) hR ?_
    cases r1 with
    | ex x ρ' => cases e; exact hP
    | ok c ρ1 =>
      cases e
      exact fun F1 H1 s1 R1 => hP F1 H1 _ s1 (R1.push (.bl c))
def fIf (t : Fn Bool) (f g : Fn Cl) : Fn Cl := fun n ρ => bnd (t n ρ) fun c ρ1 => if c = true then f n ρ1 else g n ρ1
theorem xe_if {c : Expr} {f g : Fn Cl} (hc : XT G X W c tA) (ha : XE G X W a f) (hb : XE G X W b g) : XE G X W (.IfExp c a b pos) (fIf tA f g) := by
  obtain ⟨t, h1, h2⟩ := hc
  obtain ⟨ta, h3, h4⟩ := ha
  obtain ⟨tb, h5, h6⟩ := hb
  refine ⟨_, fun i => pe_ifExp (h1 i) (h3 i) (h5 i), fun n ρ r e F H σ T Q hR hP => ?_⟩
  unfold fIf at e
  cases q : tA n ρ with
  | none => rw [q] at e; cases e
  | some r1 =>
    rw [q] at e
    refine h2 n ρ r1 q F H σ T _ hR ?_
    cases r1 with
    | ex x ρ' => cases e; exact hP
    | ok c ρ1 =>
      rw [bnd_ok] at e
      intro F1 H1 s1 R1
      cases c with
      | true =>
        rw [if_pos rfl] at e
        show if true = true then _ else _
        rw [if_pos rfl]
        exact h4 n ρ1 r e F1 H1 σ T Q R1 (hP.mono s1)
      | false =>
        rw [if_neg Bool.false_ne_true] at e
        show if false = true then _ else _
        rw [if_neg Bool.false_ne_true]
        exact h6 n ρ1 r e F1 H1 σ T Q R1 (hP.mono s1)
/-- a op b op' c -/
def fCh (fa fb fc : Fn Bv) (g g' : List Cl → Option Cl) : Fn Cl := fun n ρ => bnd (fa n ρ) fun ba ρ0 => bnd (fb n ρ0) fun bb ρ1 => match lks ρ1 [ba, bb] with
  | some cs => match g cs with
    | some (.fz (.bool true)) => bnd (fc n ρ1) fun bc ρ2 => match lks ρ2 [bb, bc] with
      | some cs' => match g' cs' with
        | some c' => some (.ok c' ρ2)
        | none => none
      | none => none
    | some (.fz (.bool false)) => some (.ok (.fz (.bool false)) ρ1)
    | _ => none
  | none => none
theorem snd_ch {ta tb tc : TE} {fc : Fn Bv} {r r' : R2} {g' : List Cl → Option Cl} (h1 : SndB G W ta fa) (h2 : SndB G W tb fb) (h3 : SndB G W tc fc) (hp : Prm G (l2 r) g) (hp' : Prm G (l2 r') g') : SndE G W (tChain r r' ta tb tc) (fCh fa fb fc g g') := fun n ρ o e F H σ T Q hR hP => by
  unfold fCh at e
  cases q : fa n ρ with
  | none => rw [q] at e; cases e
  | some r1 =>
    rw [q] at e
    refine h1 n ρ r1 q F H σ T _ hR ?_
    cases r1 with
    | ex x ρ' => cases e; exact hP
    | ok ba ρ0 =>
      rw [bnd_ok] at e
      intro F1 H1 x s1 R1 v1
      cases q2 : fb n ρ0 with
      | none => rw [q2] at e; cases e
      | some r2 =>
        rw [q2] at e
        refine h2 n ρ0 r2 q2 F1 H1 σ _ _ R1 ?_
        cases r2 with
        | ex x ρ' => cases e; exact PoX.dropT hP s1
        | ok bb ρ1 =>
          rw [bnd_ok] at e
          intro F2 H2 y s2 R2 v2
          cases q3 : lks ρ1 [ba, bb] with
          | none => rw [q3] at e; cases e
          | some cs =>
            rw [q3] at e
            dsimp only at e
            have cr := bvs_cr (bs := [ba, bb]) (vs := [x, y]) (T0 := T) R2 (fun _ z => z) ⟨v1, v2, trivial⟩ q3
            have R0 : G.R F2 H2 ρ1 σ (bvT bb y T) := by
              cases bb with
              | pl j => exact bvT_drop ba x R2
              | vl c =>
                cases ba with
                | pl j => exact R2
                | vl c' => exact R.drop2 (x := (c', x)) R2
            cases q4 : g cs with
            | none => rw [q4] at e; cases e
            | some c =>
              rw [q4] at e
              refine hp F2 H2 (eL ρ1 σ ++ (bvT bb y T)) cs [x, y] c _ R0.hr cr q4 fun F3 H3 z s3 hz => ?_
              have Rz : G.R F3 H3 ρ1 σ ((c, z) :: bvT bb y T) := .mk' hz R0.ok
              split at e
              · rename_i ez
                cases ez
                have rz := Rz.rp
                cases rz
                refine ⟨true, rfl, ?_⟩
                rw [if_pos rfl]
                cases q5 : fc n ρ1 with
                | none => rw [q5] at e; cases e
                | some r3 =>
                  rw [q5] at e
                  refine h3 n ρ1 r3 q5 F3 H3 σ _ _ Rz.tail ?_
                  cases r3 with
                  | ex x ρ' => cases e; exact PoX.dropT hP ((s1.trans s2).trans s3)
                  | ok bc ρ2 =>
                    rw [bnd_ok] at e
                    intro F4 H4 w s4 R4 v4
                    cases q6 : lks ρ2 [bb, bc] with
                    | none => rw [q6] at e; cases e
                    | some cs' =>
                      rw [q6] at e
                      dsimp only at e
                      cases q7 : g' cs' with
                      | none => rw [q7] at e; cases e
                      | some c' =>
                        rw [q7] at e
                        cases e
                        have cr' := bvs_cr (bs := [bb, bc]) (vs := [y, w]) (T0 := T) R4 (fun _ z => z) ⟨v2, v4, trivial⟩ q6
                        have R5 : G.R F4 H4 ρ2 σ T := bvT_drop bb y (bvT_drop bc w R4)
                        exact hp' F4 H4 _ cs' [y, w] c' _ R5.hr cr' q7 fun F5 H5 z' s5 h5 => hP F5 H5 z' ((((s1.trans s2).trans s3).trans s4).trans s5) (.mk' h5 R5.ok)
              · rename_i ez
                cases ez
                have rz := Rz.rp
                cases rz
                refine ⟨false, rfl, ?_⟩
                rw [if_neg Bool.false_ne_true]
                cases e
                exact hP F3 H3 _ ((s1.trans s2).trans s3) ((bvT_drop bb y Rz.tail).push (.bl false))
              · cases e
theorem xe_ch {op op' : CmpOp} {r r' : R2} {c : Expr} {fc : Fn Bv} {g' : List Cl → Option Cl} (ho : ∀ i, OpR (X i) (compareOp op) r) (ho' : ∀ i, OpR (X i) (compareOp op') r') (hp : Prm G (l2 r) g) (hp' : Prm G (l2 r') g') (ha : XB G X W a fa) (hb : XB G X W b fb) (hc : XB G X W c fc)
    (hm : lastMarks [op, op'] [b, c] = false) : XE G X W (.Compare a [op, op'] [b, c] pos) (fCh fa fb fc g g') := by
  obtain ⟨ta, h1, h2⟩ := ha
  obtain ⟨tb, h3, h4⟩ := hb
  obtain ⟨tc, h5, h6⟩ := hc
  exact ⟨_, fun i => pe_chain (ho i) (ho' i) (h1 i) (h3 i) (h5 i) hm, snd_ch h2 h4 h6 hp hp'⟩
theorem xt_ch {op op' : CmpOp} {r r' : R2} {c : Expr} {fc : Fn Bv} {g' : List Cl → Option Cl} (ho : ∀ i, OpR (X i) (compareOp op) r) (ho' : ∀ i, OpR (X i) (compareOp op') r') (hp : Prm G (l2 r) g) (hp' : Prm G (l2 r') g') (ha : XB G X W a fa) (hb : XB G X W b fb) (hc : XB G X W c fc)
    (hm : lastMarks [op, op'] [b, c] = false) : XT G X W (.Compare a [op, op'] [b, c] pos) (fTst (fCh fa fb fc g g')) := by
  obtain ⟨ta, h1, h2⟩ := ha
  obtain ⟨tb, h3, h4⟩ := hb
  obtain ⟨tc, h5, h6⟩ := hc
  exact ⟨_, fun i => pt_chain (ho i) (ho' i) (h1 i) (h3 i) (h5 i) hm, snd_tB (snd_ch h2 h4 h6 hp hp')⟩
end
end L3

namespace L3
open PySem PySem.Spec L2 PyProof.Rows

/-! ### enumerate over a thing whose iterator is at hand -/
/-- v opens where H holds: its iterator, and the heap behind -/
def Opens (v : Value) (H : Heap → Prop) (it : Heap → Addr) (behind : Heap → Heap) : Prop := ∀ (prog : Program) (w : World) (A : Around) (E : Value → Shared → Prop) (s : Shared) (Q : Value → Shared → Prop), H s.heap →
  Q (.ref (it s.heap)) { s with heap := behind s.heap } → wpAny (model prog w) A (pyIter v) Q E s
/-- the record of enumerate(v) before its first turn -/
abbrev enO (it : Addr) : Obj := { cls := .type "enumerate", data := .fields #[.none, .bool false, .ref it, rawInt 0, .none, .none] }
set_option maxHeartbeats 1000000 in
theorem meets_enum {v : Value} {H : Heap → Prop} {it : Heap → Addr} {behind : Heap → Heap} (op : Opens v H it behind) :
    Meets (Builtin.«enumerate.__new__» ⟨[.type "enumerate", v], []⟩) (fun _ R s => H s.heap ∧ R (.ok (.ret (.ref (behind s.heap).objs.size))) { s with heap := (behind s.heap).push (enO (it s.heap)) }) :=
  .of_wp fun prog w A R s hyp => by
    obtain ⟨can, post⟩ := hyp
    have self := PySem.sub_enumerate
    have opened : ∀ {A' : Around} {E : Value → Shared → Prop} {Q : Value → Shared → Prop}, Q (.ref (it s.heap)) { s with heap := behind s.heap } → wpAny (model prog w) A' (pyIter v) Q E s := op prog w _ _ s _ can
    wp_walk using opened
    refine wpAny_stack_any fun _ => wpAny_pure ?_
    split <;> first | (rename_i c _ _ _ _ _; cases (c == Value.type "enumerate") <;> (wp_walk using opened; exact ⟨_, rfl, post⟩)) | (wp_walk using opened; exact ⟨_, rfl, post⟩)
theorem enum_over {prog : Program} {w : World} {A : Around} {E : Value → Shared → Prop} {s : Shared} {v : Value} {H : Heap → Prop} {it : Heap → Addr} {behind : Heap → Heap} {Q : Value → Shared → Prop} (op : Opens v H it behind) (can : H s.heap)
    (post : ∀ h', IsEnum h' (behind s.heap).objs.size (it s.heap) 0 .none → h'.objs.size = (behind s.heap).objs.size + 1 → (∀ c o, (behind s.heap).get? c = some o → h'.get? c = some o) → Q (.ref (behind s.heap).objs.size) { s with heap := h' }) :
    wpAny (model prog w) A (call (.type "enumerate") [v]) Q E s := by
  have en : IsEnum ((behind s.heap).push (enO (it s.heap))) (behind s.heap).objs.size (it s.heap) 0 .none := Heap.get?_push_size _ rfl
  exact callType_new PySem.F.called_enumerate (by decide) (PySem.F.typeCall_enumerate_1 _) (PySem.F.newCall_enumerate_1 _) (fun obj => PySem.F.args_object_init_2 obj _) PySem.F.entry_enumerate_new
    (meets_enum op) ⟨can, ⟨_, en, rfl⟩, post _ en (Heap.size_push ..) fun _ _ => Heap.get?_push_of_some _⟩
theorem enum_begins0 {prog : Program} {w : World} {A : Around} {E : Value → Shared → Prop} {s : Shared} {v : Value} {o : Obj} {H : Heap → Prop} {Q : Value → Shared → Prop} (B : Begins v o H) (can : H s.heap)
    (post : ∀ h', IsEnum h' (s.heap.objs.size + 1) s.heap.objs.size 0 .none → h'.get? s.heap.objs.size = some o → h'.objs.size = s.heap.objs.size + 2 → (∀ c o, s.heap.get? c = some o → h'.get? c = some o) → Q (.ref (s.heap.objs.size + 1)) { s with heap := h' }) :
    wpAny (model prog w) A (call (.type "enumerate") [v]) Q E s :=
  enum_over (behind := fun h => h.push o) (it := fun h => h.objs.size) (fun prog w A E s Q => B.iter prog w A E s Q) can fun h' en sz kept => by
    have one : (s.heap.push o).objs.size = s.heap.objs.size + 1 := Heap.size_push ..
    simp only [one] at en sz ⊢
    exact post h' en (kept _ _ (Heap.get?_push_size _ B.free)) sz fun c o q => kept c o (Heap.get?_push_of_some _ q)
/-! ### enumerate(tuple) -/
def IteT (K : PySem.W.Frag) (a : Addr) : It :=
  ⟨fun i H => ∃ (xs : List V) (x : V), SqT K H a xs ∧ xs[i]? = some x, fun i H v H' => ∃ T x, v = .ref T ∧ H T = none ∧ H' = upd H T (.tup [.int (i : Nat), x]) ∧ ∀ xs, SqT K H a xs → xs[i]? = some x, fun i H => ∃ xs : List V, SqT K H a xs ∧ xs.length ≤ i⟩
/-- the end of enumerate over a tuple that is used up, whatever the count is -/
theorem enum_done {prog : Program} {w : World} {A : Around} {E : Value → Shared → Prop} {s : Shared} {e it a : Addr} {i : Nat} {c : Int} {old : Value} {its : Array Value} {Q : Option Value → Shared → Prop} (hh : A.handled = none) (en : IsEnum s.heap e it c old)
    (iter : s.heap.IsTupleIter it a i) (tup : s.heap.IsTuple a its) (full : its.size ≤ i) (q : ∀ h', Heap.ExtBut it s.heap h' → Q none { s with heap := h' }) : wpAny (model prog w) A (pyNext (.ref e)) Q E s :=
  wpAny_pyNext_enum_endD (n := i) (P := fun _ _ => True) (St := fun j h => j = i ∧ h.IsTupleIter it a i ∧ h.IsTuple a its)
    { live := fun _ _ st => st.2.1.imp fun _ z => z.1
      frame := fun _ _ _ st k => ⟨st.1, st.2.1.at fun o z => k it (.head _) o z, st.2.2.at fun o z => k a (.tail _ (.head _)) o z⟩
      item := fun _ _ _ _ lt st _ => absurd st.1 (Nat.ne_of_lt lt)
      done := fun _ _ _ st h => wpAny_nextOf_tuple_end hh st.2.1 st.2.2 (Array.getElem?_eq_none full) h : Draws prog w A.in1 it [it, a] i _ _ } en ⟨rfl, iter, tup⟩ q
/-- the pair (i, x) that enumerate has laid at T: once the loop has let go of it, it stands as a tuple of ours, and the iterators have turned -/
theorem pair_laid {X : Cx} {pins : List (Addr × Obj)} {σ : L2.St} {H : Hp} {s : Shared} {h' : Heap} {tk i : Nat} {e it T : Addr} {x : V} {u : Value} {ch : List Addr} {elts : List Expr} {kk : Nat} {tpos : Pos} {E : Value → Shared → Prop}
    (I : L2.Inv X pins σ H s) (new : s.heap.objs.size ≤ T) (hf : ∀ b ∈ ch, FpOk X pins H b) (me : e ∈ ch) (lt : ∀ b ∈ ch, b < T) (ru : RelV x u) (out : IsEnumOut h' e it ((i : Int) + 1) u T)
    (laid : h'.get? T = some { cls := .type "tuple", data := .seq #[.int i tk, u] }) (kept : ∀ b o, b ∉ ch → s.heap.get? b = some o → h'.get? b = some o) :
    wpAny (model X.prog X.w) X.A (letOwnedTupleGo (.Tuple elts kk tpos) (.ref e) (.ref T)) (fun _ t => Inv X pins σ (upd H T (.tup [.int i, x])) t ∧ IsEnum t.heap e it ((i : Int) + 1) u ∧ Heap.SameBut e h' t.heap) E { s with heap := h', toks := tk + 1 } :=
  wpAny_letOwnedTupleGo_enum (s := { s with heap := h', toks := tk + 1 }) out fun h2 en same =>
    ⟨I.turnedNew (ch := ch) (fun b o nb q => (same.2 b fun z => nb (z ▸ me)).trans (kept b o nb q)) hf new ⟨by show 2 ≤ sizeLine; decide, [.int i tk, u], .cons ⟨tk, rfl⟩ (.cons ru .nil), ⟨_, (same.2 _ (Nat.ne_of_gt (lt e me))).trans laid, rfl, 0, rfl⟩⟩, en, same⟩
theorem fp_none {H : Hp} {n : Addr} {o : HO} {ch : List Addr} (lt : ∀ b ∈ ch, b < n) (hn : ∀ b ∈ ch, H b = none) : ∀ b ∈ ch, upd H n o b = none := fun b hb => (upd_ne (Nat.ne_of_lt (lt b hb))).trans (hn b hb)
theorem turn_enumT {P : Program} {w : World} {K : PySem.W.Frag} {elts : List Expr} {kk : Nat} {tpos : Pos} (a e it : Addr) :
    Turn P w K (.Tuple elts kk tpos) (IteT K a) [e, it] e (fun i h => (∃ old, IsEnum h e it ((i : Nat) : Int) old) ∧ h.IsTupleIter it a i ∧ e ≠ it ∧ a ≠ it ∧ a ≠ e) where
  mem := List.mem_cons_self
  obj _ _ st b hb := by
    have ⟨⟨_, en⟩, ⟨o, at_, _, dd⟩, _⟩ := st
    match b, hb with
    | _, .head _ => exact ⟨_, en, nofun⟩
    | _, .tail _ (.head _) => exact ⟨o, at_, fun v z => nomatch dd.symm.trans z⟩
  keep _ _ _ st k := ⟨st.1.imp fun _ en => k e (.head _) _ en, st.2.1.at fun o q => k it (.tail _ (.head _)) o q, st.2.2⟩
  item X hP hw hK calm i pins s σ H E I hf st hg := by
    cases hP; cases hw; cases hK
    have ⟨⟨_, en⟩, iter, ne, ni, nE⟩ := st
    have ⟨xs, x, hq, at_⟩ := hg
    have ⟨its, rv, tup, _⟩ := I.tuple hq
    have ⟨u, au, ru⟩ := rv.get at_
    have lt : ∀ b ∈ [e, it], b < s.heap.objs.size := fun
      | _, .head _ => Heap.lt_size en
      | _, .tail _ (.head _) => Heap.lt_size iter.choose_spec.1
    have inb : i < its.toArray.size := by
      have := (List.getElem?_eq_some_iff.mp au).1
      rwa [List.size_toArray]
    refine wpAny_pyNext_enum_itemC (Draws.tuple (A := X.A.in1) (I.ok.hd calm) it a ni its.toArray) en ⟨iter, tup⟩ inb ne (by simp [ne, Ne.symm nE]) fun y h' tk hy out st' laid _ kept => ⟨_, rfl, ?_⟩
    obtain rfl : y = u := Option.some.inj ((show its[i]? = some y by simpa using hy).symm.trans au)
    refine wpAny_mono (pair_laid (ch := [e, it]) I (Nat.le_refl _) hf (.head _) lt ru out laid fun b o nb => kept b o (fun z => nb (z ▸ .head _)) fun z => nb (z ▸ .tail _ (.head _))) (fun _ t ⟨J, en', same⟩ => ?_) fun _ _ z => z
    exact ⟨V.ref s.heap.objs.size, _, J, rfl, ⟨_, x, rfl, I.hok.fresh (Nat.le_refl _), rfl, fun ys hy => (I.tuple_inj hy hq) ▸ at_⟩, ⟨⟨y, by rw [Int.natCast_succ]; exact en'⟩, st'.1.at fun o q => (same.2 it (Ne.symm ne)).trans q, ne, ni, nE⟩, fp_none lt fun b hb => (hf b hb).1⟩
  done X hP hw hK calm i pins s σ H E I hf st hg := by
    cases hP; cases hw; cases hK
    have ⟨⟨_, en⟩, iter, _, ni, _⟩ := st
    have ⟨xs, hq, over⟩ := hg
    have ⟨its, rv, tup, _⟩ := I.tuple hq
    have ⟨f0, f1, f2, f3, f4, f5⟩ := hf it (.tail _ (.head _))
    have full : its.toArray.size ≤ i := by rw [List.size_toArray, ← rv.length]; exact over
    exact enum_done (I.ok.hd calm) en iter tup full fun h' ext => ⟨rfl, I.turned (t' := s.toks) (fun b o nb q => ext b o nb q) f0 f1 f3 f4 f5⟩
  self _ _ _ _ _ st h := st.1.elim fun _ en => wpAny_pyIter_enum en h
/-- over a list or a tuple -/
def iEnumA (K : PySem.W.Frag) (ta : TA) : TI := fun σ H R => ta σ H fun vs H1 => ∃ a, vs = [.ref a] ∧ ((∃ xs, SqL K H1 a xs ∧ R (Ite K a) H1) ∨ (∃ xs, SqT K H1 a xs ∧ R (IteT K a) H1))
/-- two objects just laid, both of the iterator -/
theorem two_new {X : Cx} {pins : List (Addr × Obj)} {σ : L2.St} {H : Hp} {s : Shared} (I : L2.Inv X pins σ H s) : ∀ b ∈ [s.heap.objs.size + 1, s.heap.objs.size], FpOk X pins H b
  | _, .head _ => I.fpOk (Nat.le_succ _) (I.hok.fresh (Nat.le_succ _))
  | _, .tail _ (.head _) => I.fpOk (Nat.le_refl _) (I.hok.fresh (Nat.le_refl _))
theorem pi_enumA {X : Cx} {e : Expr} {ta : TA} {p pos tpos : Pos} {elts : List Expr} {kk : Nat} (hg : Gl X "enumerate") (hm : X.mg "enumerate" = none) (ha : PA X [e] ta) (hs : starEach [e] X.env = [(false, eval e X.env)]) :
    PI X (.Tuple elts kk tpos) (.Call (.Name "enumerate" p) [e] [] pos) (iEnumA X.K ta) where
  run pins s σ H R I h := Call_ (ld_blt I hg hm boot_enumerate (PyProof.Rows.callWith_type1 (thn (ha.run pos pins s σ H _ I h) fun us s1 ⟨vs, H1, I1, r1, a, ex, q⟩ => by
    cases ex
    cases r1 with
    | cons r rr =>
      cases rr; cases r
      rcases q with ⟨xs, hq, q⟩ | ⟨xs, hq, q⟩
      · have ⟨its, _, pl, _⟩ := I1.list hq
        exact call_enumerate_list pl.isList fun h' en iter _ k => wpAny_pyIter_enum en ⟨_, _, _, _, H1, rfl, I1.kept (t' := s1.toks) k, turn_enum a _ _, ⟨⟨.none, en⟩, iter, Nat.succ_ne_self _⟩, two_new I1, q⟩
      · have ⟨its, _, tup, _⟩ := I1.tuple hq
        have lt : a < s1.heap.objs.size := tup.elim fun _ z => Heap.lt_size z.1
        exact enum_begins0 (begins_tuple a its.toArray) tup fun h' en iter _ k => wpAny_pyIter_enum en ⟨_, _, _, _, H1, rfl, I1.kept (t' := s1.toks) k, turn_enumT a _ _, ⟨⟨.none, en⟩, ⟨_, iter, rfl, rfl⟩, Nat.succ_ne_self _, Nat.ne_of_lt lt, Nat.ne_of_lt (Nat.lt_succ_of_lt lt)⟩, two_new I1, q⟩) hs rfl))
/-- x in a list or a tuple -/
def iSeq (K : PySem.W.Frag) (tl : TE) : TI := fun σ H R => tl σ H fun x H1 => ∃ a, x = .ref a ∧ ((∃ xs, SqL K H1 a xs ∧ R (Itl K a) H1) ∨ (∃ xs, SqT K H1 a xs ∧ R (Itt K a) H1))
theorem pi_seq {X : Cx} {tg l : Expr} {tl : TE} (hl : PE X l tl) : PI X tg l (iSeq X.K tl) where
  run pins s σ H R I h := thn (hl.run pins s σ H _ I h) fun v s1 ⟨x, H1, I1, r1, a, e, q⟩ => by
    cases e
    cases r1
    cases q with
    | inl q =>
      have ⟨xs, hq, q⟩ := q
      have ⟨its, _, p, _⟩ := I1.list hq
      exact wpAny_pyIter_list p.isList (pi_one I1 _ (turn_list a _) ⟨_, Heap.get?_push_size _ rfl, rfl, rfl⟩ q)
    | inr q =>
      have ⟨xs, hq, q⟩ := q
      have ⟨its, _, p, _⟩ := I1.tuple hq
      exact wpAny_pyIter_tuple (items := its.toArray) p (pi_one I1 _ (turn_tuple a _) ⟨_, Heap.get?_push_size _ rfl, rfl, rfl⟩ q)

/-! ### what a walk over frozen data yields -/
structure ItOk (G : Gd) (J : It) (F : Hp) (ds : List D) : Prop where
  go : ∀ F' H' L i, Same F F' → G.HR F' H' L → i < ds.length → J.go i H'
  yld : ∀ F' H' L i x H'' d, Same F F' → G.HR F' H' L → ds[i]? = some d → J.yld i H' x H'' → ∃ F'', Same F' F'' ∧ G.HR F'' H'' L ∧ Rp G.K F'' x d
  stop : ∀ F' H' L i, Same F F' → G.HR F' H' L → ds.length ≤ i → J.stop i H'
section
variable {G : Gd} {F : Hp} {a b : Addr} {vs ws : List V} {ds es : List D}
theorem itok_lst (h : SqL G.K F a vs) (r : RpA G.K F vs ds) : ItOk G (Itl G.K a) F ds where
  go := fun F' H' L i s hr hi => by
    have hi' : i < vs.length := by rw [r.length]; exact hi
    exact ⟨vs, vs[i], (s.trans hr.sub).seq h, List.getElem?_eq_getElem hi'⟩
  yld := fun F' H' L i x H'' d s hr hd hy => by
    obtain ⟨rfl, hx⟩ := hy
    obtain ⟨v, h1, h2⟩ := r.get hd
    have e := hx vs ((s.trans hr.sub).seq h)
    rw [h1] at e
    cases e
    exact ⟨F', Same.refl _, hr, h2.mono s⟩
  stop := fun F' H' L i s hr hi => ⟨vs, (s.trans hr.sub).seq h, by rw [r.length]; exact hi⟩
theorem itok_tup (h : SqT G.K F a vs) (r : RpA G.K F vs ds) : ItOk G (Itt G.K a) F ds where
  go := fun F' H' L i s hr hi => by
    have hi' : i < vs.length := by rw [r.length]; exact hi
    exact ⟨vs, vs[i], sameT (s.trans hr.sub) h, List.getElem?_eq_getElem hi'⟩
  yld := fun F' H' L i x H'' d s hr hd hy => by
    obtain ⟨rfl, hx⟩ := hy
    obtain ⟨v, h1, h2⟩ := r.get hd
    have e := hx vs (sameT (s.trans hr.sub) h)
    rw [h1] at e
    cases e
    exact ⟨F', Same.refl _, hr, h2.mono s⟩
  stop := fun F' H' L i s hr hi => ⟨vs, sameT (s.trans hr.sub) h, by rw [r.length]; exact hi⟩
theorem itok_rng (lo : Int) (n : Nat) : ItOk G (Itr lo n) F ((List.range n).map fun (i : Nat) => PyData.int (lo + (i : Int))) where
  go := fun F' H' L i s hr hi => by
    rw [List.length_map, List.length_range] at hi
    exact hi
  yld := fun F' H' L i x H'' d s hr hd hy => by
    obtain ⟨rfl, rfl⟩ := hy
    rw [List.getElem?_map] at hd
    cases q : (List.range n)[i]? with
    | none => rw [q] at hd; cases hd
    | some j =>
      rw [q] at hd
      have ej : j = i := by
        have := List.getElem?_eq_some_iff.mp q
        obtain ⟨h, e⟩ := this
        rw [List.getElem_range] at e
        exact e.symm
      subst ej
      cases hd
      exact ⟨F', Same.refl _, hr, .int _⟩
  stop := fun F' H' L i s hr hi => by
    rw [List.length_map, List.length_range] at hi
    exact hi
theorem itok_rngC (lo c : Int) (n : Nat) : ItOk G (Itc lo c n) F ((List.range n).map fun (i : Nat) => PyData.int (lo + (i : Int) * c)) where
  go := fun F' H' L i s hr hi => by
    rw [List.length_map, List.length_range] at hi
    exact hi
  yld := fun F' H' L i x H'' d s hr hd hy => by
    obtain ⟨rfl, rfl⟩ := hy
    rw [List.getElem?_map] at hd
    cases q : (List.range n)[i]? with
    | none => rw [q] at hd; cases hd
    | some j =>
      rw [q] at hd
      have ej : j = i := by
        have := List.getElem?_eq_some_iff.mp q
        obtain ⟨h, e⟩ := this
        rw [List.getElem_range] at e
        exact e.symm
      subst ej
      cases hd
      exact ⟨F', Same.refl _, hr, .int _⟩
  stop := fun F' H' L i s hr hi => by
    rw [List.length_map, List.length_range] at hi
    exact hi
def enumD : Nat → List D → List D
  | _, [] => []
  | k, d :: ds => .tuple [.int (k : Nat), d] :: enumD (k + 1) ds
theorem enumD_len : ∀ (k : Nat) (ds : List D), (enumD k ds).length = ds.length
  | _, [] => rfl
  | k, d :: ds => congrArg (· + 1) (enumD_len (k + 1) ds)
theorem enumD_get : ∀ (k : Nat) (ds : List D) (i : Nat), (enumD k ds)[i]? = (ds[i]?).map fun d => .tuple [.int ((k + i : Nat) : Int), d]
  | _, [], i => by simp [enumD]
  | k, d :: ds, 0 => rfl
  | k, d :: ds, i + 1 => by
    show (enumD (k + 1) ds)[i]? = _
    rw [enumD_get (k + 1) ds i, List.getElem?_cons_succ, show k + 1 + i = k + (i + 1) from by omega]
theorem pair_new {F' H' : Hp} {L : List (Cl × V)} {T : Addr} {x y : V} {d e : D} (hr : G.HR F' H' L) (hT : H' T = none) (h1 : Rp G.K F' x d) (h2 : Rp G.K F' y e) : ∃ F'', Same F' F'' ∧ G.HR F'' (upd H' T (.tup [x, y])) L ∧ Rp G.K F'' (.ref T) (.tuple [d, e]) := by
  obtain ⟨s, q⟩ := hr.newF (o := .tup [x, y]) hT
  exact ⟨_, s, q, .tup (.inl (.inl upd_same)) (.cons (h1.mono s) (.cons (h2.mono s) .nil))⟩
theorem itok_enum (h : SqL G.K F a vs) (r : RpA G.K F vs ds) : ItOk G (Ite G.K a) F (enumD 0 ds) where
  go := fun F' H' L i s hr hi => by
    rw [enumD_len] at hi
    have hi' : i < vs.length := by rw [r.length]; exact hi
    exact ⟨vs, vs[i], (s.trans hr.sub).seq h, List.getElem?_eq_getElem hi'⟩
  yld := fun F' H' L i x H'' d s hr hd hy => by
    obtain ⟨T, y, rfl, hT, rfl, hx⟩ := hy
    rw [enumD_get] at hd
    cases q : ds[i]? with
    | none => rw [q] at hd; cases hd
    | some d' =>
      rw [q] at hd
      cases hd
      obtain ⟨v, h1, h2⟩ := r.get q
      have e := hx vs ((s.trans hr.sub).seq h)
      rw [h1] at e
      cases e
      rw [show 0 + i = i from Nat.zero_add i]
      exact pair_new hr hT (.int _) (h2.mono s)
  stop := fun F' H' L i s hr hi => ⟨vs, (s.trans hr.sub).seq h, by rw [r.length]; rw [enumD_len] at hi; exact hi⟩
theorem itok_enumT (h : SqT G.K F a vs) (r : RpA G.K F vs ds) : ItOk G (IteT G.K a) F (enumD 0 ds) where
  go := fun F' H' L i s hr hi => by
    rw [enumD_len] at hi
    have hi' : i < vs.length := by rw [r.length]; exact hi
    exact ⟨vs, vs[i], sameT (s.trans hr.sub) h, List.getElem?_eq_getElem hi'⟩
  yld := fun F' H' L i x H'' d s hr hd hy => by
    obtain ⟨T, y, rfl, hT, rfl, hx⟩ := hy
    rw [enumD_get] at hd
    cases q : ds[i]? with
    | none => rw [q] at hd; cases hd
    | some d' =>
      rw [q] at hd
      cases hd
      obtain ⟨v, h1, h2⟩ := r.get q
      have e := hx vs (sameT (s.trans hr.sub) h)
      rw [h1] at e
      cases e
      rw [show 0 + i = i from Nat.zero_add i]
      exact pair_new hr hT (.int _) (h2.mono s)
  stop := fun F' H' L i s hr hi => ⟨vs, sameT (s.trans hr.sub) h, by rw [r.length]; rw [enumD_len] at hi; exact hi⟩
def zipD : List D → List D → List D
  | d :: ds, e :: es => .tuple [d, e] :: zipD ds es
  | _, _ => []
theorem zipD_len : ∀ (ds es : List D), (zipD ds es).length = min ds.length es.length
  | [], es => by simp [zipD]
  | _ :: _, [] => by simp [zipD]
  | d :: ds, e :: es => by
    show (zipD ds es).length + 1 = min (ds.length + 1) (es.length + 1)
    rw [zipD_len ds es]; omega
theorem zipD_get : ∀ (ds es : List D) (i : Nat) (p : D), (zipD ds es)[i]? = some p → ∃ d e, ds[i]? = some d ∧ es[i]? = some e ∧ p = .tuple [d, e]
  | [], es, i, p, h => by simp [zipD] at h
  | _ :: _, [], i, p, h => by simp [zipD] at h
  | d :: ds, e :: es, 0, p, h => ⟨d, e, rfl, rfl, (Option.some.inj h).symm⟩
  | d :: ds, e :: es, i + 1, p, h => zipD_get ds es i p h
theorem itok_zip (h : SqL G.K F a vs) (r : RpA G.K F vs ds) (h' : SqL G.K F b ws) (r' : RpA G.K F ws es) : ItOk G (Itz G.K a b) F (zipD ds es) where
  go := fun F' H' L i s hr hi => by
    rw [zipD_len] at hi
    have hi1 : i < vs.length := by rw [r.length]; omega
    have hi2 : i < ws.length := by rw [r'.length]; omega
    exact ⟨vs, ws, vs[i], ws[i], (s.trans hr.sub).seq h, (s.trans hr.sub).seq h', List.getElem?_eq_getElem hi1, List.getElem?_eq_getElem hi2⟩
  yld := fun F' H' L i x H'' d s hr hd hy => by
    obtain ⟨T, y, z, rfl, hT, rfl, hx, hz⟩ := hy
    obtain ⟨d1, d2, q1, q2, rfl⟩ := zipD_get _ _ _ _ hd
    obtain ⟨v, h1, h2⟩ := r.get q1
    obtain ⟨v', h1', h2'⟩ := r'.get q2
    have e := hx vs ((s.trans hr.sub).seq h)
    rw [h1] at e
    cases e
    have e := hz ws ((s.trans hr.sub).seq h')
    rw [h1'] at e
    cases e
    exact pair_new hr hT (h2.mono s) (h2'.mono s)
  stop := fun F' H' L i s hr hi => ⟨vs, ws, (s.trans hr.sub).seq h, (s.trans hr.sub).seq h', by rw [r.length, r'.length]; rw [zipD_len] at hi; omega⟩
theorem itok_zipT (h : SqT G.K F a vs) (r : RpA G.K F vs ds) (h' : SqT G.K F b ws) (r' : RpA G.K F ws es) : ItOk G (RZ.ItzT G.K a b) F (zipD ds es) where
  go := fun F' H' L i s hr hi => by
    rw [zipD_len] at hi
    have hi1 : i < vs.length := by rw [r.length]; omega
    have hi2 : i < ws.length := by rw [r'.length]; omega
    exact ⟨vs, ws, vs[i], ws[i], sameT (s.trans hr.sub) h, sameT (s.trans hr.sub) h', List.getElem?_eq_getElem hi1, List.getElem?_eq_getElem hi2⟩
  yld := fun F' H' L i x H'' d s hr hd hy => by
    obtain ⟨T, y, z, rfl, hT, rfl, hx, hz⟩ := hy
    obtain ⟨d1, d2, q1, q2, rfl⟩ := zipD_get _ _ _ _ hd
    obtain ⟨v, h1, h2⟩ := r.get q1
    obtain ⟨v', h1', h2'⟩ := r'.get q2
    have e := hx vs (sameT (s.trans hr.sub) h)
    rw [h1] at e
    cases e
    have e := hz ws (sameT (s.trans hr.sub) h')
    rw [h1'] at e
    cases e
    exact pair_new hr hT (h2.mono s) (h2'.mono s)
  stop := fun F' H' L i s hr hi => ⟨vs, ws, sameT (s.trans hr.sub) h, sameT (s.trans hr.sub) h', by rw [r.length, r'.length]; rw [zipD_len] at hi; omega⟩
end
/-! ### the walked things -/
def PoI (G : Gd) (W : WX) (F : Hp) (σ : L2.St) (T : List (Cl × V)) (Q : It → Hp → Prop) : Rz (List D) → Prop
  | .ok ds ρ => ∀ F' H' J, Same F F' → G.R F' H' ρ σ T → ItOk G J F' ds → Q J H'
  | .ex x ρ => PoX G W F σ T x ρ
def SndI (G : Gd) (W : WX) (t : TI) (f : Fn (List D)) : Prop :=
  ∀ n ρ r, f n ρ = some r → ∀ F H σ T Q, G.R F H ρ σ T → PoI G W F σ T Q r → t σ H Q
def XI {ι : Type} (G : Gd) (X : ι → Cx) (W : WX) (tg e : Expr) (f : Fn (List D)) : Prop := ∃ t : TI, (∀ i, PI (X i) tg e t) ∧ SndI G W t f
def asSeq (d : D) : Option (List D) := match d with
  | .list ds => some ds
  | .tuple ds => some ds
  | _ => none
section
variable {ι : Type} {G : Gd} {X : ι → Cx} {W : WX} {e tg : Expr} {es : List Expr}
/-- operands as frozen data -/
def fFzs (f : Fn (List Bv)) : Fn (List D) := fun n ρ => bnd (f n ρ) fun bs ρ1 => match fzBs ρ1 bs with
  | some (ds, ρ2) => some (.ok ds ρ2)
  | none => none
def PoFs (G : Gd) (W : WX) (F : Hp) (σ : L2.St) (T : List (Cl × V)) (Q : List V → Hp → Prop) : Rz (List D) → Prop
  | .ok ds ρ => ∀ F' H' vs, Same F F' → G.R F' H' ρ σ T → RpA G.K F' vs ds → Q vs H'
  | .ex x ρ => PoX G W F σ T x ρ
theorem snd_fzs {t : TA} {f : Fn (List Bv)} (h : SndBs G W t f) : ∀ n ρ r, fFzs f n ρ = some r → ∀ F H σ T Q, G.R F H ρ σ T → PoFs G W F σ T Q r → t σ H Q := fun n ρ r e F H σ T Q hR hP => by
  unfold fFzs at e
  cases q : f n ρ with
  | none => rw [q] at e; cases e
  | some r1 =>
    rw [q] at e
    refine h n ρ r1 q F H σ T Q hR ?_
    cases r1 with
    | ex x ρ' => cases e; exact hP
    | ok bs ρ1 =>
      rw [bnd_ok] at e
      cases q2 : fzBs ρ1 bs with
      | none => rw [q2] at e; cases e
      | some p =>
        obtain ⟨ds, ρ2⟩ := p
        rw [q2] at e
        cases e
        intro F1 H1 vs s1 R1 v1
        obtain ⟨F2, s2, R2, r2⟩ := fz_many R1 v1 q2
        exact hP F2 H1 vs (s1.trans s2) R2 r2
def fISeq (f : Fn Bv) : Fn (List D) := fun n ρ => bnd (fFzs (fCons f fNil) n ρ) fun ds ρ1 => match ds with
  | [d] => match asSeq d with
    | some xs => some (.ok xs ρ1)
    | none => none
  | _ => none
theorem snd_iseq {t : TE} {f : Fn Bv} (h : SndB G W t f) : SndI G W (iSeq G.K t) (fISeq f) := fun n ρ r e F H σ T Q hR hP => by
  unfold fISeq at e
  cases q : fFzs (fCons f fNil) n ρ with
  | none => rw [q] at e; cases e
  | some r1 =>
    rw [q] at e
    refine snd_fzs (snd_cons h snd_nil) n ρ r1 q F H σ T (fun vs H1 => match vs with | [x] => ∃ a, x = .ref a ∧ ((∃ xs, SqL G.K H1 a xs ∧ Q (Itl G.K a) H1) ∨ (∃ xs, SqT G.K H1 a xs ∧ Q (Itt G.K a) H1)) | _ => False) hR ?_
    cases r1 with
    | ex x ρ' => cases e; exact hP
    | ok ds ρ1 =>
      rw [bnd_ok] at e
      intro F1 H1 vs s1 R1 v1
      cases v1 with
      | nil => cases e
      | cons hd r =>
        cases r with
        | cons _ _ => cases e
        | nil =>
          dsimp only at e
          cases hd with
          | lst h1 r1 =>
            cases e
            exact ⟨_, rfl, .inl ⟨_, R1.sub.seq h1, hP F1 H1 _ s1 R1 (itok_lst h1 r1)⟩⟩
          | tup h1 r1 =>
            cases e
            exact ⟨_, rfl, .inr ⟨_, sameT R1.sub h1, hP F1 H1 _ s1 R1 (itok_tup h1 r1)⟩⟩
          | _ => cases e
theorem xi_seq {f : Fn Bv} (hK : ∀ i, (X i).K = G.K) (h : XB G X W e f) : XI G X W tg e (fISeq f) := by
  obtain ⟨t, h1, h2⟩ := h
  exact ⟨_, fun i => by have := pi_seq (tg := tg) (h1 i); rw [hK i] at this; exact this, snd_iseq h2⟩
def fIEnum (f : Fn Bv) : Fn (List D) := fun n ρ => bnd (fISeq f n ρ) fun ds ρ1 => some (.ok (enumD 0 ds) ρ1)
theorem snd_ienum {t : TE} {f : Fn Bv} (h : SndB G W t f) : SndI G W (iEnumA G.K (tCons t tNil)) (fIEnum f) := fun n ρ r e F H σ T Q hR hP => by
  unfold fIEnum fISeq at e
  cases q : fFzs (fCons f fNil) n ρ with
  | none => rw [q] at e; cases e
  | some r1 =>
    rw [q] at e
    refine snd_fzs (snd_cons h snd_nil) n ρ r1 q F H σ T _ hR ?_
    cases r1 with
    | ex x ρ' => cases e; exact hP
    | ok ds ρ1 =>
      rw [bnd_ok] at e
      intro F1 H1 vs s1 R1 v1
      cases v1 with
      | nil => cases e
      | cons hd r =>
        cases r with
        | cons _ _ => cases e
        | nil =>
          dsimp only at e
          cases hd with
          | lst h1 r1 =>
            cases e
            exact ⟨_, rfl, .inl ⟨_, R1.sub.seq h1, hP F1 H1 _ s1 R1 (itok_enum h1 r1)⟩⟩
          | tup h1 r1 =>
            cases e
            exact ⟨_, rfl, .inr ⟨_, sameT R1.sub h1, hP F1 H1 _ s1 R1 (itok_enumT h1 r1)⟩⟩
          | _ => cases e
theorem xi_enum {f : Fn Bv} {p pos tpos : Pos} {elts : List Expr} {kk : Nat} (hK : ∀ i, (X i).K = G.K) (hg : ∀ i, Gl (X i) "enumerate") (hm : ∀ i, (X i).mg "enumerate" = none) (h : XB G X W e f) (hs : ∀ i, starEach [e] (X i).env = [(false, eval e (X i).env)]) :
    XI G X W (.Tuple elts kk tpos) (.Call (.Name "enumerate" p) [e] [] pos) (fIEnum f) := by
  obtain ⟨t, h1, h2⟩ := h
  exact ⟨_, fun i => by have := pi_enumA (elts := elts) (kk := kk) (tpos := tpos) (p := p) (pos := pos) (hg i) (hm i) (pa_cons (h1 i) pa_nil (hs i)) (hs i); rw [hK i] at this; exact this, snd_ienum h2⟩
def fIZip (f g : Fn Bv) : Fn (List D) := fun n ρ => bnd (fFzs (fCons f (fCons g fNil)) n ρ) fun ds ρ1 => match ds with
  | [.list xs, .list ys] => some (.ok (zipD xs ys) ρ1)
  | [.tuple xs, .tuple ys] => some (.ok (zipD xs ys) ρ1)
  | _ => none
theorem snd_izip {t u : TE} {f g : Fn Bv} (h : SndB G W t f) (h' : SndB G W u g) : SndI G W (RZ.iZipA G.K (tCons t (tCons u tNil))) (fIZip f g) := fun n ρ r e F H σ T Q hR hP => by
  unfold fIZip at e
  cases q : fFzs (fCons f (fCons g fNil)) n ρ with
  | none => rw [q] at e; cases e
  | some r1 =>
    rw [q] at e
    refine snd_fzs (snd_cons h (snd_cons h' snd_nil)) n ρ r1 q F H σ T _ hR ?_
    cases r1 with
    | ex x ρ' => cases e; exact hP
    | ok ds ρ1 =>
      rw [bnd_ok] at e
      intro F1 H1 vs s1 R1 v1
      split at e
      · cases e
        cases v1 with
        | cons a1 v1 =>
          cases v1 with
          | cons a2 v1 =>
            cases v1
            cases a1 with
            | lst h1 r1 =>
              cases a2 with
              | lst h2 r2 => exact ⟨_, _, _, _, rfl, .inl ⟨R1.sub.seq h1, R1.sub.seq h2, hP F1 H1 _ s1 R1 (itok_zip h1 r1 h2 r2)⟩⟩
      · cases e
        cases v1 with
        | cons a1 v1 =>
          cases v1 with
          | cons a2 v1 =>
            cases v1
            cases a1 with
            | tup h1 r1 =>
              cases a2 with
              | tup h2 r2 => exact ⟨_, _, _, _, rfl, .inr ⟨sameT R1.sub h1, sameT R1.sub h2, hP F1 H1 _ s1 R1 (itok_zipT h1 r1 h2 r2)⟩⟩
      · cases e
theorem xi_zip {e2 : Expr} {f g : Fn Bv} {p pos tpos : Pos} {elts : List Expr} {kk : Nat} (hK : ∀ i, (X i).K = G.K) (hg : ∀ i, Gl (X i) "zip") (hm : ∀ i, (X i).mg "zip" = none) (h : XB G X W e f) (h' : XB G X W e2 g)
    (hs : ∀ i, starEach [e, e2] (X i).env = (false, eval e (X i).env) :: starEach [e2] (X i).env) (hs2 : ∀ i, starEach [e2] (X i).env = (false, eval e2 (X i).env) :: starEach [] (X i).env) (hpl : ∀ i, (backTo pos (starEach [e2] (X i).env)).any (·.1) = false) :
    XI G X W (.Tuple elts kk tpos) (.Call (.Name "zip" p) [e, e2] [] pos) (fIZip f g) := by
  obtain ⟨t, h1, h2⟩ := h
  obtain ⟨t', h1', h2'⟩ := h'
  exact ⟨_, fun i => by have := RZ.pi_zipA (elts := elts) (kk := kk) (tpos := tpos) (p := p) (hg i) (hm i) (pa_cons (h1 i) (pa_cons (h1' i) pa_nil (hs2 i)) (hs i)) (hs i) (hpl i); rw [hK i] at this; exact this, snd_izip h2 h2'⟩
/-- range -/
def smI (i : Int) : Bool := Nat.ble i.natAbs 1000000000
def rngD (lo : Int) (n : Nat) : List D := (List.range n).map fun (i : Nat) => PyData.int (lo + (i : Int))
def rngCD (lo c : Int) (n : Nat) : List D := (List.range n).map fun (i : Nat) => PyData.int (lo + (i : Int) * c)
def fIR1 (f : Fn Bv) : Fn (List D) := fun n ρ => bnd (fFzs (fCons f fNil) n ρ) fun ds ρ1 => match ds with
  | [.int j] => if smI j = true then some (.ok (rngD 0 j.toNat) ρ1) else none
  | _ => none
def fIR2 (f g : Fn Bv) : Fn (List D) := fun n ρ => bnd (fFzs (fCons f (fCons g fNil)) n ρ) fun ds ρ1 => match ds with
  | [.int i, .int j] => if (smI i && smI j) = true then some (.ok (rngD i (j - i).toNat) ρ1) else none
  | _ => none
def fIR3 (f g h : Fn Bv) : Fn (List D) := fun n ρ => bnd (fFzs (fCons f (fCons g (fCons h fNil))) n ρ) fun ds ρ1 => match ds with
  | [.int i, .int j, .int c] => if (smI i && smI j && decide (c = -1)) = true then some (.ok (rngCD i (-1) (i - j).toNat) ρ1) else none
  | _ => none
theorem smI_ok {i : Int} (h : smI i = true) : -(2 ^ 62) ≤ i ∧ i < 2 ^ 62 := by
  have h : i.natAbs ≤ 1000000000 := Nat.le_of_ble_eq_true h
  omega
theorem xi_rng1 {p pos : Pos} {f : Fn Bv} (hg : ∀ i, Gl (X i) "range") (hm : ∀ i, (X i).mg "range" = none) (ha : XB G X W e f) (hs : ∀ i, starEach [e] (X i).env = [(false, eval e (X i).env)]) : XI G X W tg (.Call (.Name "range" p) [e] [] pos) (fIR1 f) := by
  obtain ⟨t, h1, h2⟩ := ha
  refine ⟨_, fun i => pi_range1 (hg i) (hm i) (pa_cons (h1 i) pa_nil (hs i)) (hs i), fun n ρ r e F H σ T Q hR hP => ?_⟩
  unfold fIR1 at e
  cases q : fFzs (fCons f fNil) n ρ with
  | none => rw [q] at e; cases e
  | some r1 =>
    rw [q] at e
    refine snd_fzs (snd_cons h2 snd_nil) n ρ r1 q F H σ T _ hR ?_
    cases r1 with
    | ex x ρ' => cases e; exact hP
    | ok ds ρ1 =>
      rw [bnd_ok] at e
      intro F1 H1 vs s1 R1 v1
      split at e
      · split at e
        · rename_i hj
          cases e
          obtain ⟨q1, q2⟩ := smI_ok hj
          cases v1 with
          | cons a1 v1 =>
            cases v1
            cases a1
            exact ⟨_, rfl, q1, q2, hP F1 H1 _ s1 R1 (itok_rng 0 _)⟩
        · cases e
      · cases e
theorem xi_rng2 {e2 : Expr} {p pos : Pos} {f g : Fn Bv} (hg : ∀ i, Gl (X i) "range") (hm : ∀ i, (X i).mg "range" = none) (ha : XB G X W e f) (hb : XB G X W e2 g) (hs : ∀ i, starEach [e, e2] (X i).env = [(false, eval e (X i).env), (false, eval e2 (X i).env)]) (hs2 : ∀ i, starEach [e2] (X i).env = [(false, eval e2 (X i).env)]) :
    XI G X W tg (.Call (.Name "range" p) [e, e2] [] pos) (fIR2 f g) := by
  obtain ⟨t, h1, h2⟩ := ha
  obtain ⟨t', h1', h2'⟩ := hb
  refine ⟨_, fun i => pi_range2 (hg i) (hm i) (pa_cons (h1 i) (pa_cons (h1' i) pa_nil (hs2 i)) (by rw [hs i, hs2 i])) (hs i) (hs2 i), fun n ρ r e F H σ T Q hR hP => ?_⟩
  unfold fIR2 at e
  cases q : fFzs (fCons f (fCons g fNil)) n ρ with
  | none => rw [q] at e; cases e
  | some r1 =>
    rw [q] at e
    refine snd_fzs (snd_cons h2 (snd_cons h2' snd_nil)) n ρ r1 q F H σ T _ hR ?_
    cases r1 with
    | ex x ρ' => cases e; exact hP
    | ok ds ρ1 =>
      rw [bnd_ok] at e
      intro F1 H1 vs s1 R1 v1
      split at e
      · split at e
        · rename_i hj
          cases e
          rw [Bool.and_eq_true] at hj
          obtain ⟨q1, q2⟩ := smI_ok hj.1
          obtain ⟨q3, q4⟩ := smI_ok hj.2
          cases v1 with
          | cons a1 v1 =>
            cases v1 with
            | cons a2 v1 =>
              cases v1
              cases a1
              cases a2
              exact ⟨_, _, rfl, ⟨q1, q2, q3, q4⟩, hP F1 H1 _ s1 R1 (itok_rng _ _)⟩
        · cases e
      · cases e
theorem xi_rng3 {e2 e3 : Expr} {p pos : Pos} {f g h : Fn Bv} (hg : ∀ i, Gl (X i) "range") (hm : ∀ i, (X i).mg "range" = none) (ha : XB G X W e f) (hb : XB G X W e2 g) (hc : XB G X W e3 h) (hs : ∀ i, starEach [e, e2, e3] (X i).env = [(false, eval e (X i).env), (false, eval e2 (X i).env), (false, eval e3 (X i).env)])
    (hs2 : ∀ i, starEach [e2, e3] (X i).env = [(false, eval e2 (X i).env), (false, eval e3 (X i).env)]) (hs3 : ∀ i, starEach [e3] (X i).env = [(false, eval e3 (X i).env)])
    (hx : ∀ i, ∀ ta : TA, PA (X i) [e, e2, e3] ta → PI (X i) tg (.Call (.Name "range" p) [e, e2, e3] [] pos) (iRng3 ta)) :
    XI G X W tg (.Call (.Name "range" p) [e, e2, e3] [] pos) (fIR3 f g h) := by
  obtain ⟨t, h1, h2⟩ := ha
  obtain ⟨t', h1', h2'⟩ := hb
  obtain ⟨t'', h1'', h2''⟩ := hc
  refine ⟨_, fun i => hx i _ (pa_cons (h1 i) (pa_cons (h1' i) (pa_cons (h1'' i) pa_nil (hs3 i)) (by rw [hs2 i, hs3 i])) (by rw [hs i, hs2 i])), fun n ρ r e F H σ T Q hR hP => ?_⟩
  unfold fIR3 at e
  cases q : fFzs (fCons f (fCons g (fCons h fNil))) n ρ with
  | none => rw [q] at e; cases e
  | some r1 =>
    rw [q] at e
    refine snd_fzs (snd_cons h2 (snd_cons h2' (snd_cons h2'' snd_nil))) n ρ r1 q F H σ T _ hR ?_
    cases r1 with
    | ex x ρ' => cases e; exact hP
    | ok ds ρ1 =>
      rw [bnd_ok] at e
      intro F1 H1 vs s1 R1 v1
      split at e
      · split at e
        · rename_i hj
          cases e
          rw [Bool.and_eq_true, Bool.and_eq_true] at hj
          obtain ⟨q1, q2⟩ := smI_ok hj.1.1
          obtain ⟨q3, q4⟩ := smI_ok hj.1.2
          have ec := of_decide_eq_true hj.2
          subst ec
          cases v1 with
          | cons a1 v1 =>
            cases v1 with
            | cons a2 v1 =>
              cases v1 with
              | cons a3 v1 =>
                cases v1
                cases a1
                cases a2
                cases a3
                exact ⟨_, _, _, _, rfl, RgC.neg q1 q2 q3 q4, hP F1 H1 _ s1 R1 (itok_rngC _ _ _)⟩
        · cases e
      · cases e
end
end L3

namespace L3
open PySem PySem.Spec L2

inductive Ot where
  | nx (ρ : En)
  | rt (c : Cl) (ρ : En)
  | bk (ρ : En)
  | ct (ρ : En)
  | ex (x : Ex) (ρ : En)
abbrev FS := Nat → En → Option Ot
def bS {α : Type} (x : Option (Rz α)) (k : α → En → Option Ot) : Option Ot :=
  match x with
  | some (.ok a ρ) => k a ρ
  | some (.ex x ρ) => some (.ex x ρ)
  | none => none
@[simp] theorem bS_ok {α : Type} (a : α) (ρ : En) (k : α → En → Option Ot) : bS (some (.ok a ρ)) k = k a ρ := rfl
@[simp] theorem bS_ex {α : Type} (x : Ex) (ρ : En) (k : α → En → Option Ot) : bS (some (.ex x ρ)) k = some (.ex x ρ) := rfl
@[simp] theorem bS_none {α : Type} (k : α → En → Option Ot) : bS none k = none := rfl

def Kp (P : List Nat) (σ σ' : L2.St) : Prop := ∀ i ∈ P, σ'[i]? = σ[i]?
theorem Kp.refl {P : List Nat} (σ : L2.St) : Kp P σ σ := fun _ _ => rfl
theorem Kp.trans {P : List Nat} {a b c : L2.St} (h : Kp P a b) (k : Kp P b c) : Kp P a c := fun i hi => (k i hi).trans (h i hi)
theorem Kp.set {P : List Nat} {σ : L2.St} {i : Nat} {o : Option V} (h : i ∉ P) : Kp P σ (σ.set i o) := fun j hj => by
  rw [List.getElem?_set_ne]
  intro z
  subst z
  exact h hj

def PoS (G : Gd) (W : WX) (P : List Nat) (F : Hp) (σ : L2.St) (T : List (Cl × V)) (D : Ends) : Ot → Prop
  | .nx ρ => ∀ F' H' σ', Same F F' → G.R F' H' ρ σ' T → Kp P σ σ' → D.nx σ' H'
  | .rt c ρ => ∀ F' H' σ' v, Same F F' → G.R F' H' ρ σ' ((c, v) :: T) → Kp P σ σ' → D.rt v H'
  | .bk ρ => ∀ F' H' σ', Same F F' → G.R F' H' ρ σ' T → Kp P σ σ' → D.bk σ' H'
  | .ct ρ => ∀ F' H' σ', Same F F' → G.R F' H' ρ σ' T → Kp P σ σ' → D.ct σ' H'
  | .ex x ρ => ∀ F' H' σ' cls d, Same F F' → G.R F' H' ρ σ' T → Kp P σ σ' → XR G F' x cls d → W cls d σ' H'
def SndS (G : Gd) (W : WX) (P : List Nat) (t : TS) (f : FS) : Prop :=
  ∀ n ρ o, f n ρ = some o → ∀ F H σ T D, G.R F H ρ σ T → PoS G W P F σ T D o → t D σ H
section
variable {ι : Type}
def XS (G : Gd) (X : ι → Cx) (W : WX) (P : List Nat) (st : Stmt) (f : FS) : Prop := ∃ t : TS, (∀ i, PS (X i) st t) ∧ SndS G W P t f
def XSs (G : Gd) (X : ι → Cx) (W : WX) (P : List Nat) (st : List Stmt) (f : FS) : Prop := ∃ t : TS, (∀ i, PSs (X i) st t) ∧ SndS G W P t f
end
theorem PoS.mono {G : Gd} {W : WX} {P : List Nat} {F F1 : Hp} {σ σ1 : L2.St} {T : List (Cl × V)} {D : Ends} {o : Ot} (h : PoS G W P F σ T D o) (s : Same F F1) (k : Kp P σ σ1) : PoS G W P F1 σ1 T D o := by
  cases o with
  | nx ρ => exact fun F' H' σ' s' r k' => h F' H' σ' (s.trans s') r (k.trans k')
  | rt c ρ => exact fun F' H' σ' v s' r k' => h F' H' σ' v (s.trans s') r (k.trans k')
  | bk ρ => exact fun F' H' σ' s' r k' => h F' H' σ' (s.trans s') r (k.trans k')
  | ct ρ => exact fun F' H' σ' s' r k' => h F' H' σ' (s.trans s') r (k.trans k')
  | ex x ρ => exact fun F' H' σ' cls d s' r k' q => h F' H' σ' cls d (s.trans s') r (k.trans k') q
theorem PoS.px {G : Gd} {W : WX} {P : List Nat} {F : Hp} {σ : L2.St} {T : List (Cl × V)} {D : Ends} {x : Ex} {ρ : En} (h : PoS G W P F σ T D (.ex x ρ)) : PoX G W F σ T x ρ :=
  fun F' H' cls d s r q => h F' H' σ cls d s r (Kp.refl _) q

section
variable {ι : Type} {G : Gd} {X : ι → Cx} {W : WX} {P : List Nat} {e : Expr} {st : Stmt} {rest : List Stmt} {pos : Pos}
def sNil : FS := fun _ ρ => some (.nx ρ)
def sSeq (f g : FS) : FS := fun n ρ => match f n ρ with
  | some (.nx ρ1) => g n ρ1
  | o => o
theorem xss_nil : XSs G X W P [] sNil := ⟨_, fun _ => pss_nil, fun n ρ o e F H σ T D hR hP => by
  cases e
  exact hP F H σ (Same.refl _) hR (Kp.refl _)⟩
theorem xss_cons {f g : FS} (h1 : XS G X W P st f) (h2 : XSs G X W P rest g) : XSs G X W P (st :: rest) (sSeq f g) := by
  obtain ⟨t, a1, a2⟩ := h1
  obtain ⟨u, b1, b2⟩ := h2
  refine ⟨_, fun i => pss_cons (a1 i) (b1 i), fun n ρ o e F H σ T D hR hP => ?_⟩
  unfold sSeq at e
  cases q : f n ρ with
  | none => rw [q] at e; cases e
  | some o1 =>
    rw [q] at e
    refine a2 n ρ o1 q F H σ T _ hR ?_
    cases o1 with
    | nx ρ1 => exact fun F1 H1 σ1 s1 R1 k1 => b2 n ρ1 o e F1 H1 σ1 T D R1 (hP.mono s1 k1)
    | rt c ρ1 => cases e; exact hP
    | bk ρ1 => cases e; exact hP
    | ct ρ1 => cases e; exact hP
    | ex x ρ1 => cases e; exact hP
theorem xss_one {f : FS} (h1 : XS G X W P st f) : XSs G X W P [st] f := by
  obtain ⟨t, a1, a2⟩ := h1
  exact ⟨_, fun i => pss_one (a1 i), a2⟩
def sPass : FS := sNil
theorem xs_pass : XS G X W P (.Pass pos) sNil := ⟨_, fun _ => ps_pass, fun n ρ o e F H σ T D hR hP => by
  cases e
  exact hP F H σ (Same.refl _) hR (Kp.refl _)⟩
theorem xs_break : XS G X W P (.Break pos) (fun _ ρ => some (.bk ρ)) := ⟨_, fun _ => ps_break, fun n ρ o e F H σ T D hR hP => by
  cases e
  exact hP F H σ (Same.refl _) hR (Kp.refl _)⟩
theorem xs_continue : XS G X W P (.Continue pos) (fun _ ρ => some (.ct ρ)) := ⟨_, fun _ => ps_continue, fun n ρ o e F H σ T D hR hP => by
  cases e
  exact hP F H σ (Same.refl _) hR (Kp.refl _)⟩
def sExpr (f : Fn Bv) : FS := fun n ρ => bS (f n ρ) fun _ ρ1 => some (.nx ρ1)
theorem xs_expr {f : Fn Bv} (h : XB G X W e f) (hs : ∀ i, swapsWith e none pos.line (X i).env = pure false) : XS G X W P (.Expr e pos) (sExpr f) := by
  obtain ⟨t, h1, h2⟩ := h
  refine ⟨_, fun i => ps_expr (h1 i) (hs i), fun n ρ o e F H σ T D hR hP => ?_⟩
  unfold sExpr at e
  cases q : f n ρ with
  | none => rw [q] at e; cases e
  | some r1 =>
    rw [q] at e
    refine h2 n ρ r1 q F H σ T _ hR ?_
    cases r1 with
    | ex x ρ' => cases e; exact hP.px
    | ok b ρ1 =>
      cases e
      exact fun F1 H1 v s1 R1 v1 => hP F1 H1 σ s1 (bvT_drop b v R1) (Kp.refl _)
def sRet (f : Fn Cl) : FS := fun n ρ => bS (f n ρ) fun c ρ1 => some (.rt c ρ1)
theorem xs_ret {f : Fn Cl} (h : XE G X W e f) : XS G X W P (.Return (some e) pos) (sRet f) := by
  obtain ⟨t, h1, h2⟩ := h
  refine ⟨_, fun i => ps_ret (h1 i), fun n ρ o e F H σ T D hR hP => ?_⟩
  unfold sRet at e
  cases q : f n ρ with
  | none => rw [q] at e; cases e
  | some r1 =>
    rw [q] at e
    refine h2 n ρ r1 q F H σ T _ hR ?_
    cases r1 with
    | ex x ρ' => cases e; exact hP.px
    | ok b ρ1 =>
      cases e
      exact fun F1 H1 v s1 R1 => hP F1 H1 σ v s1 R1 (Kp.refl _)
theorem xs_retN : XS G X W P (.Return none pos) (fun _ ρ => some (.rt (.fz .none) ρ)) := ⟨_, fun _ => ps_retN, fun n ρ o e F H σ T D hR hP => by
  cases e
  exact hP F H σ .non (Same.refl _) (hR.push .non) (Kp.refl _)⟩
def sIf (t : Fn Bool) (f g : FS) : FS := fun n ρ => bS (t n ρ) fun c ρ1 => if c = true then f n ρ1 else g n ρ1
theorem xs_if {c : Expr} {a b : List Stmt} {t : Fn Bool} {f g : FS} (hc : XT G X W c t) (ha : XSs G X W P a f) (hb : XSs G X W P b g) : XS G X W P (.If c a b pos) (sIf t f g) := by
  obtain ⟨t', h1, h2⟩ := hc
  obtain ⟨ta, h3, h4⟩ := ha
  obtain ⟨tb, h5, h6⟩ := hb
  refine ⟨_, fun i => ps_if (h1 i) (h3 i) (h5 i), fun n ρ o e F H σ T D hR hP => ?_⟩
  unfold sIf at e
  cases q : t n ρ with
  | none => rw [q] at e; cases e
  | some r1 =>
    rw [q] at e
    refine h2 n ρ r1 q F H σ T _ hR ?_
    cases r1 with
    | ex x ρ' => cases e; exact hP.px
    | ok b ρ1 =>
      rw [bS_ok] at e
      intro F1 H1 s1 R1
      cases b with
      | true =>
        rw [if_pos rfl] at e
        show if true = true then _ else _
        rw [if_pos rfl]
        exact h4 n ρ1 o e F1 H1 σ T D R1 (hP.mono s1 (Kp.refl _))
      | false =>
        rw [if_neg Bool.false_ne_true] at e
        show if false = true then _ else _
        rw [if_neg Bool.false_ne_true]
        exact h6 n ρ1 o e F1 H1 σ T D R1 (hP.mono s1 (Kp.refl _))

/-! ### stores -/
def sSet (i : Nat) (f : Fn Cl) : FS := fun n ρ => bS (f n ρ) fun c ρ1 => if i < ρ1.length then some (.nx (ρ1.set i (some c))) else none
theorem snd_set {i : Nat} {t : TE} {f : Fn Cl} (hi : i ∉ P) (h : SndE G W t f) : SndS G W P (tAsg t (gName i)) (sSet i f) := fun n ρ o e F H σ T D hR hP => by
  unfold sSet at e
  cases q : f n ρ with
  | none => rw [q] at e; cases e
  | some r1 =>
    rw [q] at e
    refine h n ρ r1 q F H σ T _ hR ?_
    cases r1 with
    | ex x ρ' => cases e; exact hP.px
    | ok b ρ1 =>
      rw [bS_ok] at e
      split at e
      · rename_i hl
        cases e
        exact fun F1 H1 v s1 R1 => hP F1 H1 _ s1 (R1.set hl) (Kp.set hi)
      · cases e
theorem xs_set {i : Nat} {x : Str} {pos' : Pos} {f : Fn Cl} (hi : i ∉ P) (hp : ∀ t, (∀ j, PE (X j) e t) → ∀ j, PS (X j) (.Assign [.Name x pos'] e pos) (tAsg t (gName i))) (h : XE G X W e f) : XS G X W P (.Assign [.Name x pos'] e pos) (sSet i f) := by
  obtain ⟨t, h1, h2⟩ := h
  exact ⟨_, hp t h1, snd_set hi h2⟩
/-- a, b = e1, e2 into plain local names -/
def sPar (i j : Nat) (f g : Fn Cl) : FS := fun n ρ => bS (f n ρ) fun c ρ1 => bS (g n ρ1) fun d ρ2 => if i < ρ2.length ∧ j < ρ2.length then some (.nx ((ρ2.set i (some c)).set j (some d))) else none
theorem xs_par {i j : Nat} {a b : Expr} {f g : Fn Cl} {st : Stmt} (hi : i ∉ P) (hj : j ∉ P) (hp : ∀ t u, (∀ j, PE (X j) a t) → (∀ j, PE (X j) b u) → ∀ k, PS (X k) st (tPar i j (tCons t (tCons u tNil)))) (h : XE G X W a f) (h' : XE G X W b g) : XS G X W P st (sPar i j f g) := by
  obtain ⟨t, h1, h2⟩ := h
  obtain ⟨u, h3, h4⟩ := h'
  refine ⟨_, hp t u h1 h3, fun n ρ o e F H σ T D hR hP => ?_⟩
  unfold sPar at e
  cases q : f n ρ with
  | none => rw [q] at e; cases e
  | some r1 =>
    rw [q] at e
    refine h2 n ρ r1 q F H σ T _ hR ?_
    cases r1 with
    | ex x ρ' => cases e; exact hP.px
    | ok c ρ1 =>
      rw [bS_ok] at e
      intro F1 H1 v s1 R1
      cases q2 : g n ρ1 with
      | none => rw [q2] at e; cases e
      | some r2 =>
        rw [q2] at e
        refine h4 n ρ1 r2 q2 F1 H1 σ _ _ R1 ?_
        cases r2 with
        | ex x ρ' =>
          cases e
          exact fun F' H' cls d s r q => hP.px F' H' cls d (s1.trans s) r.tail q
        | ok d ρ2 =>
          rw [bS_ok] at e
          intro F2 H2 w s2 R2
          split at e
          · rename_i hl
            cases e
            refine ⟨v, w, rfl, hP F2 H2 _ (s1.trans s2) ?_ ((Kp.set hi).trans (Kp.set hj))⟩
            have R3 := R2.swap.set (i := i) hl.1
            exact R3.set (by rw [List.length_set]; exact hl.2)
          · cases e

/-! ### targets -/
abbrev FG := D → En → Option En
abbrev FGs := List D → En → Option En
def SndG (G : Gd) (P : List Nat) (t : TG) (f : FG) : Prop :=
  ∀ d ρ ρ', f d ρ = some ρ' → ∀ F H σ T v Q, G.R F H ρ σ T → Rp G.K F v d → (∀ σ', G.R F H ρ' σ' T → Kp P σ σ' → Q σ' H) → t v σ H Q
def SndGs (G : Gd) (P : List Nat) (t : TGs) (f : FGs) : Prop :=
  ∀ ds ρ ρ', f ds ρ = some ρ' → ∀ F H σ T vs Q, G.R F H ρ σ T → RpA G.K F vs ds → (∀ σ', G.R F H ρ' σ' T → Kp P σ σ' → Q σ' H) → t vs σ H Q
def XG (G : Gd) (X : ι → Cx) (P : List Nat) (tg : Expr) (f : FG) : Prop := ∃ t : TG, (∀ i, PG (X i) tg t) ∧ SndG G P t f
def XGs (G : Gd) (X : ι → Cx) (P : List Nat) (tg : List Expr) (f : FGs) : Prop := ∃ t : TGs, (∀ i, PGs (X i) tg t) ∧ SndGs G P t f
def gN (i : Nat) : FG := fun d ρ => if i < ρ.length then some (ρ.set i (some (.fz d))) else none
theorem snd_gn {i : Nat} (hi : i ∉ P) : SndG G P (gName i) (gN i) := fun d ρ ρ' e F H σ T v Q hR r hQ => by
  unfold gN at e
  split at e
  · rename_i hl
    cases e
    exact hQ _ ((hR.push r).set hl) (Kp.set hi)
  · cases e
theorem xg_name {i : Nat} {x : Str} (hi : i ∉ P) (h : ∀ j, PG (X j) (.Name x pos) (gName i)) : XG G X P (.Name x pos) (gN i) := ⟨_, h, snd_gn hi⟩
def gsNil : FGs := fun ds ρ => match ds with
  | [] => some ρ
  | _ => none
def gsCons (f : FG) (g : FGs) : FGs := fun ds ρ => match ds with
  | d :: ds => match f d ρ with
    | some ρ1 => g ds ρ1
    | none => none
  | [] => none
theorem snd_gsnil : SndGs G P gNil gsNil := fun ds ρ ρ' e F H σ T vs Q hR r hQ => by
  cases r with
  | nil => cases e; exact ⟨rfl, hQ σ hR (Kp.refl _)⟩
  | cons _ _ => cases e
theorem snd_gscons {t : TG} {u : TGs} {f : FG} {g : FGs} (h : SndG G P t f) (h' : SndGs G P u g) : SndGs G P (gCons t u) (gsCons f g) := fun ds ρ ρ' e F H σ T vs Q hR r hQ => by
  cases r with
  | nil => cases e
  | cons r1 r2 =>
    unfold gsCons at e
    dsimp only at e
    rename_i v vs' d ds'
    cases q : f d ρ with
    | none => rw [q] at e; cases e
    | some ρ1 =>
      rw [q] at e
      refine ⟨v, vs', rfl, h d ρ ρ1 q F H σ T v _ hR r1 fun σ1 R1 k1 => ?_⟩
      exact h' ds' ρ1 ρ' e F H σ1 T vs' Q R1 r2 fun σ2 R2 k2 => hQ σ2 R2 (k1.trans k2)
theorem xgs_nil : XGs G X P [] gsNil := ⟨_, fun _ => pgs_nil, snd_gsnil⟩
theorem xgs_cons {e : Expr} {es : List Expr} {f : FG} {g : FGs} (h : XG G X P e f) (h' : XGs G X P es g) (hs : ∀ i, (assignEach (e :: es) (X i).env).map (·.2) = assign e (X i).env :: (assignEach es (X i).env).map (·.2)) : XGs G X P (e :: es) (gsCons f g) := by
  obtain ⟨t, h1, h2⟩ := h
  obtain ⟨u, h3, h4⟩ := h'
  exact ⟨_, fun i => pgs_cons (h1 i) (h3 i) (hs i), snd_gscons h2 h4⟩
/-- (a, b, ..): the value a tuple -/
def gTp (n : Nat) (f : FGs) : FG := fun d ρ => match d with
  | .tuple ds => if ds.length = n then f ds ρ else none
  | _ => none
def gLs (n : Nat) (f : FGs) : FG := fun d ρ => match d with
  | .list ds => if ds.length = n then f ds ρ else none
  | _ => none
theorem snd_gtp {n : Nat} {t : TGs} {f : FGs} (h : SndGs G P t f) : SndG G P (gTup G.K n t) (gTp n f) := fun d ρ ρ' e F H σ T v Q hR r hQ => by
  unfold gTp at e
  split at e
  · split at e
    · rename_i hl
      cases r with
      | tup h1 r1 => exact ⟨_, _, rfl, sameT hR.sub h1, by rw [r1.length]; exact hl, h _ ρ ρ' e F H σ T _ Q hR r1 hQ⟩
    · cases e
  · cases e
theorem snd_gls {n : Nat} {t : TGs} {f : FGs} (h : SndGs G P t f) : SndG G P (gLst G.K n t) (gLs n f) := fun d ρ ρ' e F H σ T v Q hR r hQ => by
  unfold gLs at e
  split at e
  · split at e
    · rename_i hl
      cases r with
      | lst h1 r1 => exact ⟨_, _, rfl, hR.sub.seq h1, by rw [r1.length]; exact hl, h _ ρ ρ' e F H σ T _ Q hR r1 hQ⟩
    · cases e
  · cases e
theorem xg_tup {es : List Expr} {k n : Nat} {f : FGs} (hK : ∀ i, (X i).K = G.K) (hc : ∀ i, (X i).calm = true) (h : XGs G X P es f) (hn : ∀ i, (assignEach es (X i).env).length = n) (hst : ∀ i, (assignEach es (X i).env).findIdx? (·.1) = none) : XG G X P (.Tuple es k pos) (gTp n f) := by
  obtain ⟨t, h1, h2⟩ := h
  exact ⟨_, fun i => by have := pg_tup (k := k) (pos := pos) (hc i) (h1 i) (hn i) (hst i); rw [hK i] at this; exact this, snd_gtp h2⟩
theorem xg_lst {es : List Expr} {k n : Nat} {f : FGs} (hK : ∀ i, (X i).K = G.K) (hc : ∀ i, (X i).calm = true) (h : XGs G X P es f) (hn : ∀ i, (assignEach es (X i).env).length = n) (hst : ∀ i, (assignEach es (X i).env).findIdx? (·.1) = none) : XG G X P (.Tuple es k pos) (gLs n f) := by
  obtain ⟨t, h1, h2⟩ := h
  exact ⟨_, fun i => by have := pg_lst (k := k) (pos := pos) (hc i) (h1 i) (hn i) (hst i); rw [hK i] at this; exact this, snd_gls h2⟩
/-- target = value, by targets -/
def sAsg (g : FG) (f : Fn Bv) : FS := fun n ρ => bS (fFz f n ρ) fun c ρ1 => match c with
  | .fz d => match g d ρ1 with
    | some ρ2 => some (.nx ρ2)
    | none => none
  | _ => none
theorem xs_asg {tg : Expr} {f : Fn Bv} {g : FG} (h : XB G X W e f) (hg : XG G X P tg g) (hs : ∀ i, swapsWithSole [tg] e pos.line (X i).env = pure false) (hw : ∀ i, swappedStores [tg] e (X i).env = pure none)
    (h1 : ∀ i, (assignEach [tg] (X i).env).map (·.2) = [assign tg (X i).env]) : XS G X W P (.Assign [tg] e pos) (sAsg g f) := by
  obtain ⟨t, a1, a2⟩ := h
  obtain ⟨u, b1, b2⟩ := hg
  refine ⟨_, fun i => ps_asg (a1 i) (b1 i) (hs i) (hw i) (h1 i), fun n ρ o e F H σ T D hR hP => ?_⟩
  unfold sAsg at e
  cases q : fFz f n ρ with
  | none => rw [q] at e; cases e
  | some r1 =>
    rw [q] at e
    refine snd_fz a2 n ρ r1 q F H σ T _ hR ?_
    cases r1 with
    | ex x ρ' => cases e; exact hP.px
    | ok c ρ1 =>
      rw [bS_ok] at e
      intro F1 H1 v s1 R1
      split at e
      · rename_i d
        cases q2 : g d ρ1 with
        | none => rw [q2] at e; cases e
        | some ρ2 =>
          rw [q2] at e
          cases e
          exact b2 d ρ1 ρ2 q2 F1 H1 σ T v _ R1.tail R1.rp fun σ' R2 k => hP F1 H1 σ' s1 R2 k
      · cases e

/-! ### for -/
def forF (g : FG) (f : FS) (n : Nat) : List D → En → Option Ot
  | [], ρ => some (.nx ρ)
  | d :: ds, ρ => match g d ρ with
    | some ρ1 => match f n ρ1 with
      | some (.nx ρ2) => forF g f n ds ρ2
      | some (.ct ρ2) => forF g f n ds ρ2
      | some (.bk ρ2) => some (.nx ρ2)
      | some (.rt c ρ2) => some (.rt c ρ2)
      | some (.ex x ρ2) => some (.ex x ρ2)
      | none => none
    | none => none
def sFor (i : Fn (List D)) (g : FG) (f : FS) : FS := fun n ρ => bS (i n ρ) fun ds ρ1 => forF g f n ds ρ1
theorem snd_for {wi : TI} {tg : TG} {tb : TS} {i : Fn (List D)} {g : FG} {f : FS} (hi : SndI G W wi i) (hg : SndG G P tg g) (hb : SndS G W P tb f) : SndS G W P (tFor wi tg tb) (sFor i g f) := fun n ρ o e F H σ T D hR hP => by
  unfold sFor at e
  cases q : i n ρ with
  | none => rw [q] at e; cases e
  | some r1 =>
    rw [q] at e
    refine hi n ρ r1 q F H σ T _ hR ?_
    cases r1 with
    | ex x ρ' => cases e; exact hP.px
    | ok ds ρ1 =>
      rw [bS_ok] at e
      intro F1 H1 J s1 R1 ok
      have hP1 := hP.mono s1 (Kp.refl σ)
      refine ⟨fun k m σ' H' => ∃ ρ' F', m = ds.length - k ∧ k ≤ ds.length ∧ Same F1 F' ∧ G.R F' H' ρ' σ' T ∧ Kp P σ σ' ∧ forF g f n (ds.drop k) ρ' = some o, ⟨ds.length, ρ1, F1, by simp, Nat.zero_le _, Same.refl _, R1, Kp.refl _, by rw [List.drop_zero]; exact e⟩, ?_⟩
      rintro k m σ' H' ⟨ρ', F', rfl, hk, s', R', kp, eo⟩
      by_cases hlt : k < ds.length
      · rw [List.drop_eq_getElem_cons hlt] at eo
        unfold forF at eo
        cases q1 : g ds[k] ρ' with
        | none => rw [q1] at eo; cases eo
        | some ρ2 =>
          rw [q1] at eo
          dsimp only at eo
          refine .inr ⟨ok.go F' H' _ k s' R'.hr hlt, fun σ3 H3 => ∃ ρ3 F3, Same F1 F3 ∧ G.R F3 H3 ρ3 σ3 T ∧ Kp P σ σ3 ∧ forF g f n (ds.drop (k + 1)) ρ3 = some o, ?_, ?_⟩
          · rintro σ3 H3 ⟨ρ3, F3, s3, R3, k3, e3⟩
            exact ⟨ds.length - (k + 1), by omega, ρ3, F3, rfl, hlt, s3, R3, k3, e3⟩
          · intro x H2 hy
            obtain ⟨F2, s2, hr2, rx⟩ := ok.yld F' H' _ k x H2 ds[k] s' R'.hr (List.getElem?_eq_getElem hlt) hy
            refine hg ds[k] ρ' ρ2 q1 F2 H2 σ' T x _ ⟨hr2, R'.ok⟩ rx fun σ4 R4 k4 => ?_
            cases q2 : f n ρ2 with
            | none => rw [q2] at eo; cases eo
            | some o2 =>
              rw [q2] at eo
              refine hb n ρ2 o2 q2 F2 H2 σ4 T _ R4 ?_
              have s02 := s'.trans s2
              have k04 := kp.trans k4
              cases o2 with
              | nx ρ5 => exact fun F5 H5 σ5 s5 R5 k5 => ⟨ρ5, F5, s02.trans s5, R5, k04.trans k5, eo⟩
              | ct ρ5 => exact fun F5 H5 σ5 s5 R5 k5 => ⟨ρ5, F5, s02.trans s5, R5, k04.trans k5, eo⟩
              | bk ρ5 =>
                cases eo
                exact fun F5 H5 σ5 s5 R5 k5 => hP1 F5 H5 σ5 (s02.trans s5) R5 (k04.trans k5)
              | rt c ρ5 =>
                cases eo
                exact fun F5 H5 σ5 v s5 R5 k5 => hP1 F5 H5 σ5 v (s02.trans s5) R5 (k04.trans k5)
              | ex x ρ5 =>
                cases eo
                exact fun F5 H5 σ5 cls d s5 R5 k5 xr => hP1 F5 H5 σ5 cls d (s02.trans s5) R5 (k04.trans k5) xr
      · have ek : k = ds.length := by omega
        subst ek
        rw [List.drop_length] at eo
        cases eo
        exact .inl ⟨ok.stop F' H' _ _ s' R'.hr (Nat.le_refl _), hP1 F' H' σ' s' R' kp⟩
theorem xs_for {tg iter : Expr} {body : List Stmt} {i : Fn (List D)} {g : FG} {f : FS} (hp : ∀ j, PassesOwn (model (X j).prog (X j).w) (X j).A (X j).env (X j).xe) (hc : ∀ j, (X j).calm = true) (hi : XI G X W tg iter i) (hg : XG G X P tg g) (hb : XSs G X W P body f)
    (hs : ∀ j, ∀ x, foldedSetIterable iter (X j).env x = pure x) : XS G X W P (.For tg iter body [] pos) (sFor i g f) := by
  obtain ⟨wi, a1, a2⟩ := hi
  obtain ⟨tg', b1, b2⟩ := hg
  obtain ⟨tb, c1, c2⟩ := hb
  exact ⟨_, fun j => ps_for (hp j) (hc j) (a1 j) (b1 j) (c1 j) (hs j), snd_for a2 b2 c2⟩

/-! ### while -/
def whF (t : Fn Bool) (f : FS) (n : Nat) : Nat → En → Option Ot
  | 0, _ => none
  | m + 1, ρ => bS (t n ρ) fun c ρ1 => if c = true then (match f n ρ1 with
      | some (.nx ρ2) => whF t f n m ρ2
      | some (.ct ρ2) => whF t f n m ρ2
      | some (.bk ρ2) => some (.nx ρ2)
      | some (.rt c ρ2) => some (.rt c ρ2)
      | some (.ex x ρ2) => some (.ex x ρ2)
      | none => none) else some (.nx ρ1)
def sWh (t : Fn Bool) (f : FS) : FS := fun n ρ => whF t f n n ρ
theorem snd_wh {tc : TT} {tb : TS} {t : Fn Bool} {f : FS} (hc : SndT G W tc t) (hb : SndS G W P tb f) : SndS G W P (tWhile tc tb) (sWh t f) := fun n ρ o e F H σ T D hR hP => by
  refine ⟨fun m σ' H' => ∃ ρ' F', Same F F' ∧ G.R F' H' ρ' σ' T ∧ Kp P σ σ' ∧ whF t f n m ρ' = some o, ⟨n, ρ, F, Same.refl _, hR, Kp.refl _, e⟩, ?_⟩
  rintro m σ' H' ⟨ρ', F', s', R', kp, eo⟩
  cases m with
  | zero => cases eo
  | succ m =>
    unfold whF at eo
    cases q : t n ρ' with
    | none => rw [q] at eo; cases eo
    | some r1 =>
      rw [q] at eo
      refine hc n ρ' r1 q F' H' σ' T _ R' ?_
      cases r1 with
      | ex x ρ1 => cases eo; exact fun F1 H1 cls d s1 R1 xr => hP F1 H1 σ' cls d (s'.trans s1) R1 kp xr
      | ok c ρ1 =>
        rw [bS_ok] at eo
        intro F1 H1 s1 R1
        cases c with
        | false =>
          rw [if_neg Bool.false_ne_true] at eo
          rw [if_neg Bool.false_ne_true]
          cases eo
          exact hP F1 H1 σ' (s'.trans s1) R1 kp
        | true =>
          rw [if_pos rfl] at eo
          rw [if_pos rfl]
          refine ⟨fun σ3 H3 => ∃ ρ3 F3, Same F F3 ∧ G.R F3 H3 ρ3 σ3 T ∧ Kp P σ σ3 ∧ whF t f n m ρ3 = some o, fun σ3 H3 ⟨ρ3, F3, s3, R3, k3, e3⟩ => ⟨m, Nat.lt_succ_self _, ρ3, F3, s3, R3, k3, e3⟩, ?_⟩
          cases q2 : f n ρ1 with
          | none => rw [q2] at eo; cases eo
          | some o2 =>
            rw [q2] at eo
            refine hb n ρ1 o2 q2 F1 H1 σ' T _ R1 ?_
            have s01 := s'.trans s1
            cases o2 with
            | nx ρ5 => exact fun F5 H5 σ5 s5 R5 k5 => ⟨ρ5, F5, s01.trans s5, R5, kp.trans k5, eo⟩
            | ct ρ5 => exact fun F5 H5 σ5 s5 R5 k5 => ⟨ρ5, F5, s01.trans s5, R5, kp.trans k5, eo⟩
            | bk ρ5 =>
              cases eo
              exact fun F5 H5 σ5 s5 R5 k5 => hP F5 H5 σ5 (s01.trans s5) R5 (kp.trans k5)
            | rt c ρ5 =>
              cases eo
              exact fun F5 H5 σ5 v s5 R5 k5 => hP F5 H5 σ5 v (s01.trans s5) R5 (kp.trans k5)
            | ex x ρ5 =>
              cases eo
              exact fun F5 H5 σ5 cls d s5 R5 k5 xr => hP F5 H5 σ5 cls d (s01.trans s5) R5 (kp.trans k5) xr
theorem xs_wh {c : Expr} {body : List Stmt} {t : Fn Bool} {f : FS} (hp : ∀ j, PassesOwn (model (X j).prog (X j).w) (X j).A (X j).env (X j).xe) (hc : XT G X W c t) (hb : XSs G X W P body f) : XS G X W P (.While c body [] pos) (sWh t f) := by
  obtain ⟨tc, a1, a2⟩ := hc
  obtain ⟨tb, b1, b2⟩ := hb
  exact ⟨_, fun j => ps_while (hp j) (a1 j) (b1 j), snd_wh a2 b2⟩
end
end L3

namespace L3
open PySem PySem.Spec L2

/-! ### list comprehensions -/
theorem en_agree : ∀ {ρ : En} {σ σ' : L2.St}, EnOk ρ σ → σ'.length = σ.length → (∀ (i : Nat) (c : Cl), ρ[i]? = some (some c) → σ'[i]? = σ[i]?) → eL ρ σ' = eL ρ σ ∧ EnOk ρ σ'
  | [], [], [], _, _, _ => ⟨rfl, trivial⟩
  | [], [], _ :: _, _, hl, _ => by cases hl
  | some c :: ρ, some v :: σ, [], _, hl, _ => by cases hl
  | some c :: ρ, some v :: σ, o :: σ', h, hl, ha => by
    have h0 := ha 0 c rfl
    have e0 : o = some v := by simpa using h0
    subst e0
    obtain ⟨e1, e2⟩ := en_agree (ρ := ρ) (σ := σ) (σ' := σ') h (by simpa using hl) fun i c hc => by
      have := ha (i + 1) c (by rw [List.getElem?_cons_succ]; exact hc)
      simpa using this
    exact ⟨congrArg (fun z => (c, v) :: z) e1, e2⟩
  | none :: ρ, x :: σ, [], _, hl, _ => by cases hl
  | none :: ρ, x :: σ, o :: σ', h, hl, ha => by
    obtain ⟨e1, e2⟩ := en_agree (ρ := ρ) (σ := σ) (σ' := σ') h (by simpa using hl) fun i c hc => by
      have := ha (i + 1) c (by rw [List.getElem?_cons_succ]; exact hc)
      simpa using this
    exact ⟨e1, e2⟩
  | some _ :: _, none :: _, _, h, _, _ => h.elim
  | some _ :: _, [], _, h, _, _ => h.elim
  | none :: _, [], _, h, _, _ => h.elim
  | [], _ :: _, _, h, _, _ => h.elim
theorem R.agree {G : Gd} {F H : Hp} {ρ : En} {σ σ' : L2.St} {T : List (Cl × V)} (h : G.R F H ρ σ T) (hl : σ'.length = σ.length) (ha : ∀ (i : Nat) (c : Cl), ρ[i]? = some (some c) → σ'[i]? = σ[i]?) : G.R F H ρ σ' T := by
  obtain ⟨e1, e2⟩ := en_agree h.ok hl ha
  exact ⟨by rw [e1]; exact h.hr, e2⟩
/-- the slots vs emptied -/
def wipR (ρ : En) : List Nat → En
  | [] => ρ
  | v :: vs => (wipR ρ vs).set v none
def noneAt (ρ : En) (vs : List Nat) : Bool := vs.all fun j => match ρ[j]? with
  | some none => true
  | _ => false
theorem noneAt_ok {ρ : En} {vs : List Nat} (h : noneAt ρ vs = true) : ∀ j ∈ vs, ρ[j]? = some none := fun j hj => by
  have := List.all_eq_true.mp h j hj
  split at this
  · assumption
  · cases this
theorem wipR_len (ρ : En) : ∀ vs : List Nat, (wipR ρ vs).length = ρ.length
  | [] => rfl
  | v :: vs => by unfold wipR; rw [List.length_set, wipR_len ρ vs]
theorem wipR_at (ρ : En) : ∀ (vs : List Nat) (j : Nat), j ∈ vs → j < ρ.length → (wipR ρ vs)[j]? = some none
  | [], j, h, _ => by cases h
  | v :: vs, j, h, hl => by
    unfold wipR
    by_cases e : v = j
    · subst e
      rw [List.getElem?_set_self (by rw [wipR_len]; exact hl)]
    · rw [List.getElem?_set_ne e]
      exact wipR_at ρ vs j ((List.mem_cons.mp h).resolve_left fun z => e z.symm) hl
theorem R.wip {G : Gd} {F H : Hp} {ρ : En} {σ : L2.St} {T : List (Cl × V)} (h : G.R F H ρ σ T) : ∀ vs : List Nat, G.R F H (wipR ρ vs) (wipe σ vs) T
  | [] => h
  | v :: vs => (R.wip h vs).gone v none
theorem wipe_at (σ : L2.St) : ∀ (vs : List Nat) (j : Nat), j ∈ vs → j < σ.length → (wipe σ vs)[j]? = some none
  | [], j, h, _ => by cases h
  | v :: vs, j, h, hl => by
    unfold wipe
    by_cases e : v = j
    · subst e
      rw [List.getElem?_set_self (by rw [wipe_length]; exact hl)]
    · rw [List.getElem?_set_ne e]
      exact wipe_at σ vs j ((List.mem_cons.mp h).resolve_left fun z => e z.symm) hl
theorem wipe_eq {σ σ2 : L2.St} {vs : List Nat} (hl : σ2.length = σ.length) (h : ∀ j, j < σ.length → j ∉ vs → σ2[j]? = σ[j]?) : wipe σ2 vs = wipe σ vs := by
  refine List.ext_getElem? fun j => ?_
  by_cases hj : j < σ.length
  · by_cases m : j ∈ vs
    · rw [wipe_at σ2 vs j m (by rw [hl]; exact hj), wipe_at σ vs j m hj]
    · rw [wipe_out m, wipe_out m]
      exact h j hj m
  · rw [List.getElem?_eq_none (by rw [wipe_length, hl]; omega), List.getElem?_eq_none (by rw [wipe_length]; omega)]
def lcF (N : Nat) (g : FG) (t : Fn Bool) (e : Fn Bv) (vs : List Nat) (n : Nat) : List D → En → List D → Option (Rz Cl)
  | [], ρ, acc => some (.ok (.lst acc) ρ)
  | d :: ds, ρ, acc => match g d ρ with
    | some ρ2 => if ρ2.length = N then (match t n ρ2 with
      | some (.ok true ρ3) => match fFz e n ρ3 with
        | some (.ok (.fz y) ρ4) => lcF N g t e vs n ds (wipR ρ4 vs) (acc ++ [y])
        | _ => none
      | some (.ok false ρ3) => lcF N g t e vs n ds (wipR ρ3 vs) acc
      | _ => none) else none
    | none => none
def fLc (N : Nat) (vs : List Nat) (i : Fn (List D)) (g : FG) (t : Fn Bool) (e : Fn Bv) : Fn Cl := fun n ρ => bnd (i n ρ) fun ds ρ1 =>
  if (vs.all (fun j => decide (j < N)) && decide (ρ1.length = N) && decide (ds.length ≤ 1000000)) = true then lcF N g t e vs n ds (wipR ρ1 vs) [] else none
abbrev W0 : WX := fun _ _ _ _ => False
def outP (N : Nat) (vs : List Nat) : List Nat := (List.range N).filter fun j => !(vs.contains j)
theorem tM : (1000000 : Nat) < sizeLine := by rw [sizeLine_eq]; decide
section
variable {ι : Type} {G : Gd} {X : ι → Cx} {W : WX}
theorem snd_lc {N : Nat} {vs : List Nat} {wi : TI} {tg : TG} {tt : TT} {te : TE} {i : Fn (List D)} {g : FG} {t : Fn Bool} {e : Fn Bv} (hi : SndI G W wi i) (hg : SndG G (outP N vs) tg g) (ht : SndT G W0 tt t) (he : SndB G W0 te e) : SndE G W (tLc wi tg tt te vs) (fLc N vs i g t e) := fun n ρ r eq F H σ T Q hR hP => by
  unfold fLc at eq
  cases q : i n ρ with
  | none => rw [q] at eq; cases eq
  | some r1 =>
    rw [q] at eq
    refine hi n ρ r1 q F H σ T _ hR ?_
    cases r1 with
    | ex x ρ' => cases eq; exact hP
    | ok ds ρ1 =>
      rw [bnd_ok] at eq
      split at eq
      · rename_i hh
        rw [Bool.and_eq_true, Bool.and_eq_true] at hh
        obtain ⟨⟨hn, hN⟩, hz⟩ := hh
        have hN := of_decide_eq_true hN
        have hn : ∀ j ∈ vs, (wipR ρ1 vs)[j]? = some none := fun j hj => wipR_at ρ1 vs j hj (by
          have := of_decide_eq_true (List.all_eq_true.mp hn j hj)
          omega)
        have hz := of_decide_eq_true hz
        intro F1 H1 J s1 R1 ok Dn hD
        have lσ : ρ1.length = σ.length := R1.ok.len
        have Rw : G.R F1 H1 (wipR ρ1 vs) (wipe σ vs) T := R1.wip vs
        refine ⟨fun k m H' => ∃ ρ' F' acc, m = ds.length - k ∧ k ≤ ds.length ∧ acc.length ≤ k ∧ Same F1 F' ∧ G.R F' H' ρ' (wipe σ vs) ((.lst acc, .ref Dn) :: T) ∧ (∀ j ∈ vs, ρ'[j]? = some none) ∧ ρ'.length = N ∧ lcF N g t e vs n (ds.drop k) ρ' acc = some r,
          ⟨ds.length, wipR ρ1 vs, F1, [], by simp, Nat.zero_le _, Nat.le_refl _, Same.refl _, Rw.newLst hD .nil, hn, by rw [wipR_len]; exact hN, by rw [List.drop_zero]; exact eq⟩, ?_⟩
        rintro k m H' ⟨ρ', F', acc, rfl, hk, ha, s', R', hn', hN', eo⟩
        by_cases hlt : k < ds.length
        · rw [List.drop_eq_getElem_cons hlt] at eo
          unfold lcF at eo
          cases q1 : g ds[k] ρ' with
          | none => rw [q1] at eo; cases eo
          | some ρ2 =>
            rw [q1] at eo
            dsimp only at eo
            by_cases l2 : ρ2.length = N
            case neg => rw [if_neg l2] at eo; cases eo
            rw [if_pos l2] at eo
            refine .inr ⟨ok.go F' H' _ k s' R'.hr hlt, fun H3 => ∃ ρ3 F3 acc3, acc3.length ≤ k + 1 ∧ Same F1 F3 ∧ G.R F3 H3 ρ3 (wipe σ vs) ((.lst acc3, .ref Dn) :: T) ∧ (∀ j ∈ vs, ρ3[j]? = some none) ∧ ρ3.length = N ∧ lcF N g t e vs n (ds.drop (k + 1)) ρ3 acc3 = some r, ?_, ?_⟩
            · rintro H3 ⟨ρ3, F3, acc3, ha3, s3, R3, hn3, hN3, e3⟩
              exact ⟨ds.length - (k + 1), by omega, ρ3, F3, acc3, rfl, hlt, ha3, s3, R3, hn3, hN3, e3⟩
            · intro x H2 hy
              obtain ⟨F2, s2, hr2, rx⟩ := ok.yld F' H' _ k x H2 ds[k] s' R'.hr (List.getElem?_eq_getElem hlt) hy
              refine hg ds[k] ρ' ρ2 q1 F2 H2 (wipe σ vs) _ x _ ⟨hr2, R'.ok⟩ rx fun σ4 R4 k4 => ?_
              have l4 : σ4.length = σ.length := by
                have h1 := R4.ok.len
                have h2 := R'.ok.len
                rw [wipe_length] at h2
                omega
              have w4 : wipe σ4 vs = wipe σ vs := by
                have e1 : wipe σ4 vs = wipe (wipe σ vs) vs := wipe_eq (by rw [l4, wipe_length]) fun j hj m => by
                  refine k4 j (List.mem_filter.mpr ⟨List.mem_range.mpr ?_, by simp [m]⟩)
                  rw [wipe_length] at hj
                  omega
                rw [e1]
                exact wipe_eq (wipe_length _ _) fun j hj m => wipe_out m
              refine ⟨w4, ?_⟩
              have s02 := s'.trans s2
              cases q2 : t n ρ2 with
              | none => rw [q2] at eo; cases eo
              | some o2 =>
                rw [q2] at eo
                refine ht n ρ2 o2 q2 F2 H2 σ4 _ _ R4 ?_
                cases o2 with
                | ex x ρ3 => cases eo
                | ok b ρ3 =>
                  intro F3 H3 s3 R3
                  cases b with
                  | false =>
                    rw [if_neg Bool.false_ne_true]
                    dsimp only at eo
                    have Rn := R3.wip vs
                    rw [w4] at Rn
                    refine ⟨wipR ρ3 vs, F3, acc, Nat.le_succ_of_le ha, s02.trans s3, Rn, fun j hj => wipR_at ρ3 vs j hj ?_, ?_, eo⟩
                    · have := R3.ok.len
                      have hj' := hn' j hj
                      have := (List.getElem?_eq_some_iff.mp hj').1
                      omega
                    · have := R3.ok.len
                      rw [wipR_len]
                      omega
                  | true =>
                    rw [if_pos rfl]
                    dsimp only at eo
                    cases q3 : fFz e n ρ3 with
                    | none => rw [q3] at eo; cases eo
                    | some o3 =>
                      rw [q3] at eo
                      refine snd_fz he n ρ3 o3 q3 F3 H3 σ4 _ _ R3 ?_
                      cases o3 with
                      | ex x ρ4 => cases eo
                      | ok c ρ4 =>
                        intro F4 H4 y s4 R4'
                        cases c with
                        | fz dy =>
                          dsimp only at eo
                          have ry := R4'.rp
                          have R5 := R4'.tail
                          obtain ⟨A, cr⟩ := R5.cr
                          cases cr with
                          | lst h1 h2 r2 =>
                            refine ⟨_, h1, ?_, ?_⟩
                            · rw [r2.length]
                              exact Nat.lt_of_le_of_lt (Nat.le_trans ha (Nat.le_trans hk hz)) tM
                            · have R6 : G.R F4 (upd H4 Dn (.lst (_ ++ [y]))) ρ4 σ4 ((.lst (acc ++ [dy]), .ref Dn) :: T) :=
                                .mk' (R5.hr'.mut (fun A h => by cases h; rfl) (.lst upd_same h2 (r2.append (.cons ry .nil)))) R5.ok
                              have Rn := R6.wip vs
                              rw [w4] at Rn
                              refine ⟨wipR ρ4 vs, F4, acc ++ [dy], ?_, (s02.trans s3).trans s4, Rn, fun j hj => wipR_at ρ4 vs j hj ?_, ?_, eo⟩
                              · rw [List.length_append, List.length_singleton]; omega
                              · have := R6.ok.len
                                have hj' := hn' j hj
                                have := (List.getElem?_eq_some_iff.mp hj').1
                                omega
                              · have := R6.ok.len
                                rw [wipR_len]
                                omega
                        | lst _ => cases eo
                        | dct _ => cases eo
                        | dtt _ => cases eo
                        | dlk _ => cases eo
                        | ins _ _ => cases eo
        · have ek : k = ds.length := by omega
          subst ek
          rw [List.drop_length] at eo
          cases eo
          refine .inl ⟨ok.stop F' H' _ _ s' R'.hr (Nat.le_refl _), hP F' H' _ (s1.trans s') (R'.agree (wipe_length _ _).symm fun j c hc => (wipe_out fun m => by rw [hn' j m] at hc; cases hc).symm)⟩
      · cases eq
end
end L3

namespace L3
open PySem PySem.Spec L2

/-! ### comprehensions in the text -/
structure Bi where
  s : Shared
  H : Hp
  C : Addr
  cl : List (Str × Addr)
  fp : List Addr
section
variable {ι : Type}
abbrev blkX (X : ι → Cx) (scope : Scope) : ι × Bi → Cx := fun p => (X p.1).blk p.2.s p.2.H scope (compEnvC scope p.2.cl p.2.C (X p.1).env) p.2.fp
def fYes : Fn Bool := fun _ ρ => some (.ok true ρ)
variable {G : Gd} {X : ι → Cx} {W : WX} {P : List Nat}
theorem xe_lc0 {elt tg iter : Expr} {scope : Scope} {own : List (Str × Nat)} {pos : Pos} {N : Nat} {i : Fn (List D)} {g : FG} {e : Fn Bv} (hc : ∀ j, (X j).calm = true) (hN : ∀ j, (X j).N.Nodup) (hi : XI G X W tg iter i) (ok : ∀ j, BlkOk (X j).N (X j).env.scope scope own)
    (hg : XG G (blkX X scope) (outP N (own.map (·.2))) tg g) (he : XB G (blkX X scope) W0 elt e) (hs : ∀ j, ∀ x, foldedSetIterable iter (X j).env x = pure x) :
    XE G X W (.ListComp elt [⟨tg, iter, [], 0⟩] scope pos) (fLc N (own.map (·.2)) i g fYes e) := by
  obtain ⟨wi, a1, a2⟩ := hi
  obtain ⟨tg', b1, b2⟩ := hg
  obtain ⟨te, c1, c2⟩ := he
  refine ⟨_, fun j => pe_lc (hc j) (hN j) (a1 j) (ok j) (fun s H C cl fp => b1 (j, ⟨s, H, C, cl, fp⟩)) (fun _ _ _ _ _ => pts_nil) (fun s H C cl fp => c1 (j, ⟨s, H, C, cl, fp⟩)) (hs j), snd_lc a2 b2 (fun n ρ r e F H σ T Q hR hP => ?_) c2⟩
  cases e
  exact hP F H (Same.refl _) hR
theorem xe_lc1 {elt tg iter c : Expr} {scope : Scope} {own : List (Str × Nat)} {pos : Pos} {N : Nat} {i : Fn (List D)} {g : FG} {t : Fn Bool} {e : Fn Bv} (hc : ∀ j, (X j).calm = true) (hN : ∀ j, (X j).N.Nodup) (hi : XI G X W tg iter i) (ok : ∀ j, BlkOk (X j).N (X j).env.scope scope own)
    (hg : XG G (blkX X scope) (outP N (own.map (·.2))) tg g) (ht : XT G (blkX X scope) W0 c t) (he : XB G (blkX X scope) W0 elt e) (hs : ∀ j, ∀ x, foldedSetIterable iter (X j).env x = pure x) :
    XE G X W (.ListComp elt [⟨tg, iter, [c], 0⟩] scope pos) (fLc N (own.map (·.2)) i g t e) := by
  obtain ⟨wi, a1, a2⟩ := hi
  obtain ⟨tg', b1, b2⟩ := hg
  obtain ⟨tt, d1, d2⟩ := ht
  obtain ⟨te, c1, c2⟩ := he
  exact ⟨_, fun j => pe_lc (hc j) (hN j) (a1 j) (ok j) (fun s H C cl fp => b1 (j, ⟨s, H, C, cl, fp⟩)) (fun s H C cl fp => pts_one (d1 (j, ⟨s, H, C, cl, fp⟩))) (fun s H C cl fp => c1 (j, ⟨s, H, C, cl, fp⟩)) (hs j), snd_lc a2 b2 d2 c2⟩
theorem xs_setLc0 {k : Nat} {y : Str} {py : Pos} {elt tg iter : Expr} {scope : Scope} {own : List (Str × Nat)} {pos spos : Pos} {N : Nat} {i : Fn (List D)} {g : FG} {e : Fn Bv} (hk : k ∉ P) (hc : ∀ j, (X j).calm = true) (hN : ∀ j, (X j).N.Nodup) (hy : ∀ j, (X j).N[k]? = some y) (hyl : ∀ j, (X j).env.scope.names.lookup y = some .local)
    (hsw : ∀ j, swapsWith (.ListComp elt [⟨tg, iter, [], 0⟩] scope pos) (some (.Name y py)) spos.line (X j).env = pure true) (hi : XI G X W tg iter i) (ok : ∀ j, BlkOk (X j).N (X j).env.scope scope own)
    (hg : XG G (blkX X scope) (outP N (own.map (·.2))) tg g) (he : XB G (blkX X scope) W0 elt e) (hs : ∀ j, ∀ x, foldedSetIterable iter (X j).env x = pure x) :
    XS G X W P (.Assign [.Name y py] (.ListComp elt [⟨tg, iter, [], 0⟩] scope pos) spos) (sSet k (fLc N (own.map (·.2)) i g fYes e)) := by
  obtain ⟨wi, a1, a2⟩ := hi
  obtain ⟨tg', b1, b2⟩ := hg
  obtain ⟨te, c1, c2⟩ := he
  refine ⟨_, fun j => ps_setLc (hc j) (hN j) (hy j) (hyl j) (hsw j) (a1 j) (ok j) (fun s H C cl fp => b1 (j, ⟨s, H, C, cl, fp⟩)) (fun _ _ _ _ _ => pts_nil) (fun s H C cl fp => c1 (j, ⟨s, H, C, cl, fp⟩)) (hs j), snd_set hk (snd_lc a2 b2 (fun n ρ r e F H σ T Q hR hP => ?_) c2)⟩
  cases e
  exact hP F H (Same.refl _) hR
theorem xs_setLc1 {k : Nat} {y : Str} {py : Pos} {elt tg iter c : Expr} {scope : Scope} {own : List (Str × Nat)} {pos spos : Pos} {N : Nat} {i : Fn (List D)} {g : FG} {t : Fn Bool} {e : Fn Bv} (hk : k ∉ P) (hc : ∀ j, (X j).calm = true) (hN : ∀ j, (X j).N.Nodup) (hy : ∀ j, (X j).N[k]? = some y) (hyl : ∀ j, (X j).env.scope.names.lookup y = some .local)
    (hsw : ∀ j, swapsWith (.ListComp elt [⟨tg, iter, [c], 0⟩] scope pos) (some (.Name y py)) spos.line (X j).env = pure true) (hi : XI G X W tg iter i) (ok : ∀ j, BlkOk (X j).N (X j).env.scope scope own)
    (hg : XG G (blkX X scope) (outP N (own.map (·.2))) tg g) (ht : XT G (blkX X scope) W0 c t) (he : XB G (blkX X scope) W0 elt e) (hs : ∀ j, ∀ x, foldedSetIterable iter (X j).env x = pure x) :
    XS G X W P (.Assign [.Name y py] (.ListComp elt [⟨tg, iter, [c], 0⟩] scope pos) spos) (sSet k (fLc N (own.map (·.2)) i g t e)) := by
  obtain ⟨wi, a1, a2⟩ := hi
  obtain ⟨tg', b1, b2⟩ := hg
  obtain ⟨tt, d1, d2⟩ := ht
  obtain ⟨te, c1, c2⟩ := he
  exact ⟨_, fun j => ps_setLc (hc j) (hN j) (hy j) (hyl j) (hsw j) (a1 j) (ok j) (fun s H C cl fp => b1 (j, ⟨s, H, C, cl, fp⟩)) (fun s H C cl fp => pts_one (d1 (j, ⟨s, H, C, cl, fp⟩))) (fun s H C cl fp => c1 (j, ⟨s, H, C, cl, fp⟩)) (hs j), snd_set hk (snd_lc a2 b2 d2 c2)⟩
end

/-! ### calls of defs -/
inductive Mo where
  | ok (c : Cl) (outs : List (Option Cl))
  | ex (x : Ex) (outs : List (Option Cl))
abbrev Mr := List Cl → Option Mo
def backs : List (Option Cl) → List V → List (Cl × V)
  | some c :: os, v :: vs => (c, v) :: backs os vs
  | none :: os, _ :: vs => backs os vs
  | _, _ => []
def MoP (G : Gd) (F : Hp) (vs : List V) (L : List (Cl × V)) (Q : VK) (E : XK) : Mo → Prop
  | .ok c outs => ∀ F' H' v, Same F F' → G.HR F' H' ((c, v) :: (backs outs vs ++ L)) → Q v H'
  | .ex x outs => ∀ F' H' cls d, Same F F' → G.HR F' H' (backs outs vs ++ L) → XR G F' x cls d → E cls d H'
/-- the promise of a def: called with such cells it hands back what m says -/
def spM (G : Gd) (np : Nat) (m : Mr) : Sp := fun vs H Q E => vs.length = np ∧ ∃ cs F L o, cs.length = np ∧ G.HR F H (cs.zip vs ++ L) ∧ m cs = some o ∧ MoP G F vs L Q E o
def takeA (ρ : En) : List Bv → Option (List Cl × En)
  | [] => some ([], ρ)
  | b :: bs => match takeA ρ bs with
    | some (cs, ρ1) => match b with
      | .vl c => some (c :: cs, ρ1)
      | .pl i => match (ρ1[i]?).join with
        | some (.fz d) => some (.fz d :: cs, ρ1)
        | some c => some (c :: cs, ρ1.set i none)
        | none => none
    | none => none
def giveA : En → List Bv → List (Option Cl) → En
  | ρ, .pl i :: bs, some c :: os => giveA (match ρ[i]? with | some none => ρ.set i (some c) | _ => ρ) bs os
  | ρ, .pl _ :: bs, none :: os => giveA ρ bs os
  | ρ, .vl _ :: bs, _ :: os => giveA ρ bs os
  | ρ, _, _ => ρ
section
variable {G : Gd} {F H : Hp} {ρ : En} {σ : L2.St} {T : List (Cl × V)}
theorem take_many : ∀ {bs : List Bv} {vs : List V} {cs : List Cl} {T : List (Cl × V)} {ρ' : En}, G.R F H ρ σ (bvTs bs vs T) → bvVs σ bs vs → takeA ρ bs = some (cs, ρ') → G.HR F H (cs.zip vs ++ (eL ρ' σ ++ T)) ∧ EnOk ρ' σ ∧ cs.length = vs.length
  | [], [], cs, T, ρ', hR, _, e => by
    cases e
    exact ⟨hR.hr, hR.ok, rfl⟩
  | [], _ :: _, _, _, _, _, h, _ => h.elim
  | _ :: _, [], _, _, _, _, h, _ => h.elim
  | b :: bs, v :: vs, cs, T, ρ', hR, hv, e => by
    unfold takeA at e
    cases q : takeA ρ bs with
    | none => rw [q] at e; cases e
    | some p =>
      obtain ⟨cs1, ρ1⟩ := p
      rw [q] at e
      dsimp only at e
      obtain ⟨h1, ok1, l1⟩ := take_many (T := bvT b v T) hR hv.2 q
      cases b with
      | vl c =>
        cases e
        refine ⟨?_, ok1, congrArg (· + 1) l1⟩
        show G.HR F H ((c, v) :: (cs1.zip vs ++ (eL ρ' σ ++ T)))
        have p1 : (cs1.zip vs ++ (eL ρ' σ ++ (c, v) :: T)).Perm ((c, v) :: (cs1.zip vs ++ (eL ρ' σ ++ T))) :=
          (List.Perm.append_left _ (mid _ _ _)).trans (mid _ _ _)
        exact h1.perm p1
      | pl i =>
        dsimp only at e
        have h1 : G.HR F H (cs1.zip vs ++ (eL ρ1 σ ++ T)) := h1
        have hv1 : σ[i]? = some (some v) := hv.1
        cases q2 : (ρ1[i]?).join with
        | none => rw [q2] at e; cases e
        | some c =>
          rw [q2] at e
          obtain ⟨w, h2, p2, ok2⟩ := en_get ok1 (join_some q2)
          rw [hv1] at h2
          cases h2
          have p3 : (cs1.zip vs ++ (eL ρ1 σ ++ T)).Perm ((c, v) :: (cs1.zip vs ++ (eL (ρ1.set i none) σ ++ T))) :=
            (List.Perm.append_left _ (List.Perm.append_right T p2)).trans (mid _ _ _)
          cases c with
          | fz d =>
            cases e
            refine ⟨?_, ok1, congrArg (· + 1) l1⟩
            exact h1.push (h1.perm p3).rp
          | lst _ => cases e; exact ⟨h1.perm p3, ok2, congrArg (· + 1) l1⟩
          | dct _ => cases e; exact ⟨h1.perm p3, ok2, congrArg (· + 1) l1⟩
          | dtt _ => cases e; exact ⟨h1.perm p3, ok2, congrArg (· + 1) l1⟩
          | dlk _ => cases e; exact ⟨h1.perm p3, ok2, congrArg (· + 1) l1⟩
          | ins _ _ => cases e; exact ⟨h1.perm p3, ok2, congrArg (· + 1) l1⟩
theorem give_many : ∀ {bs : List Bv} {vs : List V} {os : List (Option Cl)} {ρ : En}, G.HR F H (backs os vs ++ (eL ρ σ ++ T)) → EnOk ρ σ → bvVs σ bs vs → G.R F H (giveA ρ bs os) σ T
  | [], [], os, ρ, h, ok, _ => by
    have e1 : backs os [] = [] := by
      cases os with
      | nil => rfl
      | cons o os => cases o <;> rfl
    rw [e1] at h
    cases os <;> exact ⟨h, ok⟩
  | [], _ :: _, _, _, _, _, h => h.elim
  | _ :: _, [], _, _, _, _, h => h.elim
  | b :: bs, v :: vs, [], ρ, h, ok, hv => by
    cases b <;> exact ⟨h, ok⟩
  | .vl c :: bs, v :: vs, o :: os, ρ, h, ok, hv => by
    refine give_many (bs := bs) (vs := vs) (os := os) ?_ ok hv.2
    cases o with
    | none => exact h
    | some c' => exact HR.tail (x := (c', v)) h
  | .pl i :: bs, v :: vs, none :: os, ρ, h, ok, hv => give_many (bs := bs) (vs := vs) (os := os) h ok hv.2
  | .pl i :: bs, v :: vs, some c :: os, ρ, h, ok, hv => by
    have hv1 : σ[i]? = some (some v) := hv.1
    have h : G.HR F H ((c, v) :: (backs os vs ++ (eL ρ σ ++ T))) := h
    unfold giveA
    cases q : ρ[i]? with
    | none => exact give_many (vs := vs) h.tail ok hv.2
    | some r =>
      cases r with
      | some c' => exact give_many (vs := vs) h.tail ok hv.2
      | none =>
        obtain ⟨ok2, p2⟩ := en_put c ok q hv1
        refine give_many (vs := vs) (h.perm ?_) ok2 hv.2
        exact (mid _ _ _).symm.trans (List.Perm.append_left _ (List.Perm.append_right T p2))
end
def fCall (m : Mr) (f : Fn (List Bv)) : Fn Cl := fun n ρ => bnd (f n ρ) fun bs ρ1 => match takeA ρ1 bs with
  | some (cs, ρ2) => match m cs with
    | some (.ok c outs) => some (.ok c (giveA ρ2 bs outs))
    | some (.ex x outs) => some (.ex x (giveA ρ2 bs outs))
    | none => none
  | none => none
section
variable {ι : Type} {G : Gd} {X : ι → Cx} {W : WX} {e : Expr} {es : List Expr}
theorem HR.rot {K : PySem.W.Frag} {cl : Str → Addr → Prop} {F H : Hp} {x : Cl × V} {A B C : List (Cl × V)} (h : HR K cl F H (x :: (A ++ (B ++ C)))) : HR K cl F H (A ++ (B ++ x :: C)) :=
  h.perm (((List.Perm.append_left A (mid x B C)).trans (mid x A (B ++ C))).symm)
theorem snd_call {np : Nat} {m : Mr} {t : TA} {f : Fn (List Bv)} (ht : SndBs G W t f) (hl : ∀ n ρ bs ρ', f n ρ = some (.ok bs ρ') → bs.length = np) : SndE G W (tCallS (spM G np m) (WE W) t) (fCall m f) := fun n ρ r e F H σ T Q hR hP => by
  unfold fCall at e
  cases q : f n ρ with
  | none => rw [q] at e; cases e
  | some r1 =>
    rw [q] at e
    refine ht n ρ r1 q F H σ T _ hR ?_
    cases r1 with
    | ex x ρ' => cases e; exact hP
    | ok bs ρ1 =>
      rw [bnd_ok] at e
      intro F1 H1 vs s1 R1 v1
      cases q2 : takeA ρ1 bs with
      | none => rw [q2] at e; cases e
      | some p =>
        obtain ⟨cs, ρ2⟩ := p
        rw [q2] at e
        dsimp only at e
        obtain ⟨hh, ok2, lc⟩ := take_many R1 v1 q2
        have lb : vs.length = np := by
          rw [← hl n ρ bs ρ1 q]
          have : ∀ {bs : List Bv} {vs : List V}, bvVs σ bs vs → vs.length = bs.length := by
            intro bs
            induction bs with
            | nil => intro vs h; cases vs with
              | nil => rfl
              | cons _ _ => exact h.elim
            | cons b bs ih => intro vs h; cases vs with
              | nil => exact h.elim
              | cons v vs => exact congrArg (· + 1) (ih h.2)
          exact this v1
        cases q3 : m cs with
        | none => rw [q3] at e; cases e
        | some o =>
          rw [q3] at e
          refine ⟨lb, cs, F1, eL ρ2 σ ++ T, o, lc.trans lb, hh, q3, ?_⟩
          cases o with
          | ok c outs =>
            cases e
            exact fun F' H' v s' h' => hP F' H' v (s1.trans s') (give_many (T := (c, v) :: T) h'.rot ok2 v1)
          | ex x outs =>
            cases e
            exact fun F' H' cls d s' h' xr => hP F' H' cls d (s1.trans s') (give_many h' ok2 v1) xr
theorem xe_call {np k : Nat} {m : Mr} {f : Fn (List Bv)} {x : Str} {p pos : Pos} {a : Addr} {fd : FuncData} {ps : List Str} (Fk : ∀ i, FnOk (X i).prog (X i).w (X i).K (X i).mg (X i).base (L2.CX (X i).prog (X i).w) k a fd ps (spM G np m)) (hr : ∀ i, Room k (X i).A) (hg : ∀ i, Gl (X i) x) (hm : ∀ i, (X i).mg x = some (.ref a))
    (hk : ∀ i, PySem.W.keepIn (X i).K (.ref a) = true) (hb : ∀ i, Binds (X i).K fd ps []) (tk : ∀ i, Takes (X i) W) (ha : XBs G X W (e :: es) f) (hl : ∀ n ρ bs ρ', f n ρ = some (.ok bs ρ') → bs.length = np) (hdb : (x == ("__debug__" : Str)) = false)
    (he : ∀ i, starEach (e :: es) (X i).env = (false, eval e (X i).env) :: starEach es (X i).env) (hpl : ∀ i, (backTo pos (starEach es (X i).env)).any (·.1) = false) : XE G X W (.Call (.Name x p) (e :: es) [] pos) (fCall m f) := by
  obtain ⟨t, h1, h2⟩ := ha
  exact ⟨_, fun i => pe_callS (E := WE W) (Fk i) (hr i) (hg i) (hm i) (hk i) (hb i) (fun σ => passAt (tk i) σ) (h1 i) hdb (he i) (hpl i), snd_call h2 hl⟩
def fCall0 (m : Mr) : Fn Cl := fun _ ρ => match m [] with
  | some (.ok c _) => some (.ok c ρ)
  | _ => none
theorem backs_nil (os : List (Option Cl)) : backs os [] = [] := by
  cases os with
  | nil => rfl
  | cons o os => cases o <;> rfl
theorem xe_call0 {k : Nat} {m : Mr} {x : Str} {p pos : Pos} {a : Addr} {fd : FuncData} (Fk : ∀ i, FnOk (X i).prog (X i).w (X i).K (X i).mg (X i).base (L2.CX (X i).prog (X i).w) k a fd [] (spM G 0 m)) (hr : ∀ i, Room k (X i).A) (hg : ∀ i, Gl (X i) x) (hm : ∀ i, (X i).mg x = some (.ref a))
    (hk : ∀ i, PySem.W.keepIn (X i).K (.ref a) = true) (hb : ∀ i, Binds (X i).K fd [] []) (hdb : (x == ("__debug__" : Str)) = false) : XE G X W (.Call (.Name x p) [] [] pos) (fCall0 m) :=
  ⟨_, fun i => pe_call0 (Fk i) (hr i) (hg i) (hm i) (hk i) (hb i) .nil passL hdb, fun n ρ r e F H σ T Q hR hP => by
    unfold fCall0 at e
    split at e
    · rename_i c outs q
      cases e
      refine ⟨rfl, [], F, eL ρ σ ++ T, _, rfl, hR.hr, q, fun F' H' v s' h' => ?_⟩
      have h' : G.HR F' H' ((c, v) :: (backs outs [] ++ (eL ρ σ ++ T))) := h'
      rw [backs_nil] at h'
      exact hP F' H' v s' (.mk' h' hR.ok)
    · cases e⟩
theorem len_nil {n : Nat} {ρ : En} {bs : List Bv} {ρ' : En} (h : fNil n ρ = some (.ok bs ρ')) : bs.length = 0 := by
  cases h
  rfl
theorem len_cons {f : Fn Bv} {g : Fn (List Bv)} {k : Nat} (hg : ∀ n ρ bs ρ', g n ρ = some (.ok bs ρ') → bs.length = k) : ∀ n ρ bs ρ', fCons f g n ρ = some (.ok bs ρ') → bs.length = k + 1 := fun n ρ bs ρ' h => by
  unfold fCons at h
  cases q : f n ρ with
  | none => rw [q] at h; cases h
  | some r1 =>
    rw [q] at h
    cases r1 with
    | ex x ρ1 => cases h
    | ok b ρ1 =>
      rw [bnd_ok] at h
      cases q2 : g n ρ1 with
      | none => rw [q2] at h; cases h
      | some r2 =>
        rw [q2] at h
        cases r2 with
        | ex x ρ2 => cases h
        | ok bs2 ρ2 =>
          cases h
          exact congrArg (· + 1) (hg n ρ1 bs2 _ q2)
end

/-! ### a def by its body -/
def outsOf (fl : List Bool) (ρ : En) : List (Option Cl) := List.zipWith (fun b r => if b = true then r else none) fl ρ
def fin (fl : List Bool) : Ot → Option Mo
  | .nx ρ => some (.ok (.fz .none) (outsOf fl ρ))
  | .rt c ρ => some (.ok c (outsOf fl ρ))
  | .ex x ρ => some (.ex x (outsOf fl ρ))
  | _ => none
def startR (N : Nat) (cs : List Cl) : En := cs.map some ++ List.replicate (N - cs.length) none
theorem start_ok : ∀ {cs : List Cl} {vs : List V} (k : Nat), cs.length = vs.length → EnOk (cs.map some ++ List.replicate k none) (vs.map some ++ List.replicate k none) ∧ eL (cs.map some ++ List.replicate k none) (vs.map some ++ List.replicate k none) = cs.zip vs
  | [], [], 0, _ => ⟨trivial, rfl⟩
  | [], [], k + 1, h => by
    obtain ⟨h1, h2⟩ := start_ok (cs := []) (vs := []) k rfl
    rw [List.replicate_succ]
    exact ⟨h1, h2⟩
  | c :: cs, v :: vs, k, h => by
    obtain ⟨h1, h2⟩ := start_ok (cs := cs) (vs := vs) k (by simpa using h)
    exact ⟨h1, congrArg (fun z => (c, v) :: z) h2⟩
  | [], _ :: _, _, h => by cases h
  | _ :: _, [], _, h => by cases h
theorem outs_ok : ∀ {ρ : En} {σ : L2.St} {vs : List V} {fl : List Bool}, EnOk ρ σ → (∀ (i : Nat) (v : V), fl[i]? = some true → vs[i]? = some v → σ[i]? = some (some v)) → ∃ M, (eL ρ σ).Perm (backs (outsOf fl ρ) vs ++ M)
  | [], [], vs, fl, _, _ => ⟨[], by cases fl <;> exact .refl _⟩
  | ρ, σ, [], fl, _, _ => ⟨eL ρ σ, by rw [backs_nil]; exact .refl _⟩
  | ρ, σ, _ :: _, [], _, _ => ⟨eL ρ σ, .refl _⟩
  | some c :: ρ, some w :: σ, v :: vs, b :: fl, ok, h => by
    obtain ⟨M, p⟩ := outs_ok (ρ := ρ) (σ := σ) (vs := vs) (fl := fl) ok fun i v' h1 h2 => by
      have := h (i + 1) v' (by rw [List.getElem?_cons_succ]; exact h1) (by rw [List.getElem?_cons_succ]; exact h2)
      simpa using this
    cases b with
    | true =>
      have e := h 0 v rfl rfl
      simp only [List.getElem?_cons_zero, Option.some.injEq] at e
      subst e
      exact ⟨M, List.Perm.cons _ p⟩
    | false => exact ⟨(c, w) :: M, (List.Perm.cons _ p).trans (mid _ _ _).symm⟩
  | none :: ρ, x :: σ, v :: vs, b :: fl, ok, h => by
    obtain ⟨M, p⟩ := outs_ok (ρ := ρ) (σ := σ) (vs := vs) (fl := fl) ok fun i v' h1 h2 => by
      have := h (i + 1) v' (by rw [List.getElem?_cons_succ]; exact h1) (by rw [List.getElem?_cons_succ]; exact h2)
      simpa using this
    cases b <;> exact ⟨M, p⟩
  | some _ :: _, none :: _, _, _, h, _ => h.elim
  | some _ :: _, [], _, _, h, _ => h.elim
  | none :: _, [], _, _, h, _ => h.elim
  | [], _ :: _, _, _, h, _ => h.elim
theorem start_get {N : List Str} {vs : List V} {i : Nat} {v : V} (h : vs[i]? = some v) : (L2.start N vs)[i]? = some (some v) := by
  unfold L2.start
  obtain ⟨hi, e⟩ := List.getElem?_eq_some_iff.mp h
  rw [List.getElem?_append_left (by rw [List.length_map]; exact hi), List.getElem?_map, h]
  rfl
section
variable {P : Program} {w : World} {K : PySem.W.Frag} {mg : Str → Option Value} {base : Heap}
theorem def_ok {x qual : Str} {st : Stmt} {f : Addr} {fd : FuncData} {N ps : List Str} {k np : Nat} {G : Gd} {fl : List Bool} {Pk : List Nat} {g : FS} {m : Mr} (F : Fun K x qual st f fd) (S : FnScope N ps (defScope st)) (hnp : ps.length = np) (hfl : ∀ i, fl[i]? = some true → i ∈ Pk) (hN : np ≤ N.length)
    (hbody : ∀ (cdv : Value) (A : Around) (outer : List Env) (s : Shared) (H : Hp) (E : XK), Room k (A.deeper (PyProof.Rows.envOfC qual (defScope st) s.heap.objs.size f cdv)) →
      XSs G (fun _ : Unit => cxOf (L2.CX P w) P w K mg base N qual (defScope st) f cdv A outer s H E) (fun cls d _ H => E cls d H) Pk (defBody st) g)
    (hm : ∀ cs o, m cs = some o → ∃ n out, g n (startR N.length cs) = some out ∧ fin fl out = some o) : FnOk P w K mg base (L2.CX P w) (k + 1) f fd ps (spM G np m) := by
  refine F.okX S (fun vs H Q E h => by rw [hnp]; exact h.1) fun cdv A outer s H vs Q E hr h => ?_
  obtain ⟨lv, cs, F0, L, o, lc, hh, q, hP⟩ := h
  obtain ⟨t, h1, h2⟩ := hbody cdv A outer s H E hr
  obtain ⟨n, out, e1, e2⟩ := hm cs o q
  refine ⟨t, h1 (), h2 n _ out e1 F0 H _ L _ ?_ ?_⟩
  · obtain ⟨a1, a2⟩ := start_ok (cs := cs) (vs := vs) (N.length - cs.length) (lc.trans lv.symm)
    unfold startR
    have e3 : L2.start N vs = vs.map some ++ List.replicate (N.length - cs.length) none := by unfold L2.start; rw [lc, lv]
    rw [e3]
    exact ⟨by rw [a2]; exact hh, a1⟩
  · have key : ∀ {F' H' : Hp} {ρ' : En} {σ' : L2.St} {T' : List (Cl × V)}, G.R F' H' ρ' σ' T' → Kp Pk (L2.start N vs) σ' → G.HR F' H' (backs (outsOf fl ρ') vs ++ T') := fun {F' H' ρ' σ' T'} R' kp => by
      obtain ⟨M, p⟩ := outs_ok (vs := vs) (fl := fl) R'.ok fun i v h3 h4 => by rw [kp i (hfl i h3)]; exact start_get h4
      refine ((R'.hr.perm (List.Perm.append_right T' p)).perm (L' := (backs (outsOf fl ρ') vs ++ T') ++ M) ?_).left
      rw [List.append_assoc, List.append_assoc]
      exact List.Perm.append_left _ List.perm_append_comm
    cases out with
    | nx ρ' =>
      cases e2
      intro F' H' σ' s' R' kp
      exact hP F' H' .non s' ((key R' kp).push .non)
    | rt c ρ' =>
      cases e2
      intro F' H' σ' v s' R' kp
      exact hP F' H' v s' ((key R' kp).perm (mid _ _ _))
    | ex x ρ' =>
      cases e2
      intro F' H' σ' cls d s' R' kp xr
      exact hP F' H' cls d s' (key R' kp) xr
    | bk ρ' => cases e2
    | ct ρ' => cases e2
end
end L3

namespace L3
open PySem PySem.Spec L2

/-! ### reading cells -/
section
variable {G : Gd} {F H : Hp} {c : Cl} {v : V} {A : List Addr}
theorem RpK.of {K : PySem.W.Frag} {F : Hp} : ∀ {kvs : List (Key × V)} {es : List (Key × D)}, RpKs K F kvs es → RpK K F kvs (es.map fun p => (kD p.1, p.2))
  | _, _, .nil => .nil
  | _, _, .cons h r => .cons h (RpK.of r)
theorem CR.rp {d : D} (s : Same F H) (h : G.CR F H c v A) (e : c.data = some d) : Rp G.K H v d := by
  cases h with
  | fz r => cases e; exact r.mono s
  | lst h1 h2 r => cases e; exact .lst (.inl (.inl h1)) (r.mono s)
  | dct h1 h2 r => cases e; exact .dct h1 (RpK.of (r.mono s))
  | dtt h1 h2 r => cases e
  | dlk h1 r => cases e
  | ins hc h1 h2 h3 r => cases e
theorem CR.rpF {d : D} (h : G.CR F H c v A) (e : c = .fz d) : Rp G.K F v d := by
  subst e
  cases h with
  | fz r => exact r
theorem CR.seqL {ds : List D} (s : Same F H) (h : G.CR F H c v A) (e : c.data = some (.list ds)) : ∃ a vs, v = .ref a ∧ SqL G.K H a vs ∧ RpA G.K F vs ds := by
  cases h with
  | fz r =>
    cases e
    cases r with
    | lst h1 r => exact ⟨_, _, rfl, s.seq h1, r⟩
  | lst h1 h2 r => cases e; exact ⟨_, _, rfl, .inl (.inl h1), r⟩
  | dct h1 h2 r => cases e
  | dtt h1 h2 r => cases e
  | dlk h1 r => cases e
  | ins hc h1 h2 h3 r => cases e
theorem CR.seqT {ds : List D} (s : Same F H) (h : G.CR F H c v A) (e : c.data = some (.tuple ds)) : ∃ a vs, v = .ref a ∧ SqT G.K F a vs ∧ RpA G.K F vs ds := by
  cases h with
  | fz r =>
    cases e
    cases r with
    | tup h1 r => exact ⟨_, _, rfl, h1, r⟩
  | lst h1 h2 r => cases e
  | dct h1 h2 r => cases e
  | dtt h1 h2 r => cases e
  | dlk h1 r => cases e
  | ins hc h1 h2 h3 r => cases e
end
section
variable {G : Gd} {F H : Hp} {cs : List Cl} {vs : List V} {L : List (Cl × V)}
theorem crs2 {c1 c2 : Cl} (h : CRs G F H [c1, c2] vs) : ∃ v1 v2 A1 A2, vs = [v1, v2] ∧ G.CR F H c1 v1 A1 ∧ G.CR F H c2 v2 A2 := by
  cases h with
  | cons h1 r =>
    cases r with
    | cons h2 r =>
      cases r
      obtain ⟨A1, h1⟩ := h1
      obtain ⟨A2, h2⟩ := h2
      exact ⟨_, _, A1, A2, rfl, h1, h2⟩
theorem crs1 {c1 : Cl} (h : CRs G F H [c1] vs) : ∃ v1 A1, vs = [v1] ∧ G.CR F H c1 v1 A1 := by
  cases h with
  | cons h1 r =>
    cases r
    obtain ⟨A1, h1⟩ := h1
    exact ⟨_, A1, rfl, h1⟩
theorem cr_int {i : Int} {v : V} {A : List Addr} (h : G.CR F H (.fz (.int i)) v A) : v = .int i := by
  cases h with
  | fz r => cases r; rfl
theorem cr_str {i : Str} {v : V} {A : List Addr} (h : G.CR F H (.fz (.str i)) v A) : v = .str i := by
  cases h with
  | fz r => cases r; rfl
theorem cr_bool {i : Bool} {v : V} {A : List Addr} (h : G.CR F H (.fz (.bool i)) v A) : v = .bl i := by
  cases h with
  | fz r => cases r; rfl
theorem HR.tupN {p : Addr} {ws : List V} {ds : List D} (hr : G.HR F H L) (hp : H p = none) (r : RpA G.K F ws ds) : ∃ F', Same F F' ∧ G.HR F' (upd H p (.tup ws)) ((.fz (.tuple ds), .ref p) :: L) := by
  obtain ⟨s, q⟩ := hr.newF (o := .tup ws) hp
  exact ⟨_, s, q.push (.tup (.inl (.inl upd_same)) (r.mono s))⟩
theorem HR.lstN {p : Addr} {ws : List V} {ds : List D} (hr : G.HR F H L) (hp : H p = none) (r : RpA G.K F ws ds) : G.HR F (upd H p (.lst ws)) ((.lst ds, .ref p) :: L) :=
  hr.newO hp (.lst upd_same (hr.sub.free hp) r)
end

/-! ### + -/
def lsz (n : Nat) : Bool := decide (n ≤ 10000000)
theorem lsz_ok {n : Nat} (h : lsz n = true) : n ≤ sizeLine := by
  have := of_decide_eq_true h
  rw [sizeLine_eq]; omega
section
variable {X : Cx}
theorem op_catT0 : OpR X (binaryOp .Add) (fun x y H Q => ∃ a b ys, x = .ref a ∧ y = .ref b ∧ SqT X.K H a [] ∧ SqT X.K H b ys ∧ Q (.ref b) H) := by
  intro pins s σ H x y v u Q I rx ry h
  obtain ⟨a, b, ys, rfl, rfl, ha, hb, q⟩ := h
  cases rx
  cases ry
  obtain ⟨its, r1, p1, _⟩ := I.tuple ha
  obtain ⟨its2, r2, p2, _⟩ := I.tuple hb
  cases r1
  obtain ⟨⟨cls, dd, data, sl⟩, ho, hc, n, hd⟩ := id p1
  obtain ⟨⟨cls2, dd2, data2, sl2⟩, ho2, hc2, n2, hd2⟩ := id p2
  simp only at hc hd hc2 hd2
  subst hc hd hc2 hd2
  exact concat_meets ⟨_, ho, rfl⟩ ⟨_, ho2, rfl⟩ noFill_tuple_add seq_tuple_add PySem.F.slot_tuple_add PySem.F.entry_tuple_add (PySem.F.args_tuple_add_2 _ _)
    (PyProof.Rows.tuple_addW0 a b [].toArray its2.toArray n n2 dd dd2 sl sl2 rfl) ⟨ho, ho2, ⟨.ref b, H, I, rfl, q⟩⟩
end
def rAddA (K : PySem.W.Frag) : R2 := fun x y H Q => (rI0 (fun i j => .int (i + j)) x y H Q) ∨ ((fun x y H Q => ∃ i j, x = .str i ∧ y = .str j ∧ i.length + j.length ≤ sizeLine ∧ Q (.str (i ++ j)) H) : R2) x y H Q ∨ rCat x y H Q ∨ rCatT K x y H Q ∨
  ((fun x y H Q => ∃ a b ys, x = .ref a ∧ y = .ref b ∧ SqT K H a [] ∧ SqT K H b ys ∧ Q (.ref b) H) : R2) x y H Q
theorem op_addA {X : Cx} : OpR X (binaryOp .Add) (rAddA X.K) := op_add.or (op_add_str.or (op_cat.or (op_catT.or op_catT0)))
def gAdd : List Cl → Option Cl
  | [.fz (.int i), .fz (.int j)] => some (.fz (.int (i + j)))
  | [.fz (.str i), .fz (.str j)] => if lsz (i.length + j.length) = true then some (.fz (.str (i ++ j))) else none
  | [.lst xs, .lst ys] => if lsz (xs.length + ys.length) = true then some (.lst (xs ++ ys)) else none
  | [.fz (.tuple xs), .fz (.tuple ys)] => if lsz (xs.length + ys.length) = true then some (.fz (.tuple (xs ++ ys))) else none
  | _ => none
theorem prm_add {G : Gd} : Prm G (l2 (rAddA G.K)) gAdd := fun F H L cs vs c Q hr hc e hQ => by
  unfold gAdd at e
  split at e
  · obtain ⟨v1, v2, A1, A2, rfl, h1, h2⟩ := crs2 hc
    cases cr_int h1; cases cr_int h2; cases e
    exact .inl ⟨_, _, rfl, rfl, hQ F H _ (Same.refl _) (hr.push (.int _))⟩
  · obtain ⟨v1, v2, A1, A2, rfl, h1, h2⟩ := crs2 hc
    cases cr_str h1; cases cr_str h2
    split at e
    · rename_i hz
      cases e
      exact .inr (.inl ⟨_, _, rfl, rfl, lsz_ok hz, hQ F H _ (Same.refl _) (hr.push (.str _))⟩)
    · cases e
  · obtain ⟨v1, v2, A1, A2, rfl, h1, h2⟩ := crs2 hc
    split at e
    · rename_i hz
      cases e
      cases h1 with
      | lst a1 a2 a3 =>
        cases h2 with
        | lst b1 b2 b3 =>
          exact .inr (.inr (.inl ⟨_, _, _, _, rfl, rfl, a1, b1, by rw [a3.length, b3.length]; exact lsz_ok hz, fun p hp => hQ F _ _ (Same.refl _) (HR.lstN hr hp (a3.append b3))⟩))
    · cases e
  · rename_i xs ys
    obtain ⟨v1, v2, A1, A2, rfl, h1, h2⟩ := crs2 hc
    split at e
    · rename_i hz
      cases e
      obtain ⟨a, ws, rfl, q1, r1⟩ := h1.seqT hr.sub rfl
      obtain ⟨b, us, rfl, q2, r2⟩ := h2.seqT hr.sub rfl
      have r2' := h2.rpF rfl
      have r1' := h1.rpF rfl
      cases xs with
      | nil =>
        cases r1
        exact .inr (.inr (.inr (.inr ⟨_, _, _, rfl, rfl, sameT hr.sub q1, sameT hr.sub q2, hQ F H _ (Same.refl _) (hr.push r2')⟩)))
      | cons x xs =>
        refine .inr (.inr (.inr (.inl ⟨_, _, _, _, rfl, rfl, sameT hr.sub q1, sameT hr.sub q2, ?_, by rw [r1.length, r2.length]; exact lsz_ok hz, fun ez => ?_, fun _ p hp => ?_⟩)))
        · cases r1; exact fun z => nomatch z
        · subst ez
          cases r2
          rw [List.append_nil] at hQ
          exact hQ F H _ (Same.refl _) (hr.push r1')
        · obtain ⟨F', s, q⟩ := HR.tupN hr hp (r1.append r2)
          exact hQ F' _ _ s q
    · cases e
  · cases e
/-! ### - * // % -/
def gSub : List Cl → Option Cl
  | [.fz (.int i), .fz (.int j)] => some (.fz (.int (i - j)))
  | _ => none
theorem prm_sub {G : Gd} : Prm G (l2 (rI0 fun i j => .int (i - j))) gSub := fun F H L cs vs c Q hr hc e hQ => by
  unfold gSub at e
  split at e
  · obtain ⟨v1, v2, A1, A2, rfl, h1, h2⟩ := crs2 hc
    cases cr_int h1; cases cr_int h2; cases e
    exact ⟨_, _, rfl, rfl, hQ F H _ (Same.refl _) (hr.push (.int _))⟩
  · cases e
def mulBad (i j : Int) : Bool := decide (Builtin.Int.intBits i > shortFactorBits) && decide (Builtin.Int.intBits j > shortFactorBits) && Builtin.Int.intTooBig (Builtin.Int.intBits i + Builtin.Int.intBits j)
def CMulB (i j : Int) : Prop := mulBad i j = false
theorem op_mulB {X : Cx} : OpR X (binaryOp .Mult) (rI CMulB fun i j => .int (i * j)) := opI fun i j _ _ _ _ _ hc q => PyProof.Rows.mul_int q (by
  unfold IntMulOk
  have h : mulBad i j = false := hc
  unfold mulBad at h
  rw [h]
  exact Bool.false_ne_true)
/-- a tuple times an int that is no index too far: itself where it is empty or the int is 1, the empty tuple where the int is not positive -/
theorem tuple_mulB (l : Addr) (items : Array Value) (n : Nat) (dd : Option Addr) (sl : Array (Option Value)) (x : Int) (u : Tok) (far : (decide (x < -(2 ^ 63)) || decide (x ≥ 2 ^ 63)) = false) (neg : (items.isEmpty || x == 1) = false → x ≤ 0) :
    Meets (Builtin.«tuple.__mul__» ⟨[.ref l, .int x u], []⟩) (fun _ R s => s.heap.get? l = some { cls := .type "tuple", dict := dd, data := .seq items n, slots := sl } ∧
      if (items.isEmpty || x == 1) = true then R (.ok (.ret (.ref l))) s else R (.ok (.ret (.ref s.heap.objs.size))) { s with heap := s.heap.push { cls := .type "tuple", data := .seq #[] } }) :=
  .of_wp fun prog w A R s got => by
    have at_ := got.1
    have post := got.2
    have idx := AutoSeq1.idx_int
    have no : ∀ {b : Bool}, b = false → decide (b = true) = false := fun e => by rw [e]; rfl
    wp_walk using AutoSeq1.wpAny_loadPart' at_
    refine wpAny_ite_false (no far) ?_
    wp_walk using AutoSeq1.wpAny_loadPart' at_
    cases same : (items.isEmpty || x == 1) with
    | true =>
      rw [if_pos same] at post
      refine wpAny_ite_true (decide_eq_true rfl) ?_
      wp_walk using AutoSeq1.wpAny_loadPart' at_
      exact ⟨_, rfl, post⟩
    | false =>
      have low := neg same
      rw [if_neg (by rw [same]; exact Bool.false_ne_true)] at post
      refine wpAny_ite_false rfl ?_
      wp_walk using AutoSeq1.wpAny_loadPart' at_
      exact ⟨_, rfl, post⟩
theorem tuple_mulS (l : Addr) (items : Array Value) (n : Nat) (dd : Option Addr) (sl : Array (Option Value)) (x : Int) (u : Tok) (c0 : (decide (x < -(2 ^ 63)) || decide (x ≥ 2 ^ 63)) = false) (c1 : (items.isEmpty || x == 1) = true) :
    Meets (Builtin.«tuple.__mul__» ⟨[.ref l, .int x u], []⟩) (fun _ R s => s.heap.get? l = some { cls := .type "tuple", dict := dd, data := .seq items n, slots := sl } ∧ R (.ok (.ret (Value.ref l))) s) :=
  (tuple_mulB l items n dd sl x u c0 (by rw [c1]; exact nofun)).of_imp fun _ _ _ q => ⟨q.1, by rw [if_pos c1]; exact q.2⟩
theorem tuple_mul0 (l : Addr) (items : Array Value) (n : Nat) (dd : Option Addr) (sl : Array (Option Value)) (x : Int) (u : Tok) (c0 : (decide (x < -(2 ^ 63)) || decide (x ≥ 2 ^ 63)) = false) (c1 : (items.isEmpty || x == 1) = false) (c2 : x ≤ 0) :
    Meets (Builtin.«tuple.__mul__» ⟨[.ref l, .int x u], []⟩) (fun _ R s => s.heap.get? l = some { cls := .type "tuple", dict := dd, data := .seq items n, slots := sl } ∧
      R (.ok (.ret (Value.ref s.heap.objs.size))) { s with heap := s.heap.push { cls := Value.type "tuple", data := Data.seq #[] }, toks := s.toks }) :=
  (tuple_mulB l items n dd sl x u c0 fun _ => c2).of_imp fun _ _ _ q => ⟨q.1, by rw [if_neg (by rw [c1]; exact Bool.false_ne_true)]; exact q.2⟩

section
variable {X : Cx}
theorem c0_of {k : Int} (h1 : -(2 ^ 63) ≤ k) (h2 : k < 2 ^ 63) : (decide (k < -(2 ^ 63)) || decide (k ≥ 2 ^ 63)) = false := by
  rw [decide_eq_false (by omega), decide_eq_false (by omega)] <;> rfl
theorem op_repTS : OpR X (binaryOp .Mult) (fun x y H Q => ∃ l k xs, x = .ref l ∧ y = .int k ∧ SqT X.K H l xs ∧ (xs.isEmpty || k == 1) = true ∧ -(2 ^ 63) ≤ k ∧ k < 2 ^ 63 ∧ Q (.ref l) H) := by
  intro pins s σ H x y v u Q I rx ry h
  obtain ⟨l, k, xs, rfl, rfl, hT, hne, h1, h2, q⟩ := h
  cases rx
  obtain ⟨t, rfl⟩ := ry
  obtain ⟨its, r, ⟨⟨cls, dd, data, sl⟩, ho, hc, n, hd⟩, hs⟩ := I.tuple hT
  simp only at hc hd
  subst hc hd
  have e1 : (its.toArray.isEmpty || k == 1) = true := by
    have : its.toArray.isEmpty = xs.isEmpty := by cases r <;> simp
    rw [this]; exact hne
  exact wpAny_binaryOp_repeat_ref (T := "tuple") (U := "int") (by decide) ⟨_, ho, rfl⟩ (fun s' => typeIs_int s' k t) noFill_tuple_mul PySem.F.fills_int_mul PySem.F.slot_int_rmul repeat_tuple PySem.F.slot_int_index.lookup
    (call_meets PySem.F.slot_int_rmul (typeIs_int s k t) PySem.F.entry_int_rmul (PySem.F.args_int_rmul_2 _ _) (int_rmul_tuple k t l its.toArray n dd sl)
      ⟨ho, rfl, ⟨_, ho, rfl⟩, call_meets PySem.F.slot_tuple_mul ⟨_, ho, rfl⟩ PySem.F.entry_tuple_mul (PySem.F.args_tuple_mul_2 _ _) (tuple_mulS l its.toArray n dd sl k t (c0_of h1 h2) e1) ⟨ho, ⟨.ref l, H, I, rfl, q⟩⟩⟩)
theorem op_repT0 : OpR X (binaryOp .Mult) (fun x y H Q => ∃ l k xs, x = .ref l ∧ y = .int k ∧ SqT X.K H l xs ∧ xs ≠ [] ∧ -(2 ^ 63) ≤ k ∧ k ≤ 0 ∧ ∀ p, H p = none → Q (.ref p) (upd H p (.tup []))) := by
  intro pins s σ H x y v u Q I rx ry h
  obtain ⟨l, k, xs, rfl, rfl, hT, hne, h1, h2, q⟩ := h
  cases rx
  obtain ⟨t, rfl⟩ := ry
  obtain ⟨its, r, ⟨⟨cls, dd, data, sl⟩, ho, hc, n, hd⟩, hs⟩ := I.tuple hT
  simp only at hc hd
  subst hc hd
  have e0 : its.toArray.isEmpty = false := by
    cases r with
    | nil => exact absurd rfl hne
    | cons _ _ => rfl
  have e1 : (its.toArray.isEmpty || k == 1) = false := by
    rw [e0, Bool.false_or]
    exact beq_eq_false_iff_ne.mpr (by omega)
  refine wpAny_binaryOp_repeat_ref (T := "tuple") (U := "int") (by decide) ⟨_, ho, rfl⟩ (fun s' => typeIs_int s' k t) noFill_tuple_mul PySem.F.fills_int_mul PySem.F.slot_int_rmul repeat_tuple PySem.F.slot_int_index.lookup
    (call_meets PySem.F.slot_int_rmul (typeIs_int s k t) PySem.F.entry_int_rmul (PySem.F.args_int_rmul_2 _ _) (int_rmul_tuple k t l its.toArray n dd sl)
      ⟨ho, rfl, ⟨_, ho, rfl⟩, call_meets PySem.F.slot_tuple_mul ⟨_, ho, rfl⟩ PySem.F.entry_tuple_mul (PySem.F.args_tuple_mul_2 _ _) (tuple_mul0 l its.toArray n dd sl k t (c0_of h1 (by omega)) e1 h2) ⟨ho, ?_⟩⟩)
  exact ⟨.ref s.heap.objs.size, _, I.laid (t' := s.toks) (o := .tup []) (fun b ob q => Heap.get?_push_of_some _ q) (Nat.le_refl _) ⟨Nat.zero_le _, [], .nil, PyProof.Rows.IsTup.new s.heap _⟩, rfl, q _ (I.hok.fresh (Nat.le_refl _))⟩
end
def rMulA (K : PySem.W.Frag) : R2 := fun x y H Q => (rI CMulB (fun i j => .int (i * j)) x y H Q) ∨ rRep x y H Q ∨ rRepT K x y H Q ∨
  ((fun x y H Q => ∃ l k xs, x = .ref l ∧ y = .int k ∧ SqT K H l xs ∧ (xs.isEmpty || k == 1) = true ∧ -(2 ^ 63) ≤ k ∧ k < 2 ^ 63 ∧ Q (.ref l) H) : R2) x y H Q ∨
  ((fun x y H Q => ∃ l k xs, x = .ref l ∧ y = .int k ∧ SqT K H l xs ∧ xs ≠ [] ∧ -(2 ^ 63) ≤ k ∧ k ≤ 0 ∧ ∀ p, H p = none → Q (.ref p) (upd H p (.tup []))) : R2) x y H Q
theorem op_mulA {X : Cx} : OpR X (binaryOp .Mult) (rMulA X.K) := op_mulB.or (op_rep.or (op_repT.or (op_repTS.or op_repT0)))
def gMul : List Cl → Option Cl
  | [.fz (.int i), .fz (.int j)] => if mulBad i j = true then none else some (.fz (.int (i * j)))
  | [.lst xs, .fz (.int k)] => if (Nat.ble k.natAbs 10000000 && lsz (xs.length * k.toNat)) = true then some (.lst (List.replicate k.toNat xs).flatten) else none
  | [.fz (.tuple xs), .fz (.int k)] => if (Nat.ble k.natAbs 1000 && Nat.ble xs.length 1000) = true then some (.fz (.tuple (List.replicate k.toNat xs).flatten)) else none
  | _ => none
theorem prm_mul {G : Gd} : Prm G (l2 (rMulA G.K)) gMul := fun F H L cs vs c Q hr hc e hQ => by
  unfold gMul at e
  split at e
  · obtain ⟨v1, v2, A1, A2, rfl, h1, h2⟩ := crs2 hc
    cases cr_int h1; cases cr_int h2
    split at e
    · cases e
    · rename_i hz
      cases e
      exact .inl ⟨_, _, rfl, rfl, by unfold CMulB; simpa using hz, hQ F H _ (Same.refl _) (hr.push (.int _))⟩
  · rename_i xs k
    obtain ⟨v1, v2, A1, A2, rfl, h1, h2⟩ := crs2 hc
    cases cr_int h2
    split at e
    · rename_i hz
      cases e
      rw [Bool.and_eq_true] at hz
      have hk : k.natAbs ≤ 10000000 := Nat.le_of_ble_eq_true hz.1
      cases h1 with
      | lst a1 a2 a3 =>
        exact .inr (.inl ⟨_, _, _, rfl, rfl, a1, by omega, by omega, by rw [a3.length]; exact lsz_ok hz.2, fun p hp => hQ F _ _ (Same.refl _) (HR.lstN hr hp (a3.rep _))⟩)
    · cases e
  · rename_i xs k
    obtain ⟨v1, v2, A1, A2, rfl, h1, h2⟩ := crs2 hc
    cases cr_int h2
    split at e
    · rename_i hz
      cases e
      rw [Bool.and_eq_true] at hz
      have hk : k.natAbs ≤ 1000 := Nat.le_of_ble_eq_true hz.1
      have k1 : -1000 ≤ k := by omega
      have k2 : k ≤ 1000 := by omega
      have k3 : xs.length ≤ 1000 := Nat.le_of_ble_eq_true hz.2
      obtain ⟨a, ws, rfl, q1, r1⟩ := h1.seqT hr.sub rfl
      have rp := h1.rpF rfl
      have lw := r1.length
      by_cases hb : (ws.isEmpty || k == 1) = true
      · refine .inr (.inr (.inr (.inl ⟨_, _, _, rfl, rfl, sameT hr.sub q1, hb, by omega, by omega, ?_⟩)))
        have ex : (List.replicate k.toNat xs).flatten = xs := by
          rcases Bool.or_eq_true_iff.mp hb with z | z
          · cases r1 with
            | nil => simp
            | cons _ _ => cases z
          · have z' : k = 1 := by simpa using z
            subst z'
            simp
        rw [ex] at hQ
        exact hQ F H _ (Same.refl _) (hr.push rp)
      · have hb' : ws ≠ [] ∧ k ≠ 1 := by
          constructor
          · intro z; rw [z] at hb; exact hb rfl
          · intro z; rw [z] at hb; exact hb (by simp)
        by_cases hk : k ≤ 0
        · refine .inr (.inr (.inr (.inr ⟨_, _, _, rfl, rfl, sameT hr.sub q1, hb'.1, by omega, hk, fun p hp => ?_⟩)))
          have ek : k.toNat = 0 := by omega
          rw [ek] at hQ
          obtain ⟨F', s, q⟩ := HR.tupN hr hp (.nil)
          exact hQ F' _ _ s q
        · refine .inr (.inr (.inl ⟨_, _, _, rfl, rfl, sameT hr.sub q1, hb'.1, by omega, k2, by omega, fun p hp => ?_⟩))
          obtain ⟨F', s, q⟩ := HR.tupN hr hp (r1.rep k.toNat)
          exact hQ F' _ _ s q
    · cases e
  · cases e
def CDivB (i j : Int) : Prop := j ≠ 0 ∧ Builtin.divisionGoesByPylong i j = false
theorem op_fdivB {X : Cx} : OpR X (binaryOp .FloorDiv) (rI CDivB fun i j => .int (i.fdiv j)) := opI fun i j _ _ _ _ _ hc q => PyProof.Rows.floordiv_int hc.1 q (.inl hc.2)
def gFdiv : List Cl → Option Cl
  | [.fz (.int i), .fz (.int j)] => if (decide (j ≠ 0) && !Builtin.divisionGoesByPylong i j) = true then some (.fz (.int (i.fdiv j))) else none
  | _ => none
theorem prm_fdiv {G : Gd} : Prm G (l2 (rI CDivB fun i j => .int (i.fdiv j))) gFdiv := fun F H L cs vs c Q hr hc e hQ => by
  unfold gFdiv at e
  split at e
  · obtain ⟨v1, v2, A1, A2, rfl, h1, h2⟩ := crs2 hc
    cases cr_int h1; cases cr_int h2
    split at e
    · rename_i hz
      cases e
      rw [Bool.and_eq_true] at hz
      exact ⟨_, _, rfl, rfl, ⟨of_decide_eq_true hz.1, by simpa using hz.2⟩, hQ F H _ (Same.refl _) (hr.push (.int _))⟩
    · cases e
  · cases e
def gMod : List Cl → Option Cl
  | [.fz (.int i), .fz (.int j)] => if j = 0 then none else some (.fz (.int (i.fmod j)))
  | _ => none
theorem prm_mod {G : Gd} : Prm G (l2 (rI (fun _ j => j ≠ 0) fun i j => .int (i.fmod j))) gMod := fun F H L cs vs c Q hr hc e hQ => by
  unfold gMod at e
  split at e
  · obtain ⟨v1, v2, A1, A2, rfl, h1, h2⟩ := crs2 hc
    cases cr_int h1; cases cr_int h2
    split at e
    · cases e
    · rename_i hz
      cases e
      exact ⟨_, _, rfl, rfl, hz, hQ F H _ (Same.refl _) (hr.push (.int _))⟩
  · cases e
def gPow : List Cl → Option Cl
  | [.fz (.int i), .fz (.int j)] => if (decide (0 ≤ j) && decide (j ≤ 1000000) && decide (i.natAbs < 2 ^ 64)) = true then some (.fz (.int (i ^ j.toNat))) else none
  | _ => none
theorem prm_pow {G : Gd} : Prm G (l2 (rI CPow fun i j => .int (i ^ j.toNat))) gPow := fun F H L cs vs c Q hr hc e hQ => by
  unfold gPow at e
  split at e
  · obtain ⟨v1, v2, A1, A2, rfl, h1, h2⟩ := crs2 hc
    cases cr_int h1; cases cr_int h2
    split at e
    · rename_i hz
      cases e
      rw [Bool.and_eq_true, Bool.and_eq_true] at hz
      exact ⟨_, _, rfl, rfl, ⟨of_decide_eq_true hz.1.1, of_decide_eq_true hz.1.2, of_decide_eq_true hz.2⟩, hQ F H _ (Same.refl _) (hr.push (.int _))⟩
    · cases e
  · cases e
def gNeg : List Cl → Option Cl
  | [.fz (.int i)] => some (.fz (.int (-i)))
  | _ => none
theorem prm_neg {G : Gd} : Prm G (l1 (rU fun i => .int (-i))) gNeg := fun F H L cs vs c Q hr hc e hQ => by
  unfold gNeg at e
  split at e
  · obtain ⟨v1, A1, rfl, h1⟩ := crs1 hc
    cases cr_int h1
    cases e
    exact ⟨_, rfl, hQ F H _ (Same.refl _) (hr.push (.int _))⟩
  · cases e
/-! ### comparisons -/
def gI (p : Int → Int → Bool) : List Cl → Option Cl
  | [.fz (.int i), .fz (.int j)] => some (.fz (.bool (p i j)))
  | _ => none
theorem prm_i {G : Gd} {p : Int → Int → Bool} : Prm G (l2 (rI0 fun i j => .bl (p i j))) (gI p) := fun F H L cs vs c Q hr hc e hQ => by
  unfold gI at e
  split at e
  · obtain ⟨v1, v2, A1, A2, rfl, h1, h2⟩ := crs2 hc
    cases cr_int h1; cases cr_int h2
    cases e
    exact ⟨_, _, rfl, rfl, hQ F H _ (Same.refl _) (hr.push (.bl _))⟩
  · cases e
abbrev gLt := gI fun i j => decide (i < j)
abbrev gLe := gI fun i j => decide (i ≤ j)
abbrev gGt := gI fun i j => decide (j < i)
abbrev gGe := gI fun i j => decide (j ≤ i)
def gEq : List Cl → Option Cl
  | [a, b] => match a.data, b.data with
    | some d, some e => if (SeqAt.shaped d && SeqAt.shaped e) = true then some (.fz (.bool (PyData.eqv d e))) else none
    | _, _ => none
  | _ => none
def gNe : List Cl → Option Cl
  | [a, b] => match a.data, b.data with
    | some d, some e => if (SeqAt.shaped d && SeqAt.shaped e) = true then some (.fz (.bool (!PyData.eqv d e))) else none
    | _, _ => none
  | _ => none
theorem prm_eq {G : Gd} : Prm G (l2 (rEqD G.K)) gEq := fun F H L cs vs c Q hr hc e hQ => by
  unfold gEq at e
  split at e
  · split at e
    · rename_i d d' q1 q2
      split at e
      · rename_i hz
        rw [Bool.and_eq_true] at hz
        obtain ⟨v1, v2, A1, A2, rfl, h1, h2⟩ := crs2 hc
        cases e
        exact ⟨d, d', (h1.rp hr.sub q1).dp (SeqAt.canLay_of_shaped hz.1), (h2.rp hr.sub q2).dp (SeqAt.canLay_of_shaped hz.2), hz.1, hz.2, hQ F H _ (Same.refl _) (hr.push (.bl _))⟩
      · cases e
    · cases e
  · cases e
theorem prm_ne {G : Gd} : Prm G (l2 (rNeD G.K)) gNe := fun F H L cs vs c Q hr hc e hQ => by
  unfold gNe at e
  split at e
  · split at e
    · rename_i d d' q1 q2
      split at e
      · rename_i hz
        rw [Bool.and_eq_true] at hz
        obtain ⟨v1, v2, A1, A2, rfl, h1, h2⟩ := crs2 hc
        cases e
        exact ⟨d, d', (h1.rp hr.sub q1).dp (SeqAt.canLay_of_shaped hz.1), (h2.rp hr.sub q2).dp (SeqAt.canLay_of_shaped hz.2), hz.1, hz.2, hQ F H _ (Same.refl _) (hr.push (.bl _))⟩
      · cases e
    · cases e
  · cases e
/-! ### is None -/
def isNoD : D → Bool
  | .none => true
  | _ => false
def gIsN : List Cl → Option Cl
  | [.fz d, .fz .none] => some (.fz (.bool (isNoD d)))
  | _ => none
def gNotN : List Cl → Option Cl
  | [.fz d, .fz .none] => some (.fz (.bool (!(isNoD d))))
  | _ => none
theorem rp_non {K : PySem.W.Frag} {F : Hp} {v : V} {d : D} (h : Rp K F v d) : decide (v = .non) = (isNoD d) := by
  cases h <;> rfl
theorem cr_non {G : Gd} {F H : Hp} {v : V} {A : List Addr} (h : G.CR F H (.fz .none) v A) : v = .non := by
  cases h with
  | fz r => cases r; rfl
theorem prm_isN {G : Gd} : Prm G (l2 fun x y H Q => y = .non ∧ Q (.bl (decide (x = .non))) H) gIsN := fun F H L cs vs c Q hr hc e hQ => by
  unfold gIsN at e
  split at e
  · obtain ⟨v1, v2, A1, A2, rfl, h1, h2⟩ := crs2 hc
    cases cr_non h2
    cases e
    refine ⟨rfl, ?_⟩
    rw [rp_non (h1.rpF rfl)]
    exact hQ F H _ (Same.refl _) (hr.push (.bl _))
  · cases e
theorem prm_notN {G : Gd} : Prm G (l2 fun x y H Q => y = .non ∧ Q (.bl (!decide (x = .non))) H) gNotN := fun F H L cs vs c Q hr hc e hQ => by
  unfold gNotN at e
  split at e
  · obtain ⟨v1, v2, A1, A2, rfl, h1, h2⟩ := crs2 hc
    cases cr_non h2
    cases e
    refine ⟨rfl, ?_⟩
    rw [rp_non (h1.rpF rfl)]
    exact hQ F H _ (Same.refl _) (hr.push (.bl _))
  · cases e
/-! ### subscripts -/
def gIx : List Cl → Option Cl
  | [c, .fz (.int i)] => match c.data with
    | some (.list ds) => (atI ds i).map .fz
    | some (.tuple ds) => (atI ds i).map .fz
    | some (.str z) => if z.length ≤ 10000000 then (atI z.cps.toList i).map fun c => .fz (.str ⟨#[c]⟩) else none
    | _ => none
  | _ => none
theorem atI_rp {K : PySem.W.Frag} {F : Hp} {vs : List V} {ds : List D} {i : Int} {d : D} (r : RpA K F vs ds) (h : atI ds i = some d) : ∃ v, atI vs i = some v ∧ Rp K F v d := by
  unfold atI at h ⊢
  rw [r.length]
  cases q : ixN ds.length i with
  | none => rw [q] at h; cases h
  | some j =>
    rw [q] at h
    exact r.get h
theorem prm_ix {G : Gd} : Prm G (l2 (rIx G.K)) gIx := fun F H L cs vs c Q hr hc e hQ => by
  unfold gIx at e
  split at e
  · obtain ⟨v1, v2, A1, A2, rfl, h1, h2⟩ := crs2 hc
    cases cr_int h2
    split at e
    · rename_i ds q
      obtain ⟨a, ws, rfl, q1, r1⟩ := h1.seqL hr.sub q
      rename_i i _
      cases q3 : atI ds i with
      | none => rw [q3] at e; cases e
      | some d =>
        rw [q3] at e
        cases e
        obtain ⟨v, q4, r4⟩ := atI_rp r1 q3
        exact .inl ⟨_, _, _, _, rfl, rfl, q1, q4, hQ F H _ (Same.refl _) (hr.push r4)⟩
    · rename_i ds q
      obtain ⟨a, ws, rfl, q1, r1⟩ := h1.seqT hr.sub q
      rename_i i _
      cases q3 : atI ds i with
      | none => rw [q3] at e; cases e
      | some d =>
        rw [q3] at e
        cases e
        obtain ⟨v, q4, r4⟩ := atI_rp r1 q3
        exact .inr (.inl ⟨_, _, _, _, rfl, rfl, sameT hr.sub q1, q4, hQ F H _ (Same.refl _) (hr.push r4)⟩)
    · rename_i z q
      have r := h1.rp hr.sub q
      cases r
      split at e
      · rename_i i hz
        have hz' : z.length ≤ 10000000 := by first | exact hz | exact i
        rename_i i2
        cases q3 : atI z.cps.toList i2 with
        | none => simp [q3] at e
        | some d =>
          simp only [q3, Option.map_some, Option.some.injEq] at e
          subst e
          exact .inr (.inr ⟨_, _, _, rfl, rfl, by rw [sizeLine_eq]; omega, q3, hQ F H _ (Same.refl _) (hr.push (.str _))⟩)
      · cases e
    · cases e
  · cases e
/-! ### built-in functions -/
def gLen : List Cl → Option Cl
  | [c] => match c.data with
    | some (.list ds) => some (.fz (.int ds.length))
    | some (.tuple ds) => some (.fz (.int ds.length))
    | some (.str z) => if z.length ≤ 10000000 then some (.fz (.int z.length)) else none
    | _ => none
  | _ => none
def rLenA (K : PySem.W.Frag) : List V → Hp → VK → Prop := fun xs H Q => (∃ p ys, xs = [.ref p] ∧ (SqL K H p ys ∨ SqT K H p ys) ∧ Q (.int ys.length) H) ∨ (∃ z, xs = [.str z] ∧ z.length ≤ sizeLine ∧ Q (.int z.length) H)
theorem call_lenA {X : Cx} : CallR X (.builtin "len") (rLenA X.K) := call_len_seq.or call_len_str
theorem prm_len {G : Gd} : Prm G (rLenA G.K) gLen := fun F H L cs vs c Q hr hc e hQ => by
  unfold gLen at e
  split at e
  · obtain ⟨v1, A1, rfl, h1⟩ := crs1 hc
    split at e
    · rename_i ds q
      cases e
      obtain ⟨a, ws, rfl, q1, r1⟩ := h1.seqL hr.sub q
      exact .inl ⟨_, _, rfl, .inl q1, by rw [r1.length]; exact hQ F H _ (Same.refl _) (hr.push (.int _))⟩
    · rename_i ds q
      cases e
      obtain ⟨a, ws, rfl, q1, r1⟩ := h1.seqT hr.sub q
      exact .inl ⟨_, _, rfl, .inr (sameT hr.sub q1), by rw [r1.length]; exact hQ F H _ (Same.refl _) (hr.push (.int _))⟩
    · rename_i z q
      have r := h1.rp hr.sub q
      cases r
      split at e
      · rename_i hz
        cases e
        exact .inr ⟨_, rfl, by rw [sizeLine_eq]; omega, hQ F H _ (Same.refl _) (hr.push (.int _))⟩
      · cases e
    · cases e
  · cases e
def gTuple : List Cl → Option Cl
  | [c] => match c.data with
    | some (.list ds) => some (.fz (.tuple ds))
    | some (.tuple ds) => some (.fz (.tuple ds))
    | _ => none
  | _ => none
def rTupA (K : PySem.W.Frag) : List V → Hp → VK → Prop := fun xs H Q => ∃ p ys, xs = [.ref p] ∧ ((SqL K H p ys ∧ ∀ l, H l = none → Q (.ref l) (upd H l (.tup ys))) ∨ (SqT K H p ys ∧ Q (.ref p) H))
theorem prm_tuple {G : Gd} : Prm G (rTupA G.K) gTuple := fun F H L cs vs c Q hr hc e hQ => by
  unfold gTuple at e
  split at e
  · obtain ⟨v1, A1, rfl, h1⟩ := crs1 hc
    split at e
    · rename_i ds q
      cases e
      obtain ⟨a, ws, rfl, q1, r1⟩ := h1.seqL hr.sub q
      refine ⟨_, _, rfl, .inl ⟨q1, fun p hp => ?_⟩⟩
      obtain ⟨F', s, q⟩ := HR.tupN hr hp r1
      exact hQ F' _ _ s q
    · rename_i ds q
      cases e
      obtain ⟨a, ws, rfl, q1, r1⟩ := h1.seqT hr.sub q
      exact ⟨_, _, rfl, .inr ⟨sameT hr.sub q1, hQ F H _ (Same.refl _) (hr.push (.tup q1 r1))⟩⟩
    · cases e
  · cases e
def gList : List Cl → Option Cl
  | [c] => match c.data with
    | some (.list ds) => some (.lst ds)
    | some (.tuple ds) => some (.lst ds)
    | _ => none
  | _ => none
def rListA (K : PySem.W.Frag) : List V → Hp → VK → Prop := fun xs H Q => ∃ p ys, xs = [.ref p] ∧ (SqL K H p ys ∨ SqT K H p ys) ∧ ∀ l, H l = none → Q (.ref l) (upd H l (.lst ys))
theorem prm_list {G : Gd} : Prm G (rListA G.K) gList := fun F H L cs vs c Q hr hc e hQ => by
  unfold gList at e
  split at e
  · obtain ⟨v1, A1, rfl, h1⟩ := crs1 hc
    split at e
    · rename_i ds q
      cases e
      obtain ⟨a, ws, rfl, q1, r1⟩ := h1.seqL hr.sub q
      exact ⟨_, _, rfl, .inl q1, fun p hp => hQ F _ _ (Same.refl _) (HR.lstN hr hp r1)⟩
    · rename_i ds q
      cases e
      obtain ⟨a, ws, rfl, q1, r1⟩ := h1.seqT hr.sub q
      exact ⟨_, _, rfl, .inr (sameT hr.sub q1), fun p hp => hQ F _ _ (Same.refl _) (HR.lstN hr hp r1)⟩
    · cases e
  · cases e
def gAbs : List Cl → Option Cl
  | [.fz (.int i)] => some (.fz (.int (if i < 0 then -i else i)))
  | _ => none
theorem prm_abs {G : Gd} : Prm G (fun xs H Q => ∃ i, xs = [.int i] ∧ Q (.int (if i < 0 then -i else i)) H) gAbs := fun F H L cs vs c Q hr hc e hQ => by
  unfold gAbs at e
  split at e
  · obtain ⟨v1, A1, rfl, h1⟩ := crs1 hc
    cases cr_int h1
    cases e
    exact ⟨_, rfl, hQ F H _ (Same.refl _) (hr.push (.int _))⟩
  · cases e
def gMax2 : List Cl → Option Cl
  | [.fz (.int i), .fz (.int j)] => some (.fz (.int (if j > i then j else i)))
  | _ => none
def gMin2 : List Cl → Option Cl
  | [.fz (.int i), .fz (.int j)] => some (.fz (.int (if j < i then j else i)))
  | _ => none
theorem prm_max2 {G : Gd} : Prm G (fun xs H Q => ∃ i j, xs = [.int i, .int j] ∧ Q (.int (if j > i then j else i)) H) gMax2 := fun F H L cs vs c Q hr hc e hQ => by
  unfold gMax2 at e
  split at e
  · obtain ⟨v1, v2, A1, A2, rfl, h1, h2⟩ := crs2 hc
    cases cr_int h1; cases cr_int h2
    cases e
    exact ⟨_, _, rfl, hQ F H _ (Same.refl _) (hr.push (.int _))⟩
  · cases e
theorem prm_min2 {G : Gd} : Prm G (fun xs H Q => ∃ i j, xs = [.int i, .int j] ∧ Q (.int (if j < i then j else i)) H) gMin2 := fun F H L cs vs c Q hr hc e hQ => by
  unfold gMin2 at e
  split at e
  · obtain ⟨v1, v2, A1, A2, rfl, h1, h2⟩ := crs2 hc
    cases cr_int h1; cases cr_int h2
    cases e
    exact ⟨_, _, rfl, hQ F H _ (Same.refl _) (hr.push (.int _))⟩
  · cases e
def gInt : List Cl → Option Cl
  | [.fz (.int i)] => some (.fz (.int i))
  | [.fz (.bool b)] => some (.fz (.int (if b then 1 else 0)))
  | _ => none
theorem prm_int {G : Gd} : Prm G (fun xs H Q => (∃ i, xs = [.int i] ∧ Q (.int i) H) ∨ ∃ k, xs = [.bl k] ∧ Q (.int (if k then 1 else 0)) H) gInt := fun F H L cs vs c Q hr hc e hQ => by
  unfold gInt at e
  split at e
  · obtain ⟨v1, A1, rfl, h1⟩ := crs1 hc
    cases cr_int h1
    cases e
    exact .inl ⟨_, rfl, hQ F H _ (Same.refl _) (hr.push (.int _))⟩
  · obtain ⟨v1, A1, rfl, h1⟩ := crs1 hc
    cases cr_bool h1
    cases e
    exact .inr ⟨_, rfl, hQ F H _ (Same.refl _) (hr.push (.int _))⟩
  · cases e
/-- the ints of a list -/
def intsD : List D → Option (List Int)
  | [] => some []
  | .int i :: ds => match intsD ds with
    | some ns => some (i :: ns)
    | none => none
  | _ :: _ => none
theorem intsD_ok : ∀ {ds : List D} {ns : List Int}, intsD ds = some ns → ds = ns.map PyData.int
  | [], ns, h => by cases h; rfl
  | .int i :: ds, ns, h => by
    unfold intsD at h
    cases q : intsD ds with
    | none => rw [q] at h; cases h
    | some ms =>
      rw [q] at h
      cases h
      rw [intsD_ok q]
      rfl
  | .none :: _, ns, h => by cases h
  | .bool _ :: _, ns, h => by cases h
  | .str _ :: _, ns, h => by cases h
  | .list _ :: _, ns, h => by cases h
  | .tuple _ :: _, ns, h => by cases h
  | .dict _ :: _, ns, h => by cases h
@[simp] theorem intsD_map : ∀ ns : List Int, intsD (ns.map PyData.int) = some ns
  | [] => rfl
  | n :: ns => by
    show (match intsD (ns.map PyData.int) with | some ms => some (n :: ms) | none => none) = _
    rw [intsD_map ns]
def boolsD : List D → Option (List Bool)
  | [] => some []
  | .bool i :: ds => match boolsD ds with
    | some ns => some (i :: ns)
    | none => none
  | _ :: _ => none
theorem boolsD_ok : ∀ {ds : List D} {ns : List Bool}, boolsD ds = some ns → ds = ns.map PyData.bool
  | [], ns, h => by cases h; rfl
  | .bool i :: ds, ns, h => by
    unfold boolsD at h
    cases q : boolsD ds with
    | none => rw [q] at h; cases h
    | some ms =>
      rw [q] at h
      cases h
      rw [boolsD_ok q]
      rfl
  | .none :: _, ns, h => by cases h
  | .int _ :: _, ns, h => by cases h
  | .str _ :: _, ns, h => by cases h
  | .list _ :: _, ns, h => by cases h
  | .tuple _ :: _, ns, h => by cases h
  | .dict _ :: _, ns, h => by cases h
@[simp] theorem boolsD_map : ∀ ns : List Bool, boolsD (ns.map PyData.bool) = some ns
  | [] => rfl
  | n :: ns => by
    show (match boolsD (ns.map PyData.bool) with | some ms => some (n :: ms) | none => none) = _
    rw [boolsD_map ns]
def gSum : List Cl → Option Cl
  | [c] => match c.data with
    | some (.list ds) => (intsD ds).map fun ns => .fz (.int ns.sum)
    | _ => none
  | _ => none
theorem prm_sum {G : Gd} : Prm G (rSum G.K) gSum := fun F H L cs vs c Q hr hc e hQ => by
  unfold gSum at e
  split at e
  · obtain ⟨v1, A1, rfl, h1⟩ := crs1 hc
    split at e
    · rename_i ds q
      obtain ⟨a, ws, rfl, q1, r1⟩ := h1.seqL hr.sub q
      cases q2 : intsD ds with
      | none => rw [q2] at e; cases e
      | some ns =>
        rw [q2] at e
        cases e
        have ed := intsD_ok q2
        subst ed
        have ew := r1.ints
        subst ew
        exact ⟨_, _, rfl, q1, hQ F H _ (Same.refl _) (hr.push (.int _))⟩
    · cases e
  · cases e
def gAll : List Cl → Option Cl
  | [c] => match c.data with
    | some (.list ds) => (boolsD ds).map fun ns => .fz (.bool (ns.all id))
    | _ => none
  | _ => none
def gAny : List Cl → Option Cl
  | [c] => match c.data with
    | some (.list ds) => (boolsD ds).map fun ns => .fz (.bool (ns.any id))
    | _ => none
  | _ => none
theorem prm_all {G : Gd} : Prm G (fun vs H Q => ∃ (a : Addr) (bs : List Bool), vs = [V.ref a] ∧ SqL G.K H a (bs.map V.bl) ∧ Q (.bl (bs.all id)) H) gAll := fun F H L cs vs c Q hr hc e hQ => by
  unfold gAll at e
  split at e
  · obtain ⟨v1, A1, rfl, h1⟩ := crs1 hc
    split at e
    · rename_i ds q
      obtain ⟨a, ws, rfl, q1, r1⟩ := h1.seqL hr.sub q
      cases q2 : boolsD ds with
      | none => rw [q2] at e; cases e
      | some ns =>
        rw [q2] at e
        cases e
        have ed := boolsD_ok q2
        subst ed
        have ew := r1.bools
        subst ew
        exact ⟨_, _, rfl, q1, hQ F H _ (Same.refl _) (hr.push (.bl _))⟩
    · cases e
  · cases e
theorem prm_any {G : Gd} : Prm G (fun vs H Q => ∃ (a : Addr) (bs : List Bool), vs = [V.ref a] ∧ SqL G.K H a (bs.map V.bl) ∧ Q (.bl (bs.any id)) H) gAny := fun F H L cs vs c Q hr hc e hQ => by
  unfold gAny at e
  split at e
  · obtain ⟨v1, A1, rfl, h1⟩ := crs1 hc
    split at e
    · rename_i ds q
      obtain ⟨a, ws, rfl, q1, r1⟩ := h1.seqL hr.sub q
      cases q2 : boolsD ds with
      | none => rw [q2] at e; cases e
      | some ns =>
        rw [q2] at e
        cases e
        have ed := boolsD_ok q2
        subst ed
        have ew := r1.bools
        subst ew
        exact ⟨_, _, rfl, q1, hQ F H _ (Same.refl _) (hr.push (.bl _))⟩
    · cases e
  · cases e
end L3

namespace L3
open PySem PySem.Spec L2

/-! ### error classes -/
/-- what the written part says of the error class at C -/
structure EcK (K : PySem.W.Frag) (C : Addr) : Prop where
  kp : PySem.W.keepIn K (.ref C) = true
  sub : PySem.W.subIn K (.ref C) (.type "BaseException") = some true
  ty : PySem.W.typeIn K (.ref C) = some (.type "type")
  cl : (PySem.W.clsIn K C).isSome = true
  hd : PySem.W.hasDictIn K C = true
  ga : PySem.W.findIn K (.ref C) "__getattribute__" = some (some (.builtin "BaseException.__getattribute__"))
  gg : PySem.W.findIn K (.ref C) "__getattr__" = some none
  ac : PySem.W.findIn K (.ref C) "__class__" = some (some (.builtin "object.__class__"))
  sp : PySem.W.specialIn K (.builtin "object.__class__") "__get__" = some (some (.builtin "getset_descriptor.__get__"))
  tk : PySem.W.takesIn K (.builtin "object.__class__") = some true
  mr : PySem.W.mroIn K C (.type "object") = some true
/-- one without an __init__ of its own -/
structure EcN (K : PySem.W.Frag) (C : Addr) : Prop extends EcK K C where
  ex : PySem.W.excIn K C [.type "ValueError", .type "Exception", .type "BaseException", .type "object"] "ValueError.__new__" = true
section
variable {X : Cx} {C : Addr}
theorem pmk_own0 {x : Str} {p pos : Pos} (T : EcN X.K C) (gC : X.mg x = some (.ref C)) (hg : Gl X x) (hdb : (x == ("__debug__" : Str)) = false) : PMk X (.Call (.Name x p) [] [] pos) (fun _ H Q => Q (.ref C) none H) := by
  intro pins s σ H Q I h
  refine wpAny_Call_Name_kw (ld_glob I hg gC ?_ hdb)
  refine PySem.W.callWith_K0 I.kIn T.kp ?_
  show wpAny _ _ (call (.ref C) []) _ _ _
  obtain ⟨bm, N, nm, qn, bs, hdct, sn, sub, ab, col, dd, k0, k1, k2, k3, k5, mN, hC, hN, hni, T'⟩ := exc_obj I.kIn T.ex
  refine wpAny_call_exc_subT PySem.F.excBase_ValueError T' hC hN hni (fun h' e hm => ?_) (by show 0 ≤ sizeLine; omega)
  exact mk_of I hm (raises_own T.sub T.ty) h (I.hok.gone hm.new)
end
section
variable {ι : Type} {G : Gd} {X : ι → Cx} {W : WX} {P : List Nat} {e : Expr} {es : List Expr} {pos : Pos}
def sRaise (c : Str) : FS := fun _ ρ => some (.ex ⟨c, []⟩ ρ)
theorem xs_raise0 {x : Str} {p p2 : Pos} {C : Addr} (hK : ∀ i, (X i).K = G.K) (hM : ∀ i, (X i).mg = G.mg) (hc : ∀ i, (X i).calm = true) (tk : ∀ i, Takes (X i) W) (T : EcN G.K C) (gC : G.mg x = some (.ref C)) (hg : ∀ i, Gl (X i) x) (hdb : (x == ("__debug__" : Str)) = false) :
    XS G X W P (.Raise (some (.Call (.Name x p) [] [] p2)) none pos) (sRaise x) :=
  ⟨_, fun i => ps_raise (hc i) (tk i) (pmk_own0 (by rw [hK i]; exact T) (by rw [hM i]; exact gC) (hg i) hdb), fun n ρ o eq F H σ T' D hR hP => by
    cases eq
    exact hP F H σ (.ref C) none (Same.refl _) hR (Kp.refl _) ⟨C, gC, rfl, .inl ⟨rfl, rfl⟩⟩⟩
/-- the promise of an __init__ that stores its arguments -/
def mkFs : List Str → List V → List (Str × V)
  | f :: fs, v :: vs => mkFs fs vs ++ [(f, v)]
  | _, _ => []
def mkFsD : List Str → List D → List (Str × D)
  | f :: fs, v :: vs => mkFsD fs vs ++ [(f, v)]
  | _, _ => []
theorem RpKs.append {K : PySem.W.Frag} {F : Hp} {κ : Type} : ∀ {a b : List (κ × V)} {c d : List (κ × D)}, RpKs K F a c → RpKs K F b d → RpKs K F (a ++ b) (c ++ d)
  | _, _, _, _, .nil, h => h
  | _, _, _, _, .cons h r, h' => .cons h (RpKs.append r h')
theorem mkFs_rp {K : PySem.W.Frag} {F : Hp} : ∀ (fs : List Str) {vs : List V} {ds : List D}, RpA K F vs ds → RpKs K F (mkFs fs vs) (mkFsD fs ds)
  | [], vs, ds, h => by cases h <;> exact .nil
  | f :: fs, _, _, .nil => .nil
  | f :: fs, _, _, .cons h r => RpKs.append (mkFs_rp fs r) (.cons h .nil)
def spInit (K : PySem.W.Frag) (fs : List Str) : Sp := fun vs H Q _ => ∃ (a C : Addr) (ws : List V), vs = .ref a :: ws ∧ ws.length = fs.length ∧ OexC K C ∧ (∀ f ∈ fs, PySem.W.findIn K (.ref C) f = some none) ∧ H a = some (exo a C none) ∧
  ∀ dx, H dx = none → dx ≠ a → Q .non (upd (upd H dx (exd dx (mkFs fs ws))) a (exo a C (some dx)))
/-- the class and its __init__ -/
structure EcI (P : Program) (w : World) (K : PySem.W.Frag) (mg : Str → Option Value) (base : Heap) (k : Nat) (C fI : Addr) (fd : FuncData) (fs : List Str) : Prop where
  ox : OexC K C
  ec : EcK K C
  noF : ∀ f ∈ fs, PySem.W.findIn K (.ref C) f = some none
  iC : PySem.W.findIn K (.ref C) "__init__" = some (some (.ref fI))
  tI : PySem.W.typeIn K (.ref fI) = some (.type "function")
  fn : FnOk P w K mg base (L2.CX P w) k fI fd ("self" :: fs) (spInit K fs)
  bi : Binds K fd ("self" :: fs) []
def sRaiseI (c : Str) (fs : List Str) (f : Fn (List Bv)) : FS := fun n ρ => bS (fFzs f n ρ) fun ds ρ1 => if ds.length = fs.length ∧ ds.length ≤ 100 then some (.ex ⟨c, mkFsD fs ds⟩ ρ1) else none
theorem xs_raiseI {x : Str} {p p2 : Pos} {C fI : Addr} {fd : FuncData} {k : Nat} {fs : List Str} {f : Fn (List Bv)} (hK : ∀ i, (X i).K = G.K) (hM : ∀ i, (X i).mg = G.mg) (hc : ∀ i, (X i).calm = true) (tk : ∀ i, Takes (X i) W) (T : ∀ i, EcI (X i).prog (X i).w (X i).K (X i).mg (X i).base k C fI fd fs) (hr : ∀ i, Room (k + 1) (X i).A)
    (gC : G.mg x = some (.ref C)) (hg : ∀ i, Gl (X i) x) (hdb : (x == ("__debug__" : Str)) = false) (ha : XBs G X W (e :: es) f) (he : ∀ i, starEach (e :: es) (X i).env = (false, eval e (X i).env) :: starEach es (X i).env) (hpl : ∀ i, (backTo p2 (starEach es (X i).env)).any (·.1) = false) :
    XS G X W P (.Raise (some (.Call (.Name x p) (e :: es) [] p2)) none pos) (sRaiseI x fs f) := by
  obtain ⟨t, h1, h2⟩ := ha
  by_cases hi : Nonempty ι
  case neg => exact ⟨fun _ _ _ => True, fun i => (hi ⟨i⟩).elim, fun _ _ _ _ _ _ _ _ _ _ _ => trivial⟩
  obtain ⟨i0⟩ := hi
  refine ⟨_, fun i => ps_raise (hc i) (tk i) (by
    have := pmk_oex (p := p) (sp := spInit (X i).K fs) (ds := []) (dvs := []) (T i).ox (T i).iC (T i).tI (T i).fn (hr i) (T i).bi .nil passL (hg i) (by rw [hM i]; exact gC) (h1 i) hdb (he i) (hpl i)
    rw [hK i] at this
    exact this), fun n ρ o eq F H σ T' D hR hP => ?_⟩
  have T0 := T i0
  unfold sRaiseI at eq
  cases q : fFzs f n ρ with
  | none => rw [q] at eq; cases eq
  | some r1 =>
    rw [q] at eq
    refine snd_fzs h2 n ρ r1 q F H σ T' _ hR ?_
    cases r1 with
    | ex x ρ' => cases eq; exact fun F' H' cls d s r xr => hP F' H' σ cls d s r (Kp.refl _) xr
    | ok ds ρ1 =>
      rw [bS_ok] at eq
      split at eq
      · rename_i hl
        cases eq
        intro F1 H1 vs s1 R1 r1
        have lv : vs.length = fs.length := by rw [r1.length]; exact hl.1
        refine ⟨by rw [r1.length]; exact Nat.le_trans hl.2 (by decide), fun a ha => ?_⟩
        rw [List.append_nil]
        refine ⟨a, C, vs, rfl, lv, by rw [← hK i0]; exact T0.ox, by rw [← hK i0]; exact T0.noF, upd_same, fun dx hd hne => ?_⟩
        have nda : H1 dx = none := by rw [upd_ne hne] at hd; exact hd
        refine ⟨rfl, dx, mkFs fs vs, upd_same, ?_, nda, ?_⟩
        · rw [upd_ne hne, upd_same]
        · have eH : upd (del (upd (upd (upd H1 a (exo a C none)) dx (exd dx (mkFs fs vs))) a (exo a C (some dx))) a) dx (.xd (mkFs fs vs)) = upd H1 dx (.xd (mkFs fs vs)) := by
            funext b
            by_cases hb : b = dx
            · subst hb; rw [upd_same, upd_same]
            · rw [upd_ne hb, upd_ne hb]
              by_cases hba : b = a
              · subst hba; rw [del_same]; exact ha.symm
              · rw [del_ne hba, upd_ne hba, upd_ne hb, upd_ne hba]
          rw [eH]
          obtain ⟨s2, q2⟩ := R1.hr.newF (o := .xd (mkFs fs vs)) nda
          exact hP _ _ σ (.ref C) (some dx) (s1.trans s2) ⟨q2, R1.ok⟩ (Kp.refl _) ⟨C, gC, rfl, .inr ⟨dx, _, rfl, upd_same, (mkFs_rp fs r1).mono s2⟩⟩
      · cases eq
end
/-! ### the __init__s -/
section
variable {P : Program} {w : World} {K : PySem.W.Frag} {mg : Str → Option Value} {base : Heap}
theorem init1_ok {qual : Str} {st : Stmt} {f : Addr} {fd : FuncData} {fn : Str} {p1 p2 p3 p4 : Pos} (F : Fun K "__init__" qual st f fd) (S : FnScope ["self", fn] ["self", fn] (defScope st)) (hb : defBody st = [.Assign [.Attribute (.Name "self" p1) fn p2] (.Name fn p3) p4])
    (v0 : Vis (defScope st) "self") (v1 : Vis (defScope st) fn) (hd : (fn == ("__debug__" : Str)) = false) (hcd : (fn == ("__classdict__" : Str)) = false) : FnOk P w K mg base (L2.CX P w) 1 f fd ["self", fn] (spInit K [fn]) := by
  refine F.okX S (fun vs H Q E h => ?_) fun cdv A outer s H vs Q E hr h => ?_
  · obtain ⟨a, C, ws, rfl, l, _⟩ := h
    exact congrArg (· + 1) l
  · obtain ⟨a, C, ws, rfl, l, T, no, ha, q⟩ := h
    obtain ⟨y, rfl⟩ : ∃ y, ws = [y] := by
      match ws, l with
      | [y], _ => exact ⟨y, rfl⟩
    rw [hb]
    refine ⟨_, pss_one (ps_ost (pe_var (i := 0) rfl v0) (pe_var (i := 1) rfl v1 hd hcd)), ?_⟩
    exact ⟨y, rfl, .ref a, rfl, a, C, rfl, T, no fn List.mem_cons_self, .inl ⟨ha, fun dx h1 h2 => q dx h1 h2⟩⟩
theorem init2_ok {qual : Str} {st : Stmt} {f : Addr} {fd : FuncData} {fn gn : Str} {p1 p2 p3 p4 q1 q2 q3 q4 : Pos} (F : Fun K "__init__" qual st f fd) (S : FnScope ["self", fn, gn] ["self", fn, gn] (defScope st)) (hb : defBody st = [.Assign [.Attribute (.Name "self" p1) fn p2] (.Name fn p3) p4, .Assign [.Attribute (.Name "self" q1) gn q2] (.Name gn q3) q4])
    (v0 : Vis (defScope st) "self") (v1 : Vis (defScope st) fn) (v2 : Vis (defScope st) gn) (hd : (fn == ("__debug__" : Str)) = false) (hcd : (fn == ("__classdict__" : Str)) = false) (hd2 : (gn == ("__debug__" : Str)) = false) (hcd2 : (gn == ("__classdict__" : Str)) = false) : FnOk P w K mg base (L2.CX P w) 1 f fd ["self", fn, gn] (spInit K [fn, gn]) := by
  refine F.okX S (fun vs H Q E h => ?_) fun cdv A outer s H vs Q E hr h => ?_
  · obtain ⟨a, C, ws, rfl, l, _⟩ := h
    exact congrArg (· + 1) l
  · obtain ⟨a, C, ws, rfl, l, T, no, ha, q⟩ := h
    obtain ⟨y, z, rfl⟩ : ∃ y z, ws = [y, z] := by
      match ws, l with
      | [y, z], _ => exact ⟨y, z, rfl⟩
    rw [hb]
    refine ⟨_, pss_cons (ps_ost (pe_var (i := 0) rfl v0) (pe_var (i := 1) rfl v1 hd hcd)) (pss_one (ps_ost (pe_var (i := 0) rfl v0) (pe_var (i := 2) rfl v2 hd2 hcd2))), ?_⟩
    refine ⟨y, rfl, .ref a, rfl, a, C, rfl, T, no fn List.mem_cons_self, .inl ⟨ha, fun dx h1 h2 => ?_⟩⟩
    refine ⟨z, rfl, .ref a, rfl, a, C, rfl, T, no gn (List.mem_cons_of_mem _ List.mem_cons_self), .inr ⟨dx, [(fn, y)], upd_same, ?_, (by show (1:Nat) ≤ 900; decide), ?_⟩⟩
    · rw [upd_ne h2, upd_same]
    · have eH : upd (upd (upd H dx (exd dx [(fn, y)])) a (exo a C (some dx))) dx (exd dx [(gn, z), (fn, y)]) = upd (upd H dx (exd dx (mkFs [fn, gn] [y, z]))) a (exo a C (some dx)) := by
        funext b
        by_cases hb : b = dx
        · subst hb; rw [upd_same, upd_ne h2, upd_same]; rfl
        · rw [upd_ne hb]
          by_cases hba : b = a
          · subst hba; rw [upd_same, upd_same]
          · rw [upd_ne hba, upd_ne hb, upd_ne hba, upd_ne hb]
      rw [eH]
      exact q dx h1 h2
end

/-! ### isinstance(x, T), T built-in -/
def tyD : D → Option String
  | .none => some "NoneType"
  | .bool _ => some "bool"
  | .int _ => some "int"
  | .str _ => some "str"
  | .list _ => some "list"
  | .tuple _ => some "tuple"
  | .dict _ => some "dict"
theorem ty_of {K : PySem.W.Frag} {H : Hp} {v : V} {d : D} (h : Rp K H v d) : ∃ T, tyD d = some T ∧ TyX K H v (.type T) := by
  cases h with
  | non => exact ⟨_, rfl, .base .non⟩
  | bl b => exact ⟨_, rfl, .base (.bl b)⟩
  | int b => exact ⟨_, rfl, .base (.int b)⟩
  | str b => exact ⟨_, rfl, .base (.str b)⟩
  | lst h r =>
    rcases h with (h | ⟨o, h⟩) | ⟨o, its, n, h1, h2, _⟩
    · exact ⟨_, rfl, .base (.lst h)⟩
    · exact ⟨_, rfl, .base (.frz h)⟩
    · exact ⟨_, rfl, .kList h1 h2⟩
  | tup h r =>
    rcases h with (h | ⟨o, h⟩) | ⟨o, its, n, h1, h2, _⟩
    · exact ⟨_, rfl, .base (.tup h)⟩
    · exact ⟨_, rfl, .fTuple h⟩
    · exact ⟨_, rfl, .kTuple h1 h2⟩
  | dct h r => exact ⟨_, rfl, .base (.dK h)⟩
def isiD (T : String) (d : D) : Option Bool := match tyD d with
  | some S => kitB S T
  | none => none
section
variable {ι : Type} {G : Gd} {X : ι → Cx} {W : WX} {e : Expr} {es : List Expr} {pos : Pos}
def fIsi (T : String) (f : Fn Bv) : Fn Cl := fun n ρ => bnd (fFz f n ρ) fun c ρ1 => match c with
  | .fz d => match isiD T d with
    | some b => some (.ok (.fz (.bool b)) ρ1)
    | none => none
  | _ => none
/-- the second argument is a built-in class by its name -/
theorem xe_isi {T : String} {x : Str} {p p2 : Pos} {f : Fn Bv} (hK : ∀ i, (X i).K = G.K) (hg : ∀ i, Gl (X i) "isinstance") (hm : ∀ i, (X i).mg "isinstance" = none) (hgT : ∀ i, Gl (X i) x) (hmT : ∀ i, (X i).mg x = none) (hv : bootBuiltins x = some (.type T)) (hx : x ≠ "__name__") (hxd : (x == ("__debug__" : Str)) = false) (ha : XB G X W e f)
    (hs1 : ∀ i, starEach [e, .Name x p2] (X i).env = (false, eval e (X i).env) :: starEach [.Name x p2] (X i).env) (hs2 : ∀ i, starEach [.Name x p2] (X i).env = (false, eval (.Name x p2) (X i).env) :: starEach [] (X i).env) (hpl : ∀ i, (backTo pos (starEach [.Name x p2] (X i).env)).any (·.1) = false) :
    XE G X W (.Call (.Name "isinstance" p) [e, .Name x p2] [] pos) (fIsi T f) := by
  obtain ⟨t, h1, h2⟩ := ha
  refine ⟨_, fun i => by
    have := pe_callB (x := "isinstance") (p := p) (pos := pos) call_isi (hg i) (hm i) (by decide +kernel) (pa_cons (h1 i) (pa_cons (pe_bltn (v := .ty T) (hgT i) (hmT i) hv rfl hx hxd) pa_nil (hs2 i)) (hs1 i)) (by decide) (by decide) (hs1 i) (hpl i)
    rw [hK i] at this
    exact this, fun n ρ r eq F H σ T' Q hR hP => ?_⟩
  unfold fIsi at eq
  cases q : fFz f n ρ with
  | none => rw [q] at eq; cases eq
  | some r1 =>
    rw [q] at eq
    refine snd_fz h2 n ρ r1 q F H σ T' _ hR ?_
    cases r1 with
    | ex x ρ' => cases eq; exact hP
    | ok c ρ1 =>
      rw [bnd_ok] at eq
      intro F1 H1 v s1 R1
      split at eq
      · rename_i d
        split at eq
        · rename_i b qb
          cases eq
          obtain ⟨S, q1, q2⟩ := ty_of (R1.rp.mono R1.sub)
          unfold isiD at qb
          rw [q1] at qb
          exact ⟨v, .ty T, _, _, b, rfl, .ty T, q2, kit_ty qb, hP F1 H1 _ s1 (R1.tail.push (.bl b))⟩
        · cases eq
      · cases eq
end

/-! ### slices -/
section
variable {X : Cx}
def cutD {α : Type} (xs : List α) (lo hi : Option Int) : List α := (xs.drop (HT.sIx xs.length 0 lo)).take (HT.sIx xs.length xs.length hi - HT.sIx xs.length 0 lo)
def rSlA (K : PySem.W.Frag) : V → Option Int → Option Int → Hp → VK → Prop := fun x lo hi H Q => rSlL K x lo hi H Q ∨ rSlT K x lo hi H Q ∨ rSlS x lo hi H Q
theorem sl_any : SlR X (rSlA X.K) := sl_list.or (sl_tup.or sl_str)
theorem cut_rp {K : PySem.W.Frag} {F : Hp} {vs : List V} {ds : List D} (r : RpA K F vs ds) (lo hi : Option Int) : RpA K F (cutV vs lo hi) (cutD ds lo hi) := by
  unfold cutV cutD
  rw [r.length]
  exact (r.drop _).take _
end
def asO (d : Option D) : Option (Option Int) := match d with
  | none => some none
  | some (.int i) => some (some i)
  | _ => none
def gSl (lo hi : Option Int) (c : Cl) : Option Cl := match c.data with
  | some (.list ds) => some (.lst (cutD ds lo hi))
  | some (.tuple ds) => if HT.sIx ds.length 0 lo = 0 ∧ HT.sIx ds.length ds.length hi = ds.length then none else some (.fz (.tuple (cutD ds lo hi)))
  | some (.str z) => if z.length ≤ 10000000 then some (.fz (.str (cutS z lo hi))) else none
  | _ => none
section
variable {ι : Type} {G : Gd} {X : ι → Cx} {W : WX} {e l u : Expr} {pos p2 : Pos}
theorem sl_go {F H : Hp} {L : List (Cl × V)} {c c' : Cl} {v : V} {lo hi : Option Int} {Q : VK} (hr : G.HR F H L) (hc : ∃ A, G.CR F H c v A) (e : gSl lo hi c = some c') (hQ : ∀ F' H' v, Same F F' → G.HR F' H' ((c', v) :: L) → Q v H') : rSlA G.K v lo hi H Q := by
  obtain ⟨A, h1⟩ := hc
  unfold gSl at e
  split at e
  · rename_i ds q
    cases e
    obtain ⟨a, ws, rfl, q1, r1⟩ := h1.seqL hr.sub q
    exact .inl ⟨_, _, rfl, q1, fun p hp => hQ F _ _ (Same.refl _) (HR.lstN hr hp (cut_rp r1 lo hi))⟩
  · rename_i ds q
    obtain ⟨a, ws, rfl, q1, r1⟩ := h1.seqT hr.sub q
    split at e
    · cases e
    · rename_i hn
      cases e
      refine .inr (.inl ⟨_, _, rfl, sameT hr.sub q1, by rw [r1.length]; exact hn, fun p hp => ?_⟩)
      obtain ⟨F', s, q⟩ := HR.tupN hr hp (cut_rp r1 lo hi)
      exact hQ F' _ _ s q
  · rename_i z q
    have r := h1.rp hr.sub q
    cases r
    split at e
    · rename_i hz
      cases e
      exact .inr (.inr ⟨_, rfl, by rw [sizeLine_eq]; omega, hQ F H _ (Same.refl _) (hr.push (.str _))⟩)
    · cases e
  · cases e
/-- e[l:] -/
def fSlL (f g : Fn Bv) : Fn Cl := fun n ρ => bnd (f n ρ) fun b ρ1 => bnd (fFz g n ρ1) fun c ρ2 => match c, lk ρ2 b with
  | .fz (.int i), some cb => match gSl (some i) none cb with
    | some c' => some (.ok c' ρ2)
    | none => none
  | _, _ => none
/-- e[:u] -/
def fSlU (f g : Fn Bv) : Fn Cl := fun n ρ => bnd (f n ρ) fun b ρ1 => bnd (fFz g n ρ1) fun c ρ2 => match c, lk ρ2 b with
  | .fz (.int i), some cb => match gSl none (some i) cb with
    | some c' => some (.ok c' ρ2)
    | none => none
  | _, _ => none
theorem sl_one {t tu : TE} {f g : Fn Bv} (h : SndB G W t f) (h' : SndB G W tu g) (n : Nat) (ρ : En) (r : Rz Cl) {k : Int → Option Int × Option Int}
    (eq : (bnd (f n ρ) fun b ρ1 => bnd (fFz g n ρ1) fun c ρ2 => match c, lk ρ2 b with
      | .fz (.int i), some cb => match gSl (k i).1 (k i).2 cb with
        | some c' => some (.ok c' ρ2)
        | none => none
      | _, _ => none) = some r) (F H : Hp) (σ : L2.St) (T : List (Cl × V)) (Q : VK) (hR : G.R F H ρ σ T) (hP : PoE G W F σ T Q r) :
    t σ H fun x H1 => tu σ H1 fun y H2 => ∃ i, y = .int i ∧ rSlA G.K x (k i).1 (k i).2 H2 Q := by
  cases q : f n ρ with
  | none => rw [q] at eq; cases eq
  | some r1 =>
    rw [q] at eq
    refine h n ρ r1 q F H σ T _ hR ?_
    cases r1 with
    | ex x ρ' => cases eq; exact hP
    | ok b ρ1 =>
      rw [bnd_ok] at eq
      intro F1 H1 v s1 R1 v1
      cases q2 : fFz g n ρ1 with
      | none => rw [q2] at eq; cases eq
      | some r2 =>
        rw [q2] at eq
        refine snd_fz h' n ρ1 r2 q2 F1 H1 σ _ _ R1 ?_
        cases r2 with
        | ex x ρ' => cases eq; exact PoX.dropT hP s1
        | ok c ρ2 =>
          rw [bnd_ok] at eq
          intro F2 H2 y s2 R2
          split at eq
          · rename_i i cb qb
            split at eq
            · rename_i c' qc
              cases eq
              have ry := R2.rp
              cases ry
              have cr := bv_cr (b := b) (v := v) R2.tail (fun x hx => by
                cases b with
                | pl j => cases hx
                | vl c0 => rw [List.mem_singleton.mp hx]; exact List.mem_cons_self) v1 qb
              have R3 : G.R F2 H2 ρ2 σ T := bvT_drop b v R2.tail
              exact ⟨i, rfl, sl_go R3.hr cr qc fun F' H' v' s' h' => hP F' H' v' ((s1.trans s2).trans s') (.mk' h' R3.ok)⟩
            · cases eq
          · cases eq
theorem xe_slL {f g : Fn Bv} (hK : ∀ i, (X i).K = G.K) (h : XB G X W e f) (h' : XB G X W l g) : XE G X W (.Subscript e (.Slice (some l) none none p2) pos) (fSlL f g) := by
  obtain ⟨t, a1, a2⟩ := h
  obtain ⟨tu, b1, b2⟩ := h'
  refine ⟨_, fun i => by have := pe_slice (X := X i) (pos := pos) (p2 := p2) sl_any (a1 i) (po_some (b1 i)) po_none; rw [hK i] at this; exact this, fun n ρ r eq F H σ T Q hR hP => ?_⟩
  exact sl_one a2 b2 n ρ r (k := fun i => (some i, none)) eq F H σ T Q hR hP
theorem xe_slU {f g : Fn Bv} (hK : ∀ i, (X i).K = G.K) (h : XB G X W e f) (h' : XB G X W u g) : XE G X W (.Subscript e (.Slice none (some u) none p2) pos) (fSlU f g) := by
  obtain ⟨t, a1, a2⟩ := h
  obtain ⟨tu, b1, b2⟩ := h'
  refine ⟨_, fun i => by have := pe_slice (X := X i) (pos := pos) (p2 := p2) sl_any (a1 i) po_none (po_some (b1 i)); rw [hK i] at this; exact this, fun n ρ r eq F H σ T Q hR hP => ?_⟩
  exact sl_one a2 b2 n ρ r (k := fun i => (none, some i)) eq F H σ T Q hR hP
end
/-! ### stars in displays -/
section
variable {ι : Type} {G : Gd} {X : ι → Cx} {W : WX} {e : Expr} {es : List Expr} {pos : Pos}
/-- display items: frozen data, a star's items spliced -/
def XDs (G : Gd) (X : ι → Cx) (W : WX) (es : List Expr) (f : Fn (List D)) : Prop := ∃ t : TA, (∀ i, PA (X i) es t) ∧ ∀ n ρ r, f n ρ = some r → ∀ F H σ T Q, G.R F H ρ σ T → PoFs G W F σ T Q r → t σ H Q
def dNil : Fn (List D) := fun _ ρ => some (.ok [] ρ)
def dCons (f : Fn Bv) (g : Fn (List D)) : Fn (List D) := fun n ρ => bnd (fFz f n ρ) fun c ρ1 => match c with
  | .fz d => bnd (g n ρ1) fun ds ρ2 => some (.ok (d :: ds) ρ2)
  | _ => none
def dStar (f : Fn Bv) (g : Fn (List D)) : Fn (List D) := fun n ρ => bnd (fFz f n ρ) fun c ρ1 => match c with
  | .fz d => match asSeq d with
    | some xs => bnd (g n ρ1) fun ds ρ2 => some (.ok (xs ++ ds) ρ2)
    | none => none
  | _ => none
theorem xds_nil : XDs G X W [] dNil := ⟨_, fun _ => pa_nil, fun n ρ r e F H σ T Q hR hP => by
  cases e
  exact hP F H [] (Same.refl _) hR .nil⟩
theorem xds_cons {f : Fn Bv} {g : Fn (List D)} (h : XB G X W e f) (h' : XDs G X W es g) (hs : ∀ i, starEach (e :: es) (X i).env = (false, eval e (X i).env) :: starEach es (X i).env) : XDs G X W (e :: es) (dCons f g) := by
  obtain ⟨t, a1, a2⟩ := h
  obtain ⟨u, b1, b2⟩ := h'
  refine ⟨_, fun i => pa_cons (a1 i) (b1 i) (hs i), fun n ρ r eq F H σ T Q hR hP => ?_⟩
  unfold dCons at eq
  cases q : fFz f n ρ with
  | none => rw [q] at eq; cases eq
  | some r1 =>
    rw [q] at eq
    refine snd_fz a2 n ρ r1 q F H σ T _ hR ?_
    cases r1 with
    | ex x ρ' => cases eq; exact hP
    | ok c ρ1 =>
      rw [bnd_ok] at eq
      intro F1 H1 v s1 R1
      split at eq
      · rename_i d
        have rv := R1.rp
        cases q2 : g n ρ1 with
        | none => rw [q2] at eq; cases eq
        | some r2 =>
          rw [q2] at eq
          refine b2 n ρ1 r2 q2 F1 H1 σ T _ R1.tail ?_
          cases r2 with
          | ex x ρ' => cases eq; exact PoX.mono hP s1
          | ok ds ρ2 =>
            cases eq
            exact fun F2 H2 vs s2 R2 r2 => hP F2 H2 _ (s1.trans s2) R2 (.cons (rv.mono s2) r2)
      · cases eq
theorem xds_star {f : Fn Bv} {g : Fn (List D)} {p : Pos} (hK : ∀ i, (X i).K = G.K) (h : XB G X W e f) (h' : XDs G X W es g) (hp : ∀ t u, (∀ i, PE (X i) e t) → (∀ i, PA (X i) es u) → ∀ i, PA (X i) (.Starred e p :: es) (fun σ H Q => t σ H fun x H1 => ∃ p xs, x = V.ref p ∧ (SqT (X i).K H1 p xs ∨ SqL (X i).K H1 p xs) ∧ u σ H1 fun ys H2 => Q (xs ++ ys) H2)) : XDs G X W (.Starred e p :: es) (dStar f g) := by
  obtain ⟨t, a1, a2⟩ := h
  obtain ⟨u, b1, b2⟩ := h'
  refine ⟨_, fun i => by have := hp t u a1 b1 i; rw [hK i] at this; exact this, fun n ρ r eq F H σ T Q hR hP => ?_⟩
  unfold dStar at eq
  cases q : fFz f n ρ with
  | none => rw [q] at eq; cases eq
  | some r1 =>
    rw [q] at eq
    refine snd_fz a2 n ρ r1 q F H σ T _ hR ?_
    cases r1 with
    | ex x ρ' => cases eq; exact hP
    | ok c ρ1 =>
      rw [bnd_ok] at eq
      intro F1 H1 v s1 R1
      split at eq
      · rename_i d
        have rv := R1.rp
        have fin : ∀ {xs : List D} {vs : List V} {a : Addr}, v = .ref a → (SqT G.K H1 a vs ∨ SqL G.K H1 a vs) → RpA G.K F1 vs xs → (bnd (g n ρ1) fun ds ρ2 => some (.ok (xs ++ ds) ρ2)) = some r → ∃ p ys, v = V.ref p ∧ (SqT G.K H1 p ys ∨ SqL G.K H1 p ys) ∧ u σ H1 fun zs H2 => Q (ys ++ zs) H2 := fun {xs vs a} ev hs rr eq => by
          refine ⟨a, vs, ev, hs, ?_⟩
          cases q2 : g n ρ1 with
          | none => rw [q2] at eq; cases eq
          | some r2 =>
            rw [q2] at eq
            refine b2 n ρ1 r2 q2 F1 H1 σ T _ R1.tail ?_
            cases r2 with
            | ex x ρ' => cases eq; exact PoX.mono hP s1
            | ok ds ρ2 =>
              cases eq
              exact fun F2 H2 vs s2 R2 r2 => hP F2 H2 _ (s1.trans s2) R2 ((rr.mono s2).append r2)
        cases rv with
        | lst h r => exact fin rfl (.inr (R1.sub.seq h)) r eq
        | tup h r => exact fin rfl (.inl (sameT R1.sub h)) r eq
        | _ => cases eq
      · cases eq
def fLstD (f : Fn (List D)) : Fn Cl := fun n ρ => bnd (f n ρ) fun ds ρ1 => if lsz ds.length = true then some (.ok (.lst ds) ρ1) else none
def fTupD (f : Fn (List D)) : Fn Cl := fun n ρ => bnd (f n ρ) fun ds ρ1 => if lsz ds.length = true then some (.ok (.fz (.tuple ds)) ρ1) else none
theorem xe_lstD {f : Fn (List D)} (h : XDs G X W es f) : XE G X W (.List es pos) (fLstD f) := by
  obtain ⟨t, a1, a2⟩ := h
  refine ⟨_, fun i => pe_lst (a1 i), fun n ρ r eq F H σ T Q hR hP => ?_⟩
  unfold fLstD at eq
  cases q : f n ρ with
  | none => rw [q] at eq; cases eq
  | some r1 =>
    rw [q] at eq
    refine a2 n ρ r1 q F H σ T _ hR ?_
    cases r1 with
    | ex x ρ' => cases eq; exact hP
    | ok ds ρ1 =>
      rw [bnd_ok] at eq
      split at eq
      · rename_i hz
        cases eq
        exact fun F1 H1 vs s1 R1 r1 => ⟨by rw [r1.length]; exact lsz_ok hz, fun p hp => hP _ _ _ s1 (R.newLst R1 hp r1)⟩
      · cases eq
theorem xe_tupD {f : Fn (List D)} {k : Nat} (h : XDs G X W es f) : XE G X W (.Tuple es k pos) (fTupD f) := by
  obtain ⟨t, a1, a2⟩ := h
  refine ⟨_, fun i => pe_tup (a1 i), fun n ρ r eq F H σ T Q hR hP => ?_⟩
  unfold fTupD at eq
  cases q : f n ρ with
  | none => rw [q] at eq; cases eq
  | some r1 =>
    rw [q] at eq
    refine a2 n ρ r1 q F H σ T _ hR ?_
    cases r1 with
    | ex x ρ' => cases eq; exact hP
    | ok ds ρ1 =>
      rw [bnd_ok] at eq
      split at eq
      · rename_i hz
        cases eq
        exact fun F1 H1 vs s1 R1 r1 => ⟨by rw [r1.length]; exact lsz_ok hz, fun p hp => let ⟨s2, R2⟩ := R.newTup R1 hp r1; hP _ _ _ (s1.trans s2) R2⟩
      · cases eq
end
end L3

set_option maxHeartbeats 1000000
namespace L2
open PySem PySem.Spec PyProof.Rows
/-- isinstance(e, c), e the exception that the suite holds; its dict may stand -/
def rIsF (K : PySem.W.Frag) (D : Addr) (d : Option Addr) (a : Addr) : List V → Hp → VK → Prop := fun xs H Q => ∃ (c : V) (cv : Value) (b : Bool), xs = [.ref a, c] ∧ (∀ u, RelV c u → u = cv) ∧ PySem.W.kitOne K (.ref D) cv = some b ∧ (d = none ∨ ∃ dd fs, d = some dd ∧ H dd = some (.xd fs)) ∧ Q (.bl b) H
/-! ### an exception of the body that has come to the handlers of this frame -/
/-- it flies over B; here the invariant holds, and it is no object of ours -/
structure Cau (X : Cx) (B : Heap) (pins : List (Addr × Obj)) (σ : St) (H : Hp) (a : Addr) (cls : Value) (d : Option Addr) (t : Shared) : Prop where
  inv : Inv X pins σ H t
  fly : HandSPX.FlyingZ B (X.env :: X.outer) a (Zc cls d) t.heap
  na : H a = none
section
variable {X : Cx} {B : Heap} {pins : List (Addr × Obj)} {σ : St} {H : Hp} {a : Addr} {cls : Value} {d : Option Addr} {t : Shared}
/-- it is none of the frames that stand -/
theorem Cau.off (C : Cau X B pins σ H a cls d t) : a ∉ frs (X.env :: X.outer) := fun hm => by
  have ⟨_, _, e, _, dd⟩ := C.fly.there
  have ⟨_, _, e', no⟩ := C.fly.2.2.1.mem hm
  cases e.symm.trans e'
  exact no _ dd
theorem Cau.offL (C : Cau X B pins σ H a cls d t) (hf : X.env.frame = some X.env.locals) : a ≠ X.env.locals := fun z =>
  C.off (by rw [z]; unfold frs; rw [List.filterMap_cons, hf]; exact List.mem_cons_self)
theorem Cau.offF (C : Cau X B pins σ H a cls d t) : a ∉ X.fs := fun hm => C.off (by unfold Cx.fs at hm; unfold frs at hm ⊢; cases q : X.env.frame with | none => rw [List.filterMap_cons, q]; exact hm | some f => rw [List.filterMap_cons, q]; exact List.mem_cons_of_mem _ hm)
/-- inside the suite of a clause that takes it -/
theorem Cau.open_ (C : Cau X B pins σ H a cls d t) (hf : X.env.frame = some X.env.locals) : ∃ oe, t.heap.get? a = some oe ∧ Zc cls d oe ∧ (∃ vs, oe.data = .fields vs) ∧ Inv (X.suite a ((a, oe) :: (X.pn ++ pins))) [] σ H t := by
  have ⟨oe, vs, e, z, dd⟩ := C.fly.there
  exact ⟨oe, e, z, ⟨vs, dd⟩, C.inv.suite e dd C.na (C.offL hf) C.offF⟩
end
theorem call_isF {X : Cx} {a D : Addr} {d : Option Addr} {oe : Obj} {pn : List (Addr × Obj)} (C : L3.EcK X.K D) (hz : Zc (.ref D) d oe) (hf : ∃ vs, oe.data = .fields vs) : CallR (X.suite a ((a, oe) :: pn)) (.builtin "isinstance") (rIsF X.K D d a) := by
  rintro pins s σ H _ us Q I rel ⟨c, cv, b, rfl, only, kit, d0, q⟩
  cases rel with | cons rx rel => ?_
  cases rel with | cons rt rel => ?_
  cases rel; cases rx
  cases only _ rt
  have at_ := (I.pin (a, oe) (.head _)).1
  have nc : PySem.W.notCls oe := hf.elim fun _ e => by unfold PySem.W.notCls; rw [e] <;> rfl
  have ⟨_, J⟩ : ∃ od, PySem.W.InstAt s.heap a oe D od := by
    rcases d0 with e | ⟨dx, fs, e, xd⟩
    · exact ⟨none, at_, hz.1, nc, by rw [hz.2, e]; trivial⟩
    · have ⟨m, ns, _⟩ : ObjOk X.prog X.w H s.heap dx (.xd fs) := I.hok dx _ xd
      exact (lookIn_ns ns).imp' some fun od w => ⟨at_, hz.1, nc, by rw [hz.2, e]; exact w.1⟩
  exact PySem.W.kia_one (PySem.W.kitx_exc C.cl C.ga C.gg C.sub C.ac C.sp C.tk C.mr) I.kIn J kit (fun z => nomatch z) fun tk => ⟨.bl b, H, I.kept (t' := tk) fun _ _ z => z, rfl, q⟩
/-! ### several clauses, each 'except c as n' -/
/-- the ends seen through the going of slot i -/
def Ends.gone (D : Ends) (i : Nat) : Ends := { nx := fun σ' H' => D.nx (σ'.set i none) H', rt := D.rt, bk := fun σ' H' => D.bk (σ'.set i none) H', ct := fun σ' H' => D.ct (σ'.set i none) H' }
def wManyAs (K : PySem.W.Frag) (i : Nat) (Wout : WX) (D : Ends) : List (Value × (Addr → Value → Option Addr → TS)) → WX
  | [] => Wout
  | (c, ts) :: r => fun cls d σ H => ∃ b, PySem.W.exmOne K cls c = some b ∧ (b = true → ∀ a, H a = none → ts a cls d (D.gone i) (σ.set i (some (.ref a))) H) ∧ (b = false → wManyAs K i Wout D r cls d σ H)
inductive HdsAs (X : Cx) (n : Str) : List ExceptHandler → List (Value × (Addr → Value → Option Addr → TS)) → Prop
  | nil : HdsAs X n [] []
  | cons {x : Str} {c : Value} {ts : Addr → Value → Option Addr → TS} {b₀ : Stmt} {suite : List Stmt} {np pos' : Pos} {hds : List ExceptHandler} {l : List (Value × (Addr → Value → Option Addr → TS))} (hc : Names X x c)
      (hsu : ∀ (a : Addr) (oe : Obj) (cls : Value) (d : Option Addr) (pn : List (Addr × Obj)), Zc cls d oe → (∃ vs, oe.data = .fields vs) → PSs (X.suite a ((a, oe) :: pn)) (b₀ :: suite) (ts a cls d)) (r : HdsAs X n hds l) :
      HdsAs X n (.ExceptHandler (some (.Name x np)) (some n) (b₀ :: suite) pos' :: hds) ((c, ts) :: l)
section
variable {X : Cx} {n : Str} {i : Nat} {body : List Stmt} {h₀ : ExceptHandler} {hds : List ExceptHandler} {l : List (Value × (Addr → Value → Option Addr → TS))} {pos : Pos} {tb : WX → TS} {Wout : WX}
/-- the clauses, one after the other, at a caught one: each is one of the library's clause rules -/
theorem clauses_ok {B : Heap} {pins : List (Addr × Obj)} {σ : St} {H : Hp} {a : Addr} {cls : Value} {d : Option Addr} {D : Ends} (hf : X.env.frame = some X.env.locals) (hN : X.N.Nodup) (hi : X.N[i]? = some n) (hln : X.env.kindOf n = some .local)
    {hds : List ExceptHandler} {l : List (Value × (Addr → Value → Option Addr → TS))} (hk : HdsAs X n hds l) :
    ∀ {t : Shared}, Cau X B pins σ H a cls d t → (∀ h', HandSPX.FlyingZ B (X.env :: X.outer) a (Zc cls d) h' → t.heap.UpToSlots h' → Cau X B pins σ H a cls d { t with heap := h' }) →
      (∀ h', HandSPX.HeldZ B (X.env :: X.outer) a (Zc cls d) X.env.locals h' → t.heap.UpToSlots h' → Wout cls d σ H → X.xe (.ref a) { t with heap := h' }) →
      wManyAs X.K i Wout D l cls d σ H → wpAny (model X.prog X.w) X.A (handleBy (.ref a) X.env hds) (SP X pins D) X.xe t := by
  induction hk with
  | nil => exact fun C _ out w => PX.no_clauseZ hf C.fly fun h' hh up => out h' hh up w
  | @cons x c ts b₀ suite np pos' hds2 l2 hc hsu _ ih =>
    intro t C again out ⟨b, hm, yes, no⟩
    have ⟨oe, _, _, _, S⟩ := C.open_ hf
    have test : ∀ {Q : Value → Shared → Prop} {E : Value → Shared → Prop}, Q c t → wpAny (model X.prog X.w) (X.A.mark (some (.ref a))) (eval (.Name x np) X.env) Q E t := fun q => by
      rcases hc with ⟨hg, hdb, hm | ⟨hm, hv, hn⟩⟩
      · exact ld_glob S hg hm q hdb
      · exact ld_blt S hg hm hv q hn hdb
    cases b with
    | false => exact PX.clause_passZ C.inv.kIn (fun _ z => z.1) C.fly hm test (ih C again out (no rfl))
    | true =>
      refine PX.clause_asZ C.inv.kIn (fun _ z => z.1) C.fly hm test fun h' fl up => ?_
      have ⟨oe, _, z, dd, S⟩ := (again h' fl up).open_ hf
      refine store_ok (X := X.suite a ((a, oe) :: (X.pn ++ pins))) S hN hi (.inl hln) (v := .ref a) rfl (fun s5 S5 => wpAny_mono ((hsu a oe cls d _ z dd).run [] s5 _ H _ S5 (yes rfl a C.na)) (fun f s6 e => ?_) fun _ _ z => z.elim) (.inr hln)
      cases f with
      | ret u => have ⟨v, σ', H', S6, r, q⟩ := e; exact gone_ok (S6.unsuite C.inv.ok) hN hi hln fun _ J => ⟨v, _, _, J, r, q⟩
      | next => have ⟨σ', H', S6, q⟩ := e; exact gone_ok (S6.unsuite C.inv.ok) hN hi hln fun _ J => ⟨_, _, J, q⟩
      | brk => have ⟨σ', H', S6, q⟩ := e; exact gone_ok (S6.unsuite C.inv.ok) hN hi hln fun _ J => ⟨_, _, J, q⟩
      | cont => have ⟨σ', H', S6, q⟩ := e; exact gone_ok (S6.unsuite C.inv.ok) hN hi hln fun _ J => ⟨_, _, J, q⟩
theorem ps_try_manyAs (hs : X.stack = X.env :: X.outer) (hf : X.env.frame = some X.env.locals) (hN : X.N.Nodup) (hi : X.N[i]? = some n) (hln : X.env.kindOf n = some .local) (tk : Takes X Wout)
    (hb : ∀ (W : WX) (pn : List (Addr × Obj)) (xe : Value → Shared → Prop), Takes (X.tr pn xe) W → PassesOwn (model X.prog X.w) X.A X.env xe → PSs (X.tr pn xe) body (tb W))
    (hh : HdsAs X n (h₀ :: hds) l) : PS X (.Try body (h₀ :: hds) [] [] pos) (fun D σ H => tb (wManyAs X.K i Wout D l) D σ H) where
  run pins s σ H D I h := by
    have ok := I.ok
    have fr : X.A.frames = some (X.env :: X.outer) := ok.frames.trans (congrArg some hs)
    refine wpAny_Try_except (wpAny_mono ((hb (wManyAs X.K i Wout D l) (X.pn ++ pins) _ ?_ PassesOwn.looking).run [] s σ H D (I.toTry _) h) ?_ fun _ _ he => he)
    · rintro u st ⟨a, B, sI, _, σ', H', cls, d, rfl, J, nb, up, sky, na, os, ag, w⟩
      have J := Inv.ofTry (pins := pins) J ok
      refine Sky.land Zc.steady fr hf (hs ▸ sky) fun h3 fl up3 => ?_
      have land : ∀ h', HandSPX.FlyingZ B (X.env :: X.outer) a (Zc cls d) h' → st.heap.UpToSlots h' → Cau X B pins σ' H' a cls d { st with heap := h' } := fun h' f u => ⟨J.landed nb f.1 (up.trans u) os ag, f, na⟩
      exact clauses_ok hf hN hi hln hh (land h3 fl up3) (fun h' f u => land h' f (up3.trans u)) (fun h' hd u w => tk _ _ ⟨a, B, sI, pins, σ', H', cls, d, rfl, J, nb, up.trans (up3.trans u), .inr (.inr (hs ▸ hd)), na, os, ag, w⟩) w
    · intro f st e
      cases f with
      | ret u => have ⟨v, σ', H', J, r, q⟩ := e; exact ⟨v, σ', H', J.ofTry ok, r, q⟩
      | next => have ⟨σ', H', J, q⟩ := e; exact wpAny_execs_nil ⟨σ', H', J.ofTry ok, q⟩
      | brk => have ⟨σ', H', J, q⟩ := e; exact ⟨σ', H', J.ofTry ok, q⟩
      | cont => have ⟨σ', H', J, q⟩ := e; exact ⟨σ', H', J.ofTry ok, q⟩
end
end L2
namespace L3
open PySem PySem.Spec L2
/-! ### an expression in an except suite: of the error x, e in slot i -/
section
variable {ι : Type} {G : Gd} {X : ι → Cx} {i : Nat} {n : Str}
def SE (G : Gd) (X : ι → Cx) (i : Nat) (e : Expr) (f : Ex → Option Cl) : Prop :=
  ∃ t : Addr → Value → Option Addr → TE, (∀ j a oe cls d pn, Zc cls d oe → (∃ vs, oe.data = .fields vs) → PE ((X j).suite a ((a, oe) :: pn)) e (t a cls d)) ∧
    ∀ a cls d x c F H ρ σ T (Q : VK), f x = some c → XR G F x cls d → σ[i]? = some (some (.ref a)) → G.R F H ρ σ T → (∀ F' H' v, Same F F' → G.R F' H' ρ σ ((c, v) :: T) → Q v H') → t a cls d σ H Q
/-- elements of a display: data, frozen -/
def SEs (G : Gd) (X : ι → Cx) (i : Nat) (es : List Expr) (f : Ex → Option (List D)) : Prop :=
  ∃ t : Addr → Value → Option Addr → TA, (∀ j a oe cls d pn, Zc cls d oe → (∃ vs, oe.data = .fields vs) → PA ((X j).suite a ((a, oe) :: pn)) es (t a cls d)) ∧
    ∀ a cls d x ds F H ρ σ T (Q : List V → Hp → Prop), f x = some ds → XR G F x cls d → σ[i]? = some (some (.ref a)) → G.R F H ρ σ T → (∀ vs, RpA G.K F vs ds → Q vs H) → t a cls d σ H Q
theorem se_str {s : Str} {k : Nat} {pos : Pos} : SE G X i (.Constant (.str s) k pos) (fun _ => some (.fz (.str s))) :=
  ⟨fun _ _ _ => tC (.str s), fun _ _ _ _ _ _ _ _ => pe_str, fun a cls d x c F H ρ σ T Q e _ _ hR hP => by
    cases e
    exact hP F H _ (Same.refl _) (hR.push (.str s))⟩
theorem lookup_ks {K : PySem.W.Frag} {F : Hp} {f : Str} : ∀ {fvs : List (Str × V)} {fs : List (Str × D)} {d : D}, RpKs K F fvs fs → fs.lookup f = some d → ∃ v, fvs.lookup f = some v ∧ Rp K F v d
  | _, _, d, .nil, e => by cases e
  | _, _, d, .cons (k := k) h r, e => by
    unfold List.lookup at e ⊢
    split at e
    · rename_i q
      cases e
      exact ⟨_, rfl, h⟩
    · rename_i q
      obtain ⟨v, h1, h2⟩ := lookup_ks r e
      exact ⟨v, h1, h2⟩

theorem XR.mono {F F' : Hp} {x : Ex} {cls : Value} {d : Option Addr} (h : XR G F x cls d) (e : Same F F') : XR G F' x cls d := by
  obtain ⟨C, h1, h2, h3⟩ := h
  refine ⟨C, h1, h2, ?_⟩
  rcases h3 with h3 | ⟨dd, fvs, h4, h5, h6⟩
  · exact .inl h3
  · exact .inr ⟨dd, fvs, h4, e _ _ h5, h6.mono e⟩
/-- e.f : cs the classes that have it -/
def seF (cs : List Str) (f : Str) : Ex → Option D := fun x => if cs.contains x.cls = true then x.fs.lookup f else none
def tE0 : TE := fun _ _ _ => False
theorem pe_no {Y : Cx} {e : Expr} : PE Y e tE0 := ⟨fun _ _ _ _ _ _ h => h.elim⟩
open Classical in
noncomputable def tFld (K : PySem.W.Frag) (i : Nat) (f : Str) (a : Addr) (cls : Value) (d : Option Addr) : TE :=
  if h : ∃ C, cls = .ref C ∧ XfC K C ∧ PySem.W.findIn K (.ref C) f = some none then tXf a cls d h.choose f (tVar i) else tE0
theorem pe_fld {j : ι} {a : Addr} {oe : Obj} {cls : Value} {d : Option Addr} {pn : List (Addr × Obj)} {f : Str} {p pos : Pos} (hn : ∀ j a oe pn, PE ((X j).suite a ((a, oe) :: pn)) (.Name n p) (tVar i)) (hK : ∀ j, (X j).K = G.K) (hz : Zc cls d oe) (hf : ∃ vs, oe.data = .fields vs)
    (hb : ∀ j, attributeBase (.Name n p) f (X j).env (eval (.Name n p) (X j).env) = eval (.Name n p) (X j).env) : PE ((X j).suite a ((a, oe) :: pn)) (.Attribute (.Name n p) f pos) (tFld G.K i f a cls d) := by
  unfold tFld
  split
  · rename_i h
    obtain ⟨h1, h2, h3⟩ := h.choose_spec
    have h2 : XfC (X j).K h.choose := by rw [hK j]; exact h2
    have h3 : PySem.W.findIn (X j).K (.ref h.choose) f = some none := by rw [hK j]; exact h3
    exact pe_xf h2 h3 hz hf (hn j a oe pn) (hb j)
  · exact pe_no
theorem snd_fld {cs : List Str} {f : Str} {a : Addr} {cls : Value} {d : Option Addr} {x : Ex} {dv : D} {F H : Hp} {ρ : En} {σ : L2.St} {T : List (Cl × V)} {Q : VK} (hC : ∀ c C, cs.contains c = true → G.mg c = some (.ref C) → XfC G.K C ∧ PySem.W.findIn G.K (.ref C) f = some none)
    (e : seF cs f x = some dv) (xr : XR G F x cls d) (hi : σ[i]? = some (some (.ref a))) (hR : G.R F H ρ σ T) (hP : ∀ v, Rp G.K F v dv → Q v H) : tFld G.K i f a cls d σ H Q := by
  unfold seF at e
  split at e
  · rename_i hc
    obtain ⟨C, h1, h2, h3⟩ := xr
    obtain ⟨k1, k2⟩ := hC _ C hc h1
    have ex : ∃ C, cls = .ref C ∧ XfC G.K C ∧ PySem.W.findIn G.K (.ref C) f = some none := ⟨C, h2, k1, k2⟩
    unfold tFld
    rw [dif_pos ex]
    obtain ⟨m1, m2, m3⟩ := ex.choose_spec
    rcases h3 with ⟨h4, _⟩ | ⟨dd, fvs, h4, h5, h6⟩
    · rw [h4] at e; cases e
    · obtain ⟨v, l, r⟩ := lookup_ks h6 e
      exact ⟨.ref a, hi, rfl, m1, dd, fvs, v, h4, hR.sub _ _ h5, l, hP v r⟩
  · cases e
theorem se_fld {cs : List Str} {f : Str} {p pos : Pos} (hn : ∀ j a oe pn, PE ((X j).suite a ((a, oe) :: pn)) (.Name n p) (tVar i)) (hK : ∀ j, (X j).K = G.K) (hC : ∀ c C, cs.contains c = true → G.mg c = some (.ref C) → XfC G.K C ∧ PySem.W.findIn G.K (.ref C) f = some none)
    (hb : ∀ j, attributeBase (.Name n p) f (X j).env (eval (.Name n p) (X j).env) = eval (.Name n p) (X j).env) : SE G X i (.Attribute (.Name n p) f pos) (fun x => (seF cs f x).map .fz) :=
  ⟨fun a cls d => tFld G.K i f a cls d, fun j a oe cls d pn hz hf => pe_fld hn hK hz hf hb, fun a cls d x c F H ρ σ T Q e xr hi hR hP => by
    dsimp only at e
    cases q : seF cs f x with
    | none => rw [q] at e; cases e
    | some dv =>
      rw [q] at e
      cases e
      exact snd_fld hC q xr hi hR fun v r => hP F H v (Same.refl _) (hR.push r)⟩
theorem ses_nil : SEs G X i [] (fun _ => some []) := ⟨fun _ _ _ => tNil, fun _ _ _ _ _ _ _ _ => pa_nil, fun a cls d x ds F H ρ σ T Q e _ _ hR hP => by
  cases e
  exact hP [] .nil⟩
theorem ses_fld {cs : List Str} {f : Str} {p pos : Pos} {es : List Expr} {g : Ex → Option (List D)} (hn : ∀ j a oe pn, PE ((X j).suite a ((a, oe) :: pn)) (.Name n p) (tVar i)) (hK : ∀ j, (X j).K = G.K) (hC : ∀ c C, cs.contains c = true → G.mg c = some (.ref C) → XfC G.K C ∧ PySem.W.findIn G.K (.ref C) f = some none)
    (hb : ∀ j, attributeBase (.Name n p) f (X j).env (eval (.Name n p) (X j).env) = eval (.Name n p) (X j).env) (hs : ∀ j, starEach (.Attribute (.Name n p) f pos :: es) (X j).env = (false, eval (.Attribute (.Name n p) f pos) (X j).env) :: starEach es (X j).env) (hr : SEs G X i es g) :
    SEs G X i (.Attribute (.Name n p) f pos :: es) (fun x => (seF cs f x).bind fun d => (g x).map (d :: ·)) := by
  obtain ⟨t, h1, h2⟩ := hr
  refine ⟨fun a cls d => tCons (tFld G.K i f a cls d) (t a cls d), fun j a oe cls d pn hz hf => pa_cons (pe_fld hn hK hz hf hb) (h1 j a oe cls d pn hz hf) (hs j), fun a cls d x ds F H ρ σ T Q e xr hi hR hP => ?_⟩
  dsimp only at e
  cases q : seF cs f x with
  | none => rw [q] at e; cases e
  | some dv =>
    rw [q] at e
    cases q2 : g x with
    | none => rw [q2] at e; cases e
    | some ds2 =>
      rw [q2] at e
      cases e
      exact snd_fld hC q xr hi hR fun v r => h2 a cls d x ds2 F H ρ σ T _ q2 xr hi hR fun vs rs => hP _ (.cons r rs)
theorem ses_str {s : Str} {k : Nat} {pos : Pos} {es : List Expr} {g : Ex → Option (List D)} (hs : ∀ j, starEach (.Constant (.str s) k pos :: es) (X j).env = (false, eval (.Constant (.str s) k pos) (X j).env) :: starEach es (X j).env) (hr : SEs G X i es g) :
    SEs G X i (.Constant (.str s) k pos :: es) (fun x => (g x).map (.str s :: ·)) := by
  obtain ⟨t, h1, h2⟩ := hr
  refine ⟨fun a cls d => tCons (tC (.str s)) (t a cls d), fun j a oe cls d pn hz hf => pa_cons pe_str (h1 j a oe cls d pn hz hf) (hs j), fun a cls d x ds F H ρ σ T Q e xr hi hR hP => ?_⟩
  dsimp only at e
  cases q2 : g x with
  | none => rw [q2] at e; cases e
  | some ds2 =>
    rw [q2] at e
    cases e
    exact h2 a cls d x ds2 F H ρ σ T _ q2 xr hi hR fun vs rs => hP _ (.cons (.str s) rs)
theorem se_lst {es : List Expr} {pos : Pos} {g : Ex → Option (List D)} (h : SEs G X i es g) (hg : ∀ x ds, g x = some ds → ds.length ≤ 1000) : SE G X i (.List es pos) (fun x => (g x).map .lst) := by
  obtain ⟨t, h1, h2⟩ := h
  refine ⟨fun a cls d => tLst (t a cls d), fun j a oe cls d pn hz hf => pe_lst (h1 j a oe cls d pn hz hf), fun a cls d x c F H ρ σ T Q e xr hi hR hP => ?_⟩
  dsimp only at e
  cases q : g x with
  | none => rw [q] at e; cases e
  | some ds =>
    rw [q] at e
    cases e
    refine h2 a cls d x ds F H ρ σ T _ q xr hi hR fun vs rs => ⟨by rw [rs.length]; exact line1000 (hg x ds q), fun p hp => ?_⟩
    exact hP F _ (.ref p) (Same.refl _) (hR.newLst hp rs)

/-! ### the suite: t = EXPR if isinstance(e, C) else .. -/
def fSu (k : Nat) (sub : Ex → Bool) (f : Ex → Option Cl) : Ex → FS := fun x _ ρ => if sub x = true then match f x with
  | some c => if k < ρ.length then some (.nx (ρ.set k (some c))) else none
  | none => none
  else none
def SU (G : Gd) (X : ι → Cx) (P : List Nat) (i : Nat) (st : List Stmt) (f : Ex → FS) : Prop :=
  ∃ t : Addr → Value → Option Addr → TS, (∀ j a oe cls d pn, Zc cls d oe → (∃ vs, oe.data = .fields vs) → PSs ((X j).suite a ((a, oe) :: pn)) st (t a cls d)) ∧
    ∀ a cls d x n o F H ρ σ T (D : Ends), f x n ρ = some o → XR G F x cls d → σ[i]? = some (some (.ref a)) → G.R F H ρ σ T → PoS G W0 P F σ T D o → t a cls d D σ H
open Classical in
noncomputable def tIsF (K : PySem.W.Frag) (cv : Addr) (i : Nat) (a : Addr) (cls : Value) (d : Option Addr) : TE :=
  if h : ∃ C, cls = .ref C ∧ EcK K C then tCB (rIsF K h.choose d a) (tCons (tVar i) (tCons (tC (.ref cv)) tNil)) else tE0
theorem su_isf {k : Nat} {c : Str} {cv : Addr} {ex orl : Expr} {f : Ex → Option Cl} {sub : Ex → Bool} {P : List Nat} {q1 q2 q3 q4 q5 : Pos} {st : Stmt} (hK : ∀ j, (X j).K = G.K) (hn : ∀ j a oe pn, PE ((X j).suite a ((a, oe) :: pn)) (.Name n q2) (tVar i)) (hk : k ∉ P)
    (hg : ∀ j, Gl (X j) "isinstance") (hm : ∀ j, (X j).mg "isinstance" = none) (hgC : ∀ j, Gl (X j) c) (hmC : ∀ j, (X j).mg c = some (.ref cv)) (hcd : (c == ("__debug__" : Str)) = false)
    (hs1 : ∀ j, starEach [.Name n q2, .Name c q3] (X j).env = (false, eval (.Name n q2) (X j).env) :: starEach [.Name c q3] (X j).env) (hs2 : ∀ j, starEach [.Name c q3] (X j).env = (false, eval (.Name c q3) (X j).env) :: starEach [] (X j).env) (hpl : ∀ j, (backTo q4 (starEach [.Name c q3] (X j).env)).any (·.1) = false)
    (hst : ∀ j a oe pn te, PE ((X j).suite a ((a, oe) :: pn)) (.IfExp (.Call (.Name "isinstance" q1) [.Name n q2, .Name c q3] [] q4) ex orl q5) te → PS ((X j).suite a ((a, oe) :: pn)) st (tAsg te (gName k)))
    (hv : ∀ j a oe pn whole, isTrue (.Call (.Name "isinstance" q1) [.Name n q2, .Name c q3] [] q4) ((X j).suite a ((a, oe) :: pn)).env whole = (do let v ← whole; standAt (Expr.pos (.Call (.Name "isinstance" q1) [.Name n q2, .Name c q3] [] q4)); holding [v] (truthy v)))
    (hsub : ∀ x C, sub x = true → G.mg x.cls = some (.ref C) → EcK G.K C ∧ PySem.W.kitOne G.K (.ref C) (.ref cv) = some true)
    (ha : SE G X i ex f) (hb : ∃ t, ∀ j a oe pn, PE ((X j).suite a ((a, oe) :: pn)) orl t) : SU G X P i [st] (fSu k sub f) := by
  obtain ⟨t, h1, h2⟩ := ha
  obtain ⟨u, h3⟩ := hb
  refine ⟨fun a cls d => tAsg (tIf (tB (tIsF G.K cv i a cls d)) (t a cls d) u) (gName k), fun j a oe cls d pn hz hf => pss_one (hst j a oe pn _ (pe_ifExp (pt_val ?_ (hv j a oe pn)) (h1 j a oe cls d pn hz hf) (h3 j a oe pn))), ?_⟩
  · unfold tIsF
    split
    · rename_i h
      obtain ⟨m1, m2⟩ := h.choose_spec
      have m2' : EcK (X j).K h.choose := by rw [hK j]; exact m2
      have hz' : Zc (.ref h.choose) d oe := by rw [← m1]; exact hz
      have := pe_callB (x := "isinstance") (p := q1) (pos := q4) (call_isF (X := X j) (a := a) (pn := pn) m2' hz' hf) (hg j) (hm j) (by decide +kernel) (pa_cons (hn j a oe pn) (pa_cons (pe_glob (v := .ref cv) (hgC j) (hmC j) rfl hcd) pa_nil (hs2 j)) (hs1 j)) (by decide) (by decide) (hs1 j) (hpl j)
      have eK : ((X j).suite a ((a, oe) :: pn)).K = G.K := hK j
      rw [show rIsF (X j).K h.choose d a = rIsF G.K h.choose d a from by rw [hK j]] at this
      exact this
    · exact pe_no
  · intro a cls d x n o F H ρ σ T D e xr hi hR hP
    unfold fSu at e
    split at e
    · rename_i hsb
      obtain ⟨C, x1, x2, x3⟩ := id xr
      obtain ⟨m1, m2⟩ := hsub x C hsb x1
      have hex : ∃ C, cls = .ref C ∧ EcK G.K C := ⟨C, x2, m1⟩
      cases q : f x with
      | none => rw [q] at e; cases e
      | some cc =>
        rw [q] at e
        dsimp only at e
        split at e
        · rename_i hl
          cases e
          show tIsF G.K cv i a cls d σ H _
          unfold tIsF
          rw [dif_pos hex]
          obtain ⟨y1, y2⟩ := hex.choose_spec
          have eC : hex.choose = C := Value.ref.inj (y1.symm.trans x2)
          rw [eC]
          refine ⟨.ref a, hi, ?_⟩
          refine ⟨.ref cv, .ref cv, true, rfl, fun u h => h, m2, ?_, true, rfl, ?_⟩
          · rcases x3 with ⟨_, x4⟩ | ⟨dd, fvs, x4, x5, _⟩
            · exact .inl x4
            · exact .inr ⟨dd, fvs, x4, hR.sub _ _ x5⟩
          · show if true = true then _ else _
            rw [if_pos rfl]
            exact h2 a cls d x cc F H ρ σ T _ q xr hi hR fun F' H' v s' R' => hP F' H' _ s' (R'.set hl) (Kp.set hk)
        · cases e
    · cases e
end

/-! ### try -/
inductive HdX {ι : Type} (G : Gd) (X : ι → Cx) (P : List Nat) (i : Nat) (n : Str) : List ExceptHandler → List ((Ex → Option Bool) × (Ex → FS)) → Prop
  | nil : HdX G X P i n [] []
  | cons {x : Str} {cv : Addr} {sub : Ex → Option Bool} {f : Ex → FS} {b₀ : Stmt} {suite : List Stmt} {np pos' : Pos} {hds : List ExceptHandler} {l : List ((Ex → Option Bool) × (Ex → FS))} (hc : ∀ j, Names (X j) x (.ref cv))
      (hsub : ∀ e C b, sub e = some b → G.mg e.cls = some (.ref C) → PySem.W.exmOne G.K (.ref C) (.ref cv) = some b) (hsu : SU G X P i (b₀ :: suite) f) (r : HdX G X P i n hds l) :
      HdX G X P i n (.ExceptHandler (some (.Name x np)) (some n) (b₀ :: suite) pos' :: hds) ((sub, f) :: l)
def Ot.gone (i : Nat) : Ot → Option Ot
  | .nx ρ => some (.nx (ρ.set i none))
  | .rt c ρ => some (.rt c ρ)
  | .bk ρ => some (.bk (ρ.set i none))
  | .ct ρ => some (.ct (ρ.set i none))
  | .ex _ _ => none
def hdl (i : Nat) : List ((Ex → Option Bool) × (Ex → FS)) → Ex → FS
  | [], x, _, ρ => some (.ex x ρ)
  | (sub, f) :: l, x, n, ρ => match sub x with
    | some true => if i < ρ.length then (f x n (ρ.set i none)).bind (Ot.gone i) else none
    | some false => hdl i l x n ρ
    | none => none
def sTry (i : Nat) (fb : FS) (l : List ((Ex → Option Bool) × (Ex → FS))) : FS := fun n ρ => match fb n ρ with
  | some (.ex x ρ1) => hdl i l x n ρ1
  | o => o
abbrev TrI (ι : Type) := ι × List (Addr × Obj) × (Value → Shared → Prop)
abbrev trX {ι : Type} (X : ι → Cx) (W : WX) : {p : TrI ι // Takes ((X p.1).tr p.2.1 p.2.2) W ∧ PassesOwn (model (X p.1).prog (X p.1).w) (X p.1).A (X p.1).env p.2.2} → Cx := fun p => (X p.1.1).tr p.1.2.1 p.1.2.2
section
variable {ι : Type} {G : Gd} {X : ι → Cx} {W : WX} {P : List Nat} {i : Nat} {n : Str}
theorem hdx_out {hds : List ExceptHandler} {l : List ((Ex → Option Bool) × (Ex → FS))} (h : HdX G X P i n hds l) : ∃ L : List (Value × (Addr → Value → Option Addr → TS)), (∀ j, HdsAs (X j) n hds L) ∧
    ∀ (D : Ends) x cls d k ρ o F H σ T, i ∉ P → hdl i l x k ρ = some o → XR G F x cls d → G.R F H ρ σ T → PoS G W P F σ T D o → wManyAs G.K i W D L cls d σ H := by
  induction h with
  | nil => exact ⟨[], fun _ => .nil, fun D x cls d k ρ o F H σ T _ e xr hR hP => by
      cases e
      exact hP F H σ cls d (Same.refl _) hR (Kp.refl _) xr⟩
  | @cons x cv sub f b₀ suite np pos' hds l hc hsub hsu r ih =>
    obtain ⟨L, h1, h2⟩ := ih
    obtain ⟨t, h3, h4⟩ := hsu
    refine ⟨(.ref cv, t) :: L, fun j => .cons (hc j) (fun a oe cls d pn => h3 j a oe cls d pn) (h1 j), fun D x cls d k ρ o F H σ T hi e xr hR hP => ?_⟩
    obtain ⟨C, x1, x2, x3⟩ := id xr
    unfold hdl at e
    cases q : sub x with
    | none => rw [q] at e; cases e
    | some b =>
      rw [q] at e
      refine ⟨b, by rw [x2]; exact hsub x C b q x1, ?_, ?_⟩
      · rintro rfl a na
        dsimp only at e
        split at e
        · rename_i hl
          cases q2 : f x k (ρ.set i none) with
          | none => rw [q2] at e; cases e
          | some o2 =>
            rw [q2] at e
            have e : Ot.gone i o2 = some o := e
            refine h4 a cls d x k o2 F H _ _ T _ q2 xr (List.getElem?_set_self (by rw [← hR.ok.len]; exact hl)) (hR.gone i _) ?_
            cases o2 with
            | nx ρ' => cases e; exact fun F' H' σ' s' R' k' => hP F' H' _ s' (R'.gone i none) ((Kp.set hi).trans (k'.trans (Kp.set hi)))
            | rt c ρ' => cases e; exact fun F' H' σ' v s' R' k' => hP F' H' σ' v s' R' ((Kp.set hi).trans k')
            | bk ρ' => cases e; exact fun F' H' σ' s' R' k' => hP F' H' _ s' (R'.gone i none) ((Kp.set hi).trans (k'.trans (Kp.set hi)))
            | ct ρ' => cases e; exact fun F' H' σ' s' R' k' => hP F' H' _ s' (R'.gone i none) ((Kp.set hi).trans (k'.trans (Kp.set hi)))
            | ex x ρ' => cases e
        · cases e
      · rintro rfl
        exact h2 D x cls d k ρ o F H σ T hi e xr hR hP
theorem xs_try {body : List Stmt} {h₀ : ExceptHandler} {hds : List ExceptHandler} {l : List ((Ex → Option Bool) × (Ex → FS))} {pos : Pos} {fb : FS} (hK : ∀ j, (X j).K = G.K) (hs : ∀ j, (X j).stack = (X j).env :: (X j).outer) (hf : ∀ j, (X j).env.frame = some (X j).env.locals) (hN : ∀ j, (X j).N.Nodup) (hi : ∀ j, (X j).N[i]? = some n) (hln : ∀ j, (X j).env.kindOf n = some .local)
    (hiP : i ∉ P) (tk : ∀ j, Takes (X j) W) (hb : ∀ Wb, XSs G (trX X Wb) Wb P body fb) (hh : HdX G X P i n (h₀ :: hds) l) : XS G X W P (.Try body (h₀ :: hds) [] [] pos) (sTry i fb l) := by
  obtain ⟨L, h1, h2⟩ := hdx_out (W := W) hh
  refine ⟨fun D σ H => (hb (wManyAs G.K i W D L)).choose D σ H, fun j => ?_, fun k ρ o e F H σ T D hR hP => ?_⟩
  · have := ps_try_manyAs (X := X j) (pos := pos) (tb := fun W' => (hb W').choose) (hs j) (hf j) (hN j) (hi j) (hln j) (tk j) (fun W' pn xe t1 t2 => (hb W').choose_spec.1 ⟨(j, pn, xe), t1, t2⟩) (h1 j)
    rw [hK j] at this
    exact this
  · unfold sTry at e
    cases q : fb k ρ with
    | none => rw [q] at e; cases e
    | some o1 =>
      rw [q] at e
      refine (hb (wManyAs G.K i W D L)).choose_spec.2 k ρ o1 q F H σ T D hR ?_
      cases o1 with
      | ex x ρ1 => exact fun F' H' σ' cls d s' R' k' xr => h2 D x cls d k ρ1 o F' H' σ' T hiP e xr R' (hP.mono s' k')
      | nx ρ1 => cases e; exact hP
      | rt c ρ1 => cases e; exact hP
      | bk ρ1 => cases e; exact hP
      | ct ρ1 => cases e; exact hP
end
end L3

set_option maxHeartbeats 1000000
namespace L2
open PySem PySem.Spec PyProof.Rows
/-- xs[i] of a list, i counted from either end -/
theorem get_listL {X : Cx} : PGet X (rIxL X.K) := by
  rintro pins s σ H _ _ v _ Q I rx ry ⟨p, xs, i, z, rfl, rfl, hq, he, q⟩
  have ⟨t, e⟩ := ry
  cases rx
  cases e
  have ⟨its, rel, pl, _⟩ := I.list hq
  have ⟨j, ix, hz, _, lo, hi⟩ := atI_get he
  have ⟨u, hu, ru⟩ := rel.get hz
  have got : EP X pins σ Q u s := ⟨z, H, I, ru, q⟩
  have item : ∀ m, m = j → its.toArray[m]? = some u := fun m e => e ▸ (List.getElem?_toArray ..).trans hu
  have size : its.toArray.size = xs.length := rel.length.symm
  have big := line63
  rcases Int.lt_or_le i 0 with neg | pos
  · refine wpAny_getItem_list_neg pl.isList neg (size ▸ lo) (by omega) (item _ ?_) got
    rw [size]
    exact Option.some.inj ((seqIndex_neg neg lo).symm.trans ix)
  · exact wpAny_getItem_list pl.isList pos (by omega) (item _ (Option.some.inj ((seqIndex_of pos hi).symm.trans ix))) got
end L2
namespace L3
open PySem PySem.Spec L2
section
variable {ι : Type} {G : Gd} {X : ι → Cx} {W : WX} {P : List Nat} {e ie : Expr} {pos : Pos}
/-- the cell of slot k changed -/
def setIx (ρ : En) (k : Nat) (j d : D) : Option En := match (ρ[k]?).join with
  | some (.lst ds) => match j with
    | .int i => match ixN ds.length i with
      | some m => some (ρ.set k (some (.lst (ds.set m d))))
      | none => none
    | _ => none
  | _ => none
theorem setIx_ok {F H : Hp} {ρ ρ' : En} {σ : L2.St} {T : List (Cl × V)} {k : Nat} {j d : D} {vj vd o : V} (e : setIx ρ k j d = some ρ') (hR : G.R F H ρ σ T) (rj : Rp G.K F vj j) (rd : Rp G.K F vd d) (ho : σ[k]? = some (some o)) {Q : Hp → Prop} (hQ : ∀ H', G.R F H' ρ' σ T → Q H') : rSetL o vj vd H Q := by
  unfold setIx at e
  split at e
  · rename_i ds q
    split at e
    · rename_i i
      split at e
      · rename_i m qm
        cases e
        cases rj
        obtain ⟨w, h1, R'⟩ := R.take hR (join_some q)
        rw [ho] at h1
        cases h1
        obtain ⟨A, cr⟩ := R'.cr
        cases cr with
        | lst h1 h2 r =>
          refine ⟨_, _, i, m, rfl, rfl, h1, by rw [r.length]; exact qm, hQ _ ?_⟩
          have R2 : G.R F (upd H _ (.lst (_))) (ρ.set k none) σ ((.lst (ds.set m d), .ref _) :: T) :=
            .mk' (R'.hr'.mut (fun A h => by cases h; rfl) (.lst upd_same h2 (r.set m rd))) R'.ok
          have hk : k < ρ.length := (List.getElem?_eq_some_iff.mp (join_some q)).1
          have R3 := R.put R2 (c := .lst (ds.set m d)) (i := k) (by rw [List.getElem?_set_self hk]) ho
          rw [List.set_set] at R3
          exact R3
      · cases e
    · cases e
  · cases e
def sSetIx (k : Nat) (fe fi : Fn Bv) : FS := fun n ρ => bS (fFz fe n ρ) fun c ρ1 => match c with
  | .fz d => if ((ρ1[k]?).join).isSome = true then bS (fFz fi n ρ1) fun c2 ρ2 => match c2 with
    | .fz j => match setIx ρ2 k j d with
      | some ρ3 => some (.nx ρ3)
      | none => none
    | _ => none
  else none
  | _ => none
theorem slot_of {F H : Hp} {ρ : En} {σ : L2.St} {T : List (Cl × V)} {k : Nat} (hR : G.R F H ρ σ T) (h : ((ρ[k]?).join).isSome = true) : ∃ o, σ[k]? = some (some o) := by
  obtain ⟨c, hc⟩ := Option.isSome_iff_exists.mp h
  obtain ⟨v, h1, _⟩ := hR.at (join_some hc)
  exact ⟨v, h1⟩
theorem xs_setIx {k : Nat} {x : Str} {px ps : Pos} {fe fi : Fn Bv} (hx : ∀ j, PE (X j) (.Name x px) (tVar k)) (hi : XB G X W ie fi) (he : XB G X W e fe)
    (hs : ∀ j, swapsWithSole [.Subscript (.Name x px) ie ps] e pos.line (X j).env = pure false) (hw : ∀ j, swappedStores [.Subscript (.Name x px) ie ps] e (X j).env = pure none) (h1 : ∀ j, (assignEach [.Subscript (.Name x px) ie ps] (X j).env).map (·.2) = [assign (.Subscript (.Name x px) ie ps) (X j).env])
    (ha : ∀ j v, assign (.Subscript (.Name x px) ie ps) (X j).env v = (do
      let ov ← holding [v] (eval (.Name x px) (X j).env)
      let iv ← holding [v, ov] (eval ie (X j).env)
      standAt ps
      holding [v, ov, iv] (setItem ov iv v)
      release [v, ov, iv] [])) : XS G X W P (.Assign [.Subscript (.Name x px) ie ps] e pos) (sSetIx k fe fi) := by
  obtain ⟨ti, a1, a2⟩ := hi
  obtain ⟨te, b1, b2⟩ := he
  refine ⟨_, fun j => ps_asg (b1 j) (pg_sub (hx j) (a1 j) set_list (ha j)) (hs j) (hw j) (h1 j), fun n ρ o eq F H σ T D hR hP => ?_⟩
  unfold sSetIx at eq
  cases q : fFz fe n ρ with
  | none => rw [q] at eq; cases eq
  | some r1 =>
    rw [q] at eq
    refine snd_fz b2 n ρ r1 q F H σ T _ hR ?_
    cases r1 with
    | ex x ρ' => cases eq; exact hP.px
    | ok c ρ1 =>
      rw [bS_ok] at eq
      intro F1 H1 v s1 R1
      cases c with
      | fz d =>
        dsimp only at eq
        split at eq
        · rename_i hk
          obtain ⟨ov, ho⟩ := slot_of R1 hk
          refine ⟨ov, ho, ?_⟩
          cases q2 : fFz fi n ρ1 with
          | none => rw [q2] at eq; cases eq
          | some r2 =>
            rw [q2] at eq
            refine snd_fz a2 n ρ1 r2 q2 F1 H1 σ _ _ R1 ?_
            cases r2 with
            | ex x ρ' =>
              cases eq
              exact fun F' H' cls d s r xr => hP F' H' σ cls d (s1.trans s) r.tail (Kp.refl _) xr
            | ok c2 ρ2 =>
              rw [bS_ok] at eq
              intro F2 H2 v2 s2 R2
              cases c2 with
              | fz dj =>
                dsimp only at eq
                cases q3 : setIx ρ2 k dj d with
                | none => rw [q3] at eq; cases eq
                | some ρ3 =>
                  rw [q3] at eq
                  cases eq
                  refine setIx_ok q3 R2.tail.tail R2.rp R2.tail.rp ho fun H' R' => hP F2 H' σ (s1.trans s2) R' (Kp.refl _)
              | lst _ => cases eq
              | dct _ => cases eq
              | dtt _ => cases eq
              | dlk _ => cases eq
              | ins _ _ => cases eq
        · cases eq
      | lst _ => cases eq
      | dct _ => cases eq
      | dtt _ => cases eq
      | dlk _ => cases eq
      | ins _ _ => cases eq
/-! ### op= -/
def SndIp (G : Gd) (t : TIp) (g : D → D → Option D) : Prop := ∀ a b d, g a b = some d → ∀ F H va vb (Q : VK), Rp G.K F va a → Rp G.K F vb b → (∀ v, Rp G.K F v d → Q v H) → t va vb H Q
def gIp (f : Int → Int → Int) : D → D → Option D := fun a b => match a, b with
  | .int i, .int j => some (.int (f i j))
  | _, _ => none
theorem snd_ipI {f : Int → Int → Int} : SndIp G (ipI f) (gIp f) := fun a b d e F H va vb Q ra rb hQ => by
  unfold gIp at e
  split at e
  · rename_i i j
    cases e
    cases ra
    cases rb
    exact ⟨i, j, rfl, rfl, hQ _ (.int _)⟩
  · cases e
def getIx (ρ : En) (k : Nat) (j : D) : Option D := match (ρ[k]?).join with
  | some (.lst ds) => match j with
    | .int i => atI ds i
    | _ => none
  | _ => none
theorem RpA.atI {K : PySem.W.Frag} {F : Hp} {vs : List V} {ds : List D} {i : Int} {d : D} (r : RpA K F vs ds) (e : L2.atI ds i = some d) : ∃ v, L2.atI vs i = some v ∧ Rp K F v d := by
  unfold L2.atI at e ⊢
  rw [r.length]
  cases q : ixN ds.length i with
  | none => rw [q] at e; cases e
  | some j =>
    rw [q] at e
    exact r.get e
def sAugIx (k : Nat) (fi fe : Fn Bv) (g : D → D → Option D) : FS := fun n ρ => if ((ρ[k]?).join).isSome = true then bS (fFz fi n ρ) fun c ρ1 => match c with
  | .fz j => match getIx ρ1 k j with
    | some a => bS (fFz fe n ρ1) fun c2 ρ2 => match c2 with
      | .fz b => match g a b with
        | some d => match setIx ρ2 k j d with
          | some ρ3 => some (.nx ρ3)
          | none => none
        | none => none
      | _ => none
    | none => none
  | _ => none
  else none
theorem xs_augIx {k : Nat} {x : Str} {px ps : Pos} {fe fi : Fn Bv} {op : Operator} {tip : TIp} {g : D → D → Option D} (hK : ∀ i, (X i).K = G.K) (hx : ∀ j, PE (X j) (.Name x px) (tVar k)) (hi : XB G X W ie fi) (he : XB G X W e fe) (hp : ∀ j, PIp (X j) op tip) (hg : SndIp G tip g)
    (ha : ∀ ov iv new, augStore ie ov iv new = (do holding [new, ov, iv] (setItem ov iv new); release [new, ov, iv] []; pure .next)) : XS G X W P (.AugAssign (.Subscript (.Name x px) ie ps) op e pos) (sAugIx k fi fe g) := by
  obtain ⟨ti, a1, a2⟩ := hi
  obtain ⟨te, b1, b2⟩ := he
  refine ⟨_, fun j => by
    have := ps_augS (pos := pos) (tpos := ps) (hx j) (a1 j) get_listL (b1 j) (hp j) set_list ha
    rw [hK j] at this
    exact this, fun n ρ o eq F H σ T D hR hP => ?_⟩
  unfold sAugIx at eq
  split at eq
  case isFalse => cases eq
  rename_i hk
  obtain ⟨ov, ho⟩ := slot_of hR hk
  refine ⟨ov, ho, ?_⟩
  cases q : fFz fi n ρ with
  | none => rw [q] at eq; cases eq
  | some r1 =>
    rw [q] at eq
    refine snd_fz a2 n ρ r1 q F H σ T _ hR ?_
    cases r1 with
    | ex x ρ' => cases eq; exact hP.px
    | ok c ρ1 =>
      rw [bS_ok] at eq
      intro F1 H1 v s1 R1
      cases c with
      | fz dj =>
        dsimp only at eq
        cases q1 : getIx ρ1 k dj with
        | none => rw [q1] at eq; cases eq
        | some da =>
          rw [q1] at eq
          dsimp only at eq
          unfold getIx at q1
          split at q1
          case h_2 => cases q1
          rename_i ds qd
          split at q1
          case h_2 => cases q1
          rename_i i
          obtain ⟨w, g1, A, cr⟩ := R1.at (join_some qd)
          rw [ho] at g1
          cases g1
          cases cr with
          | @lst p xs _ h1 h2 r =>
            obtain ⟨va, k1, k2⟩ := r.atI q1
            have ri := R1.rp
            cases ri
            refine ⟨p, xs, i, va, rfl, rfl, .inl (.inl h1), k1, ?_⟩
            have R1 := R1.push k2
            cases q2 : fFz fe n ρ1 with
            | none => rw [q2] at eq; cases eq
            | some r2 =>
              rw [q2] at eq
              refine snd_fz b2 n ρ1 r2 q2 F1 H1 σ _ _ R1 ?_
              cases r2 with
              | ex x ρ' =>
                cases eq
                exact fun F' H' cls d s r xr => hP F' H' σ cls d (s1.trans s) r.tail.tail (Kp.refl _) xr
              | ok c2 ρ2 =>
                rw [bS_ok] at eq
                intro F2 H2 v2 s2 R2
                cases c2 with
                | fz db =>
                  dsimp only at eq
                  cases q3 : g da db with
                  | none => rw [q3] at eq; cases eq
                  | some dd =>
                    rw [q3] at eq
                    dsimp only at eq
                    cases q4 : setIx ρ2 k (.int i) dd with
                    | none => rw [q4] at eq; cases eq
                    | some ρ3 =>
                      rw [q4] at eq
                      cases eq
                      refine hg da db dd q3 F2 H2 va v2 _ (k2.mono s2) R2.rp fun v3 r3 => ?_
                      exact setIx_ok q4 R2.tail.tail.tail (.int i) r3 ho fun H' R' => hP F2 H' σ (s1.trans s2) R' (Kp.refl _)
                | lst _ => cases eq
                | dct _ => cases eq
                | dtt _ => cases eq
                | dlk _ => cases eq
                | ins _ _ => cases eq
      | lst _ => cases eq
      | dct _ => cases eq
      | dtt _ => cases eq
      | dlk _ => cases eq
      | ins _ _ => cases eq
/-- name op= e -/
def sAug (k : Nat) (fe : Fn Bv) (g : D → D → Option D) : FS := fun n ρ => match (ρ[k]?).join with
  | some (.fz a) => bS (fFz fe n ρ) fun c ρ1 => match c with
    | .fz b => match g a b with
      | some d => if k < ρ1.length then some (.nx (ρ1.set k (some (.fz d)))) else none
      | none => none
    | _ => none
  | _ => none
theorem xs_aug {k : Nat} {x : Str} {px : Pos} {fe : Fn Bv} {op : Operator} {tip : TIp} {g : D → D → Option D} (hk : k ∉ P) (hp : ∀ te, (∀ j, PE (X j) e te) → ∀ j, PS (X j) (.AugAssign (.Name x px) op e pos) (tAug k te tip)) (he : XB G X W e fe) (hg : SndIp G tip g) :
    XS G X W P (.AugAssign (.Name x px) op e pos) (sAug k fe g) := by
  obtain ⟨te, b1, b2⟩ := he
  refine ⟨_, hp te b1, fun n ρ o eq F H σ T D hR hP => ?_⟩
  unfold sAug at eq
  split at eq
  case h_2 => cases eq
  rename_i a qa
  obtain ⟨va, g1, R0⟩ := R.take hR (join_some qa)
  have ra := R0.rp
  refine ⟨va, g1, ?_⟩
  cases q2 : fFz fe n ρ with
  | none => rw [q2] at eq; cases eq
  | some r2 =>
    rw [q2] at eq
    refine snd_fz b2 n ρ r2 q2 F H σ _ _ hR ?_
    cases r2 with
    | ex x ρ' => cases eq; exact hP.px
    | ok c2 ρ2 =>
      rw [bS_ok] at eq
      intro F2 H2 v2 s2 R2
      cases c2 with
      | fz db =>
        dsimp only at eq
        cases q3 : g a db with
        | none => rw [q3] at eq; cases eq
        | some dd =>
          rw [q3] at eq
          dsimp only at eq
          split at eq
          · rename_i hl
            cases eq
            refine hg a db dd q3 F2 H2 va v2 _ (ra.mono s2) R2.rp fun v3 r3 => ?_
            exact hP F2 H2 _ s2 ((R2.tail.push r3).set hl) (Kp.set hk)
          · cases eq
      | lst _ => cases eq
      | dct _ => cases eq
      | dtt _ => cases eq
      | dlk _ => cases eq
      | ins _ _ => cases eq
end
end L3

namespace L3
open PySem PySem.Spec L2
/-! ### small checks for printed texts -/
def blkB (N : List Str) (sc scope : Scope) (own : List (Str × Nat)) : Bool :=
  (scope.kind == .function) && (scope.names.all fun y => scope.names.lookup y.1 == some y.2) && (own.all fun p => N[p.2]? == some p.1) &&
  (scope.names.all fun y => !(y.2 == .free) || (sc.names.lookup y.1 == some .cell || sc.names.lookup y.1 == some .free)) &&
  (scope.names.all fun y => !(y.2 == .local || y.2 == .cell) || ((own.map (·.1)).contains y.1 || !(N.contains y.1)))
theorem nk_eq {a b : NameKind} (h : (a == b) = true) : a = b := by
  cases a <;> cases b <;> first | rfl | cases h
theorem nko_eq {a : Option NameKind} {b : NameKind} (h : (a == some b) = true) : a = some b := by
  cases a with
  | none => cases h
  | some a => exact congrArg some (nk_eq h)
theorem nko_eq' {a b : Option NameKind} (h : (a == b) = true) : a = b := by
  cases b with
  | none => cases a with
    | none => rfl
    | some _ => cases h
  | some b => exact nko_eq h
theorem sk_eq {a b : ScopeKind} (h : (a == b) = true) : a = b := by
  cases a <;> cases b <;> first | rfl | cases h
theorem nk_rfl (a : NameKind) : (a == a) = true := by cases a <;> rfl
theorem blkB_ok {N : List Str} {sc scope : Scope} {own : List (Str × Nat)} (h : blkB N sc scope own = true) : BlkOk N sc scope own := by
  unfold blkB at h
  rw [Bool.and_eq_true, Bool.and_eq_true, Bool.and_eq_true, Bool.and_eq_true] at h
  obtain ⟨⟨⟨⟨h1, h2⟩, h3⟩, h4⟩, h5⟩ := h
  refine ⟨sk_eq h1, fun y hy => nko_eq (List.all_eq_true.mp h2 y hy), fun p hp => ?_, fun y hy e => ?_, fun y hy e => ?_⟩
  · exact beq_iff_eq.mp (List.all_eq_true.mp h3 p hp)
  · have := List.all_eq_true.mp h4 y hy
    rw [e, nk_rfl, Bool.not_true, Bool.false_or, Bool.or_eq_true] at this
    rcases this with z | z
    · exact .inl (nko_eq z)
    · exact .inr (nko_eq z)
  · have := List.all_eq_true.mp h5 y hy
    have e' : (y.2 == NameKind.local || y.2 == NameKind.cell) = true := by
      rcases e with e | e <;> rw [e] <;> rfl
    rw [e', Bool.not_true, Bool.false_or, Bool.or_eq_true] at this
    rcases this with z | z
    · exact .inl (List.contains_iff_mem.mp z)
    · refine .inr fun m => ?_
      rw [List.contains_iff_mem.mpr m] at z
      cases z
def flB (fl : List Bool) (P : List Nat) : Bool := (List.range fl.length).all fun i => !(fl[i]? == some true) || P.contains i
theorem flB_ok {fl : List Bool} {P : List Nat} (h : flB fl P = true) : ∀ i, fl[i]? = some true → i ∈ P := fun i e => by
  have hi : i < fl.length := (List.getElem?_eq_some_iff.mp e).1
  have := List.all_eq_true.mp h i (List.mem_range.mpr hi)
  rw [e] at this
  simpa using this
theorem u65 {k : Nat} {A : Around} (hr : Room k A) : A.units + 65 < cLine := by
  have := hr.un
  omega
/-! ### tables of error classes -/
section
variable {G : Gd}
def tblO (l : List (Str × Bool)) : Ex → Option Bool := fun x => l.lookup x.cls
theorem tbl_c {cv : Addr} {p : Str × Bool} {l : List (Str × Bool)} (h : ∃ C, G.mg p.1 = some (.ref C) ∧ PySem.W.exmOne G.K (.ref C) (.ref cv) = some p.2) (r : ∀ p ∈ l, ∃ C, G.mg p.1 = some (.ref C) ∧ PySem.W.exmOne G.K (.ref C) (.ref cv) = some p.2) :
    ∀ x ∈ p :: l, ∃ C, G.mg x.1 = some (.ref C) ∧ PySem.W.exmOne G.K (.ref C) (.ref cv) = some x.2 := fun x hx => by
  rcases List.mem_cons.mp hx with e | hx
  · rw [e]; exact h
  · exact r x hx
theorem tbl_ok {cv : Addr} {l : List (Str × Bool)} (h : ∀ p ∈ l, ∃ C, G.mg p.1 = some (.ref C) ∧ PySem.W.exmOne G.K (.ref C) (.ref cv) = some p.2) : ∀ e C b, tblO l e = some b → G.mg e.cls = some (.ref C) → PySem.W.exmOne G.K (.ref C) (.ref cv) = some b := fun e C b q m => by
  obtain ⟨C', h1, h2⟩ := h (e.cls, b) (PySem.mem_of_lookup q)
  have h1 : G.mg e.cls = some (.ref C') := h1
  rw [m] at h1
  cases h1
  exact h2
def tblB (l : List Str) : Ex → Bool := fun x => l.contains x.cls
theorem tbs_c {cv : Addr} {p : Str} {l : List Str} (h : ∃ C, G.mg p = some (.ref C) ∧ EcK G.K C ∧ PySem.W.kitOne G.K (.ref C) (.ref cv) = some true) (r : ∀ p ∈ l, ∃ C, G.mg p = some (.ref C) ∧ EcK G.K C ∧ PySem.W.kitOne G.K (.ref C) (.ref cv) = some true) :
    ∀ x ∈ p :: l, ∃ C, G.mg x = some (.ref C) ∧ EcK G.K C ∧ PySem.W.kitOne G.K (.ref C) (.ref cv) = some true := fun x hx => by
  rcases List.mem_cons.mp hx with e | hx
  · rw [e]; exact h
  · exact r x hx
theorem tbs_ok {cv : Addr} {l : List Str} (h : ∀ p ∈ l, ∃ C, G.mg p = some (.ref C) ∧ EcK G.K C ∧ PySem.W.kitOne G.K (.ref C) (.ref cv) = some true) : ∀ x C, tblB l x = true → G.mg x.cls = some (.ref C) → EcK G.K C ∧ PySem.W.kitOne G.K (.ref C) (.ref cv) = some true := fun x C q m => by
  obtain ⟨C', h1, h2⟩ := h x.cls (List.contains_iff_mem.mp q)
  rw [m] at h1
  cases h1
  exact h2
theorem tbf_c {f : Str} {p : Str} {l : List Str} (h : ∃ C, G.mg p = some (.ref C) ∧ XfC G.K C ∧ PySem.W.findIn G.K (.ref C) f = some none) (r : ∀ p ∈ l, ∃ C, G.mg p = some (.ref C) ∧ XfC G.K C ∧ PySem.W.findIn G.K (.ref C) f = some none) :
    ∀ x ∈ p :: l, ∃ C, G.mg x = some (.ref C) ∧ XfC G.K C ∧ PySem.W.findIn G.K (.ref C) f = some none := fun x hx => by
  rcases List.mem_cons.mp hx with e | hx
  · rw [e]; exact h
  · exact r x hx
theorem tbf_ok {f : Str} {l : List Str} (h : ∀ p ∈ l, ∃ C, G.mg p = some (.ref C) ∧ XfC G.K C ∧ PySem.W.findIn G.K (.ref C) f = some none) : ∀ c C, l.contains c = true → G.mg c = some (.ref C) → XfC G.K C ∧ PySem.W.findIn G.K (.ref C) f = some none := fun c C q m => by
  obtain ⟨C', h1, h2⟩ := h c (List.contains_iff_mem.mp q)
  rw [m] at h1
  cases h1
  exact h2
end
/-! ### {} -/
section
variable {ι : Type} {G : Gd} {X : ι → Cx} {W : WX} {pos : Pos}
def fDct0 : Fn Cl := fun _ ρ => some (.ok (.dct []) ρ)
theorem xe_dct0 : XE G X W (.Dict [] [] pos) fDct0 := ⟨_, fun _ => pe_dnewK, fun n ρ r e F H σ T Q hR hP => by
  cases e
  intro p hp
  exact hP F _ _ (Same.refl _) (.mk' (hR.hr.newO hp (.dct upd_same (by
    cases q : F p with
    | none => rfl
    | some o => rw [hR.sub _ _ q] at hp; cases hp) .nil)) hR.ok)⟩
end
end L3

set_option maxHeartbeats 1000000
namespace L3
open PySem PySem.Spec L2 PyProof.Rows HT
/-! ### t[::k] of a tuple, k neither 0 nor 1 -/
/-- the place where the cut of n begins, .. -/
def stpO (k : Int) (n : Nat) : Int := (Builtin.Slice.sliceAdjust none none k n).1
/-- .. how many it takes, .. -/
def stpN (k : Int) (n : Nat) : Nat := Builtin.Slice.slicePlaces (stpO k n) (Builtin.Slice.sliceAdjust none none k n).2 k
/-- .. and which -/
def stpJ (k : Int) (n : Nat) : List Nat := (List.range (stpN k n)).map fun (j : Nat) => (stpO k n + (j : Int) * k).toNat
def stpL {α : Type} (k : Int) (xs : List α) : List α := (stpJ k xs.length).filterMap fun j => xs[j]?
theorem fm_congr {α β : Type} {f g : α → Option β} {l : List α} (h : ∀ x ∈ l, f x = g x) : l.filterMap f = l.filterMap g := by
  induction l with
  | nil => rfl
  | cons x l ih =>
    have := ih fun y hy => h y (.tail _ hy)
    simp only [List.filterMap_cons, h x (.head _), this]
theorem stpL_rev {α : Type} (xs : List α) : stpL (-1) xs = xs.reverse := by
  have o : stpO (-1) xs.length = (xs.length : Int) - 1 := rfl
  have n : stpN (-1) xs.length = xs.length := by
    show (if (-1 : Int) > 0 then _ else if (xs.length : Int) - 1 > -1 then ((xs.length : Int) - 1 - -1 - 1) / - -1 + 1 else 0).toNat = _
    split
    · contradiction
    · rw [show (- -1 : Int) = 1 from rfl, Int.ediv_one]
      split <;> omega
  unfold stpL stpJ
  rw [o, n, List.filterMap_map]
  have all : ∀ ys : List α, ys.length ≤ xs.length → (∀ (j : Nat) (h : j < ys.length), xs[((xs.length : Int) - 1 + (j : Int) * -1).toNat]? = some ys[j]) → (List.range ys.length).filterMap ((fun j => xs[j]?) ∘ fun (j : Nat) => ((xs.length : Int) - 1 + (j : Int) * -1).toNat) = ys := fun ys _ h => by
    have e : (List.range ys.length).filterMap ((fun j => xs[j]?) ∘ fun (j : Nat) => ((xs.length : Int) - 1 + (j : Int) * -1).toNat) = (List.range ys.length).filterMap fun j => ys[j]? :=
      fm_congr fun j hj => (h j (List.mem_range.mp hj)).trans (List.getElem?_eq_getElem _).symm
    rw [e]
    clear e h
    induction ys with
    | nil => rfl
    | cons y ys ih => rw [List.length_cons, List.range_succ_eq_map, List.filterMap_cons, List.filterMap_map]; exact congrArg (y :: ·) (ih (by simp at *; omega))
  have := all xs.reverse (by simp) fun j h => by
    rw [List.length_reverse] at h
    rw [List.getElem_reverse, ← List.getElem?_eq_getElem]
    congr 1
    omega
  rw [List.length_reverse] at this
  rw [this]
/-- what is picked out of two lists that belong together belongs together -/
theorem Vals.picks {vs : List V} {us : List Value} (h : Vals vs us) (js : List Nat) : Vals (js.filterMap fun j => vs[j]?) (js.filterMap fun j => us[j]?) := by
  induction js with
  | nil => exact .nil
  | cons j js ih =>
    rw [List.filterMap_cons, List.filterMap_cons]
    cases q : vs[j]? with
    | some x => have ⟨u, hu, r⟩ := h.get q; rw [hu]; exact .cons r ih
    | none =>
      have := List.getElem?_eq_none_iff.mp q
      rw [List.getElem?_eq_none (h.length ▸ this)]
      exact ih
section
variable {prog : Program} {w : World} {A : Around} {E : Value → Shared → Prop} {s : Shared}
theorem applied_cut {sl : Addr} {k : Int} {u : Tok} {n : Nat} {Q : Int × Int × Nat → Shared → Prop} (hs : s.heap.IsSliceOf sl .none .none (.int k u)) (h0 : k ≠ 0) (h : Q (stpO k n, k, stpN k n) s) :
    wpAny (model prog w) A (Builtin.Slice.sliceApplied (.ref sl) (pure (n : Int))) Q E s := by
  have ⟨o, ho, _, hd⟩ := hs
  have no : (k == 0) = false := beq_eq_false_iff_ne.mpr h0
  unfold Builtin.Slice.sliceApplied
  refine wpAny_bind (m := Builtin.Slice.sliceFields _) (wpAny_bind (wpAny_field ho hd (x := .none) rfl (wpAny_bind (wpAny_field ho hd (x := .none) rfl (wpAny_bind (wpAny_field ho hd (x := .int k u) rfl (wpAny_pure ?_)))))))
  refine wpAny_bind (slicePart_ (.int k u) ?_)
  simp only [Option.getD_some, no, Bool.false_eq_true, if_false]
  exact wpAny_bind (slicePart_ .none (wpAny_bind (slicePart_ .none (wpAny_bind (wpAny_pure (wpAny_pure h))))))
theorem meets_cut (t sl : Addr) (items : Array Value) (k : Int) (u : Tok) (h0 : k ≠ 0) (h1 : k ≠ 1) (hz : (stpL k items.toList).length ≤ sizeLine) :
    Meets (Builtin.«tuple.__getitem__» ⟨[.ref t, .ref sl], []⟩) (fun _ R s => IsTup s.heap t items ∧ s.heap.IsSliceOf sl .none .none (.int k u) ∧
      R (.ok (.ret (.ref s.heap.objs.size))) { s with heap := s.heap.push { cls := .type "tuple", data := .seq (stpL k items.toList).toArray } }) :=
  .of_wp fun prog w A R s ⟨ht, hs, h⟩ => by
    have is : s.TypeIs (.ref sl) "slice" := hs.imp fun _ z => ⟨z.1, z.2.1⟩
    unfold Builtin.«tuple.__getitem__»
    wp_walk using tupleItemsOf_ ht, wpAny_typeOf is, applied_cut hs h0
    have took : ((List.range (stpN k items.size)).filterMap fun (j : Nat) => items[(stpO k items.size + (j : Int) * k).toNat]?).toArray = (stpL k items.toList).toArray := by
      unfold stpL stpJ
      rw [List.filterMap_map]
      exact congrArg List.toArray (fm_congr fun j _ => (Array.getElem?_toList ..).symm)
    rw [took]
    refine wpAny_ite_false (decide_eq_false (by rw [List.size_toArray]; omega)) ?_
    wp_walk
    exact ⟨_, rfl, h⟩
end
/-- a[::k], the step read by tk: z is what the reading says of the thing and the step -/
theorem pe_stp {X : Cx} {e ek : Expr} {te : TE} {tk : TE} {p3 pos : Pos} {r : V → L2.St → Hp → VK → Prop} {z : V → Option Int → Hp → VK → Prop} (hr : ∀ x σ H Q, r x σ H Q → tPart tk σ H fun o H2 => z x o H2 Q)
    (hz : ∀ x o H Q, z x o H Q → ∃ a xs k, x = .ref a ∧ o = some k ∧ k ≠ 0 ∧ k ≠ 1 ∧ (stpL k xs).length ≤ xs.length ∧ SqT X.K H a xs ∧ ∀ p, H p = none → Q (.ref p) (upd H p (.tup (stpL k xs)))) (he : PE X e te) (hk : PE X ek tk) :
    PE X (.Subscript e (.Slice none none (some ek) p3) pos) (fun σ H Q => te σ H fun x H1 => r x σ H1 Q) where
  run pins s σ H Q I h := Subscript_ (thn (he.run pins s σ H _ I h) fun v s1 c => by
    have ⟨x, H1, J, rel, q⟩ := c
    refine wpAny_Slice ?_
    rw [evalPart_none]
    refine wpAny_pure (wpAny_pure (thn ((po_some hk).run pins s1 σ H1 _ J (hr x σ H1 Q q)) fun vs s2 c => ?_))
    have ⟨o, H2, L, part, q⟩ := c
    have ⟨a, xs, k, ex, eo, k0, k1, fit, at_, fin⟩ := hz x o H2 Q q
    clear q
    cases ex
    cases rel
    cases eo
    cases part with | int _ u => ?_
    have N := L.kept (t' := s2.toks) (h' := s2.heap.push { cls := .type "slice", data := .fields #[.none, .none, .int k u] }) fun _ _ z => Heap.get?_push_of_some _ z
    have ⟨its, rs, tup, room⟩ := N.tuple at_
    have len := rs.length
    have same : Vals (stpL k xs) (stpL k its) := by unfold stpL; rw [len]; exact Vals.picks rs _
    have le := same.length
    refine tail_any (ops := [.ref a, .ref s2.heap.objs.size]) tup.typeIs PyProof.Rows.slot_tuple_getitem.lookup (getItem_meets tup.typeIs (by decide) PyProof.Rows.slot_tuple_getitem entry_tuple_getitem (args_tuple_getitem _ _)
      (meets_cut a _ its.toArray k u k0 k1 (le ▸ Nat.le_trans fit room)) ⟨tup, Heap.IsSliceOf.new .., ?_⟩) (by with_unfolding_all rfl)
    exact ⟨.ref _, _, N.laid (t' := s2.toks) (o := .tup (stpL k xs)) (fun _ _ z => Heap.get?_push_of_some _ z) (Nat.le_refl _) ⟨Nat.le_trans fit room, _, same, IsTup.new _ _⟩, rfl, fin _ (N.hok.fresh (Nat.le_refl _))⟩)
/-! ### t[::-1] -/
def tRevA (K : PySem.W.Frag) (te : TE) : TE := fun σ H Q => te σ H fun x H1 => ∃ a xs, x = .ref a ∧ SqT K H1 a xs ∧ ∀ p, H1 p = none → Q (.ref p) (upd H1 p (.tup xs.reverse))
theorem pe_revA {X : Cx} {e : Expr} {te : TE} {k : Nat} {p1 p2 p3 pos : Pos} (he : PE X e te) : PE X (.Subscript e (.Slice none none (some (.UnaryOp .USub (.Constant (.int 1) k p1) p2)) p3) pos) (tRevA X.K te) :=
  pe_stp (tk := tUn (rU fun i => .int (-i)) (tC (.int 1))) (r := fun x _ H Q => ∃ a xs, x = .ref a ∧ SqT X.K H a xs ∧ ∀ p, H p = none → Q (.ref p) (upd H p (.tup xs.reverse))) (z := fun x o H Q => o = some (-1) ∧ ∃ a xs, x = .ref a ∧ SqT X.K H a xs ∧ ∀ p, H p = none → Q (.ref p) (upd H p (.tup xs.reverse)))
    (fun _ _ _ _ q => ⟨1, rfl, -1, rfl, rfl, q⟩) (fun _ _ _ _ ⟨eo, a, xs, ex, h, q⟩ => ⟨a, xs, -1, ex, eo, by decide, by decide, by rw [stpL_rev, List.length_reverse] <;> exact Nat.le_refl _, h, by rw [stpL_rev]; exact q⟩) he (pe_un un_neg pe_int)
section
variable {ι : Type} {G : Gd} {X : ι → Cx} {W : WX} {e : Expr} {es : List Expr} {pos : Pos}
def fRevT (f : Fn Bv) : Fn Cl := fun n ρ => bnd (fFz f n ρ) fun c ρ1 => match c with
  | .fz (.tuple ds) => some (.ok (.fz (.tuple ds.reverse)) ρ1)
  | _ => none
theorem xe_revT {f : Fn Bv} {k : Nat} {p1 p2 p3 : Pos} (hK : ∀ i, (X i).K = G.K) (h : XB G X W e f) : XE G X W (.Subscript e (.Slice none none (some (.UnaryOp .USub (.Constant (.int 1) k p1) p2)) p3) pos) (fRevT f) := by
  obtain ⟨t, h1, h2⟩ := h
  refine ⟨_, fun i => by
    have := pe_revA (k := k) (p1 := p1) (p2 := p2) (p3 := p3) (pos := pos) (h1 i)
    rw [hK i] at this
    exact this, fun n ρ r eq F H σ T' Q hR hP => ?_⟩
  unfold fRevT at eq
  cases q : fFz f n ρ with
  | none => rw [q] at eq; cases eq
  | some r1 =>
    rw [q] at eq
    refine snd_fz h2 n ρ r1 q F H σ T' _ hR ?_
    cases r1 with
    | ex x ρ' => cases eq; exact hP
    | ok c ρ1 =>
      rw [bnd_ok] at eq
      intro F1 H1 v s1 R1
      split at eq
      · rename_i ds
        cases eq
        have r := R1.rp
        cases r with
        | tup hq ra =>
          refine ⟨_, _, rfl, sameT R1.sub hq, fun p hp => ?_⟩
          obtain ⟨s2, R2⟩ := R1.tail.newTup hp ra.reverse
          exact hP _ _ _ (s1.trans s2) R2
      · cases eq
/-! ### isinstance(x, (T1, T2)) -/
def isiD2 (T U : String) (d : D) : Option Bool := match tyD d with
  | some S => match kitB S T with
    | some true => some true
    | some false => kitB S U
    | none => none
  | none => none
theorem kitAny2 {K : PySem.W.Frag} {S T U : String} {b : Bool} (h : (match kitB S T with
    | some true => some true
    | some false => kitB S U
    | none => none) = some b) : PySem.W.kitAny K (.type S) [.type T, .type U] = some b := by
  cases q : kitB S T with
  | none => rw [q] at h; cases h
  | some c =>
    rw [q] at h
    have e1 := kit_ty (K := K) q
    unfold PySem.W.kitAny
    rw [e1]
    cases c with
    | true => cases h; rfl
    | false =>
      have e2 := kit_ty (K := K) h
      dsimp only
      unfold PySem.W.kitAny
      rw [e2]
      cases b <;> rfl
def fIsi2 (T U : String) (f : Fn Bv) : Fn Cl := fun n ρ => bnd (fFz f n ρ) fun c ρ1 => match c with
  | .fz d => match isiD2 T U d with
    | some b => some (.ok (.fz (.bool b)) ρ1)
    | none => none
  | _ => none
theorem xe_isi2 {T U : String} {x y : Str} {p p2 p3 p4 : Pos} {k : Nat} {f : Fn Bv} (hK : ∀ i, (X i).K = G.K) (hg : ∀ i, Gl (X i) "isinstance") (hm : ∀ i, (X i).mg "isinstance" = none) (hgT : ∀ i, Gl (X i) x) (hmT : ∀ i, (X i).mg x = none) (hv : bootBuiltins x = some (.type T)) (hx : x ≠ "__name__") (hxd : (x == ("__debug__" : Str)) = false)
    (hgU : ∀ i, Gl (X i) y) (hmU : ∀ i, (X i).mg y = none) (hvU : bootBuiltins y = some (.type U)) (hxU : y ≠ "__name__") (hxdU : (y == ("__debug__" : Str)) = false) (ha : XB G X W e f)
    (hs1 : ∀ i, starEach [e, .Tuple [.Name x p2, .Name y p3] k p4] (X i).env = (false, eval e (X i).env) :: starEach [.Tuple [.Name x p2, .Name y p3] k p4] (X i).env) (hs2 : ∀ i, starEach [.Tuple [.Name x p2, .Name y p3] k p4] (X i).env = (false, eval (.Tuple [.Name x p2, .Name y p3] k p4) (X i).env) :: starEach [] (X i).env)
    (hpl : ∀ i, (backTo pos (starEach [.Tuple [.Name x p2, .Name y p3] k p4] (X i).env)).any (·.1) = false) (hs3 : ∀ i, starEach [.Name x p2, .Name y p3] (X i).env = (false, eval (.Name x p2) (X i).env) :: starEach [.Name y p3] (X i).env) (hs4 : ∀ i, starEach [.Name y p3] (X i).env = (false, eval (.Name y p3) (X i).env) :: starEach [] (X i).env) :
    XE G X W (.Call (.Name "isinstance" p) [e, .Tuple [.Name x p2, .Name y p3] k p4] [] pos) (fIsi2 T U f) := by
  obtain ⟨t, h1, h2⟩ := ha
  refine ⟨_, fun i => by
    have := pe_callB (x := "isinstance") (p := p) (pos := pos) call_isiT (hg i) (hm i) (by decide +kernel) (pa_cons (h1 i) (pa_cons (pe_tup (x1 := k) (pos := p4) (pa_cons (pe_bltn (v := .ty T) (hgT i) (hmT i) hv rfl hx hxd) (pa_cons (pe_bltn (v := .ty U) (hgU i) (hmU i) hvU rfl hxU hxdU) pa_nil (hs4 i)) (hs3 i))) pa_nil (hs2 i)) (hs1 i)) (by decide) (by decide) (hs1 i) (hpl i)
    rw [hK i] at this
    exact this, fun n ρ r eq F H σ T' Q hR hP => ?_⟩
  unfold fIsi2 at eq
  cases q : fFz f n ρ with
  | none => rw [q] at eq; cases eq
  | some r1 =>
    rw [q] at eq
    refine snd_fz h2 n ρ r1 q F H σ T' _ hR ?_
    cases r1 with
    | ex x ρ' => cases eq; exact hP
    | ok c ρ1 =>
      rw [bnd_ok] at eq
      intro F1 H1 v s1 R1
      split at eq
      · rename_i d
        split at eq
        · rename_i b qb
          cases eq
          refine ⟨by show (2 : Nat) ≤ sizeLine; decide, fun tp ntp => ?_⟩
          obtain ⟨s2, q2⟩ := R1.tail.hr.newF (o := .tup [.ty T, .ty U]) ntp
          have R2 : G.R (upd F1 tp (.tup [.ty T, .ty U])) (upd H1 tp (.tup [.ty T, .ty U])) ρ1 σ T' := ⟨q2, R1.ok⟩
          obtain ⟨S, q1, q3⟩ := ty_of (R1.rp.mono (s2.trans R2.sub))
          unfold isiD2 at qb
          rw [q1] at qb
          exact ⟨v, tp, [.ty T, .ty U], _, [.type T, .type U], b, rfl, upd_same, .cons (.ty T) (.cons (.ty U) .nil), q3, kitAny2 qb, hP _ _ _ (s1.trans s2) (R2.push (.bl b))⟩
        · cases eq
      · cases eq
end
end L3

set_option maxHeartbeats 1000000
namespace L3
open PySem PySem.Spec L2 PyProof.Rows
/-! ### x.m(e, ..), x a slot's cell -/
section
variable {ι : Type} {G : Gd} {X : ι → Cx} {W : WX} {e : Expr} {es : List Expr} {pos : Pos}
def fMth (ok : Cl → Bool) (k : Nat) (f : Fn (List Bv)) (g : Cl → List D → Option (D × Cl)) : Fn Cl := fun n ρ => match (ρ[k]?).join with
  | some c0 => if ok c0 = true then bnd (fFzs f n ρ) fun as ρ1 => match (ρ1[k]?).join with
    | some c => match g c as with
      | some (d, c') => some (.ok (.fz d) (ρ1.set k (some c')))
      | none => none
    | none => none
  else none
  | none => none
def SndM (G : Gd) (T : String) (ok : Cl → Bool) (r : V → List V → Hp → VK → Prop) (g : Cl → List D → Option (D × Cl)) : Prop :=
  (∀ c v F H A, ok c = true → Same F H → G.CR F H c v A → tyV G.K T v H) ∧
  ∀ c as d c', g c as = some (d, c') → ∀ F H L v ws (Q : VK), G.HR F H ((c, v) :: L) → RpA G.K F ws as → (∀ F' H' u, Same F F' → G.HR F' H' ((c', v) :: (.fz d, u) :: L) → Q u H') → r v ws H Q
theorem snd_mth {T : String} {ok : Cl → Bool} {k : Nat} {t : TA} {f : Fn (List Bv)} {r : V → List V → Hp → VK → Prop} {g : Cl → List D → Option (D × Cl)} (ht : SndBs G W t f) (hs : SndM G T ok r g) : SndE G W (tBM G.K T r (tVar k) t) (fMth ok k f g) := fun n ρ rr eq F H σ T' Q hR hP => by
  unfold fMth at eq
  split at eq
  case h_2 => cases eq
  rename_i c0 q0
  split at eq
  case isFalse => cases eq
  rename_i hok
  obtain ⟨v, hv, A, cr⟩ := hR.at (join_some q0)
  refine ⟨v, hv, hs.1 c0 v F H A hok hR.sub cr, ?_⟩
  cases q : fFzs f n ρ with
  | none => rw [q] at eq; cases eq
  | some r1 =>
    rw [q] at eq
    refine snd_fzs ht n ρ r1 q F H σ T' _ hR ?_
    cases r1 with
    | ex x ρ' => cases eq; exact hP
    | ok as ρ1 =>
      rw [bnd_ok] at eq
      intro F1 H1 ws s1 R1 ra
      split at eq
      case h_2 => cases eq
      rename_i c q1
      split at eq
      case h_2 => cases eq
      rename_i d c' q2
      cases eq
      obtain ⟨w, hw, R2⟩ := R.take R1 (join_some q1)
      rw [hv] at hw
      cases hw
      refine hs.2 c as d c' q2 F1 H1 _ v ws _ R2.hr' ra fun F' H' u s2 hr => ?_
      have hk : k < ρ1.length := (List.getElem?_eq_some_iff.mp (join_some q1)).1
      have R3 : G.R F' H' (ρ1.set k none) σ ((c', v) :: (.fz d, u) :: T') := by
        refine ⟨hr.perm ?_, R2.ok⟩
        have p1 : (eL (ρ1.set k none) σ ++ (c', v) :: (Cl.fz d, u) :: T').Perm ((c', v) :: (Cl.fz d, u) :: (eL (ρ1.set k none) σ ++ T')) :=
          (mid _ _ _).trans (List.Perm.cons _ (mid _ _ _))
        exact p1.symm
      have R4 := R.put R3 (c := c') (i := k) (by rw [List.getElem?_set_self hk]) hv
      rw [List.set_set] at R4
      exact hP F' H' u (s1.trans s2) R4
theorem xe_mth {T : String} {ok : Cl → Bool} {k : Nat} {x m : Str} {p1 p2 : Pos} {f : Fn (List Bv)} {r : V → List V → Hp → VK → Prop} {g : Cl → List D → Option (D × Cl)} (hK : ∀ i, (X i).K = G.K) (hp : ∀ t, (∀ j, PA (X j) (e :: es) t) → ∀ j, PE (X j) (.Call (.Attribute (.Name x p1) m p2) (e :: es) [] pos) (tBM (X j).K T r (tVar k) t)) (hs : SndM G T ok r g) (h : XBs G X W (e :: es) f) :
    XE G X W (.Call (.Attribute (.Name x p1) m p2) (e :: es) [] pos) (fMth ok k f g) := by
  obtain ⟨t, h1, h2⟩ := h
  exact ⟨_, fun i => by have := hp t h1 i; rw [hK i] at this; exact this, snd_mth h2 hs⟩
/-! ### lists' methods -/
def isL : Cl → Bool
  | .lst _ => true
  | _ => false
theorem isL_ty : ∀ c v F H A, isL c = true → Same F H → G.CR F H c v A → tyV G.K "list" v H := fun c v F H A h s cr => by
  cases cr with
  | lst h1 h2 r => exact .inl ⟨rfl, _, .inl (.inl h1)⟩
  | fz _ => cases h
  | dct _ _ _ => cases h
  | dtt _ _ _ => cases h
  | dlk _ _ => cases h
  | ins _ _ _ _ _ => cases h
def gApp : Cl → List D → Option (D × Cl)
  | .lst ds, [d] => if Nat.ble ds.length 10000000 = true then some (.none, .lst (ds ++ [d])) else none
  | _, _ => none
theorem sm_app : SndM G "list" isL rAppend gApp := ⟨isL_ty, fun c as d c' eq F H L v ws Q hr ra hQ => by
  unfold gApp at eq
  split at eq
  case h_2 => cases eq
  rename_i ds y
  split at eq
  case isFalse => cases eq
  rename_i hl
  cases eq
  obtain ⟨A, cr⟩ := hr.head
  cases cr with
  | lst h1 h2 r =>
    cases ra with
    | cons ry ra =>
      cases ra
      have hl := Nat.le_of_ble_eq_true hl
      refine ⟨_, _, _, rfl, rfl, h1, by rw [r.length, sizeLine_eq]; omega, hQ F _ .non (Same.refl _) ?_⟩
      have h3 := hr.mut (c' := .lst (ds ++ [y])) (fun A h => by cases h; rfl) (.lst upd_same h2 (r.append (.cons ry .nil)))
      exact (HR.push h3 .non).swap⟩
/-! ### in, not in -/
def flatD : D → Bool
  | .none => true
  | .bool _ => true
  | .int _ => true
  | .str _ => true
  | _ => false
theorem flat_rp {K : PySem.W.Frag} {F : Hp} {v : V} {d : D} (h : Rp K F v d) (hd : flatD d = true) : flatV v = true := by
  cases h <;> first | rfl | cases hd
theorem flat_rpA {K : PySem.W.Frag} {F : Hp} : ∀ {vs : List V} {ds : List D}, RpA K F vs ds → ds.all flatD = true → vs.all flatV = true
  | _, _, .nil, _ => rfl
  | _, _, .cons h r, hd => by
    rw [List.all_cons, Bool.and_eq_true] at hd ⊢
    exact ⟨flat_rp h hd.1, flat_rpA r hd.2⟩
theorem eqV_rp {K : PySem.W.Frag} {F : Hp} {v w : V} {d e : D} (h : Rp K F v d) (h' : Rp K F w e) (hd : flatD d = true) (he : flatD e = true) : eqV v w = PyData.eqv d e := by
  cases h <;> first | (cases hd; done) | (cases h' <;> first | (cases he; done) | (simp only [PyData.eqv]; rfl))
theorem inV_rp {K : PySem.W.Frag} {F : Hp} {v : V} {d : D} (h : Rp K F v d) (hd : flatD d = true) : ∀ {vs : List V} {ds : List D}, RpA K F vs ds → ds.all flatD = true → inV v vs = ds.any fun z => PyData.eqv z d
  | _, _, .nil, _ => rfl
  | _, _, .cons h' r, he => by
    rw [List.all_cons, Bool.and_eq_true] at he
    show (eqV _ v || inV v _) = _
    rw [eqV_rp h' h he.1 hd, inV_rp h hd r he.2]; rfl
def seqD (c : Cl) : Option (List D) := match c.data with
  | some (.list ds) => some ds
  | some (.tuple ds) => some ds
  | _ => none
/-- neg: not in -/
def gIn (neg : Bool) : List Cl → Option Cl
  | [.fz d, c] => match seqD c with
    | some ds => if (flatD d && ds.all flatD) = true then some (.fz (.bool (if neg = true then !(ds.any fun z => PyData.eqv z d) else ds.any fun z => PyData.eqv z d))) else
      match c.data with
      | some (.list ds) => if (SeqAt.shaped d && SeqAt.shaped (.list ds)) = true then some (.fz (.bool (if neg = true then !(ds.any fun z => PyData.eqv z d) else ds.any fun z => PyData.eqv z d))) else none
      | _ => none
    | none => none
  | _ => none
def rInA (K : PySem.W.Frag) (neg : Bool) : R2 := fun x y H Q => rIn K neg x y H Q ∨ (if neg = true then rNotInD K x y H Q else rInD K x y H Q)
theorem op_inA {Y : Cx} (hu : Y.A.units + 65 < cLine) : OpR Y (compareOp .In) (rInA Y.K false) := by
  intro pins s σ H x y v u Q I rx ry h
  rcases h with h | h
  · exact op_in_seq pins s σ H x y v u Q I rx ry h
  · exact op_inD hu pins s σ H x y v u Q I rx ry h
theorem op_notInA {Y : Cx} (hu : Y.A.units + 65 < cLine) : OpR Y (compareOp .NotIn) (rInA Y.K true) := by
  intro pins s σ H x y v u Q I rx ry h
  rcases h with h | h
  · exact op_notIn_seq pins s σ H x y v u Q I rx ry h
  · exact op_notInD hu pins s σ H x y v u Q I rx ry h
theorem prm_in {neg : Bool} : Prm G (l2 (rInA G.K neg)) (gIn neg) := fun F H L cs vs c Q hr hc e hQ => by
  unfold gIn at e
  split at e
  case h_2 => cases e
  rename_i d cc
  obtain ⟨v1, v2, A1, A2, rfl, h1, h2⟩ := crs2 hc
  have r1 := h1.rpF rfl
  split at e
  case h_2 => cases e
  rename_i ds q
  split at e
  · rename_i hz
    rw [Bool.and_eq_true] at hz
    cases e
    unfold seqD at q
    split at q
    · rename_i q1
      cases q
      obtain ⟨a, ws, rfl, s1, ra⟩ := h2.seqL hr.sub q1
      refine .inl ⟨a, ws, rfl, .inl s1, flat_rp r1 hz.1, flat_rpA ra hz.2, ?_⟩
      rw [inV_rp r1 hz.1 ra hz.2]
      exact hQ F H _ (Same.refl _) (hr.push (.bl _))
    · rename_i q1
      cases q
      obtain ⟨a, ws, rfl, s1, ra⟩ := h2.seqT hr.sub q1
      refine .inl ⟨a, ws, rfl, .inr (sameT hr.sub s1), flat_rp r1 hz.1, flat_rpA ra hz.2, ?_⟩
      rw [inV_rp r1 hz.1 ra hz.2]
      exact hQ F H _ (Same.refl _) (hr.push (.bl _))
    · cases q
  · split at e
    · rename_i ds' q1
      split at e
      · rename_i hz
        rw [Bool.and_eq_true] at hz
        cases e
        have d1 := (h1.rp hr.sub rfl).dp (SeqAt.canLay_of_shaped hz.1)
        have d2 := (h2.rp hr.sub q1).dp (SeqAt.canLay_of_shaped hz.2)
        refine .inr ?_
        cases neg with
        | true =>
          rw [if_pos rfl]
          exact ⟨d, ds', d1, d2, hz.1, hz.2, hQ F H _ (Same.refl _) (hr.push (.bl _))⟩
        | false =>
          rw [if_neg Bool.false_ne_true]
          exact ⟨d, ds', d1, d2, hz.1, hz.2, hQ F H _ (Same.refl _) (hr.push (.bl _))⟩
      · cases e
    · cases e
end
end L3
namespace L3
open PySem PySem.Spec L2 PyProof.Rows
/-! ### a, b = x, y, where the two stores are not swapped: a tuple is made and taken apart -/
section
variable {ι : Type} {G : Gd} {X : ι → Cx} {W : WX} {P : List Nat}
theorem xs_parU {i j : Nat} {a b : Expr} {f g : Fn Cl} {st : Stmt} (hi : i ∉ P) (hj : j ∉ P) (hp : ∀ t u, (∀ j, PE (X j) a t) → (∀ j, PE (X j) b u) → ∀ k, PS (X k) st (tAsg (tTup (tCons t (tCons u tNil))) (gTup (X k).K 2 (gCons (gName i) (gCons (gName j) gNil))))) (hK : ∀ i, (X i).K = G.K) (h : XE G X W a f) (h' : XE G X W b g) : XS G X W P st (sPar i j f g) := by
  obtain ⟨t, h1, h2⟩ := h
  obtain ⟨u, h3, h4⟩ := h'
  refine ⟨_, fun k => by have := hp t u h1 h3 k; rw [hK k] at this; exact this, fun n ρ o e F H σ T D hR hP => ?_⟩
  unfold sPar at e
  cases q : f n ρ with
  | none => rw [q] at e; cases e
  | some r1 =>
    rw [q] at e
    refine h2 n ρ r1 q F H σ T _ hR ?_
    cases r1 with
    | ex x ρ' => cases e; exact hP.px
    | ok c ρ1 =>
      rw [bS_ok] at e
      intro F1 H1 v s1 R1
      cases q2 : g n ρ1 with
      | none => rw [q2] at e; cases e
      | some r2 =>
        rw [q2] at e
        refine h4 n ρ1 r2 q2 F1 H1 σ _ _ R1 ?_
        cases r2 with
        | ex x ρ' =>
          cases e
          exact fun F' H' cls d s r q => hP.px F' H' cls d (s1.trans s) r.tail q
        | ok d ρ2 =>
          rw [bS_ok] at e
          intro F2 H2 w s2 R2
          split at e
          · rename_i hl
            cases e
            refine ⟨by show (2 : Nat) ≤ sizeLine; decide, fun p np => ?_⟩
            obtain ⟨s3, q3⟩ := R2.hr.newF (o := .tup [v, w]) np
            refine ⟨p, [v, w], rfl, .inl (.inl upd_same), rfl, v, [w], rfl, w, [], rfl, rfl, ?_⟩
            refine hP (upd F2 p (.tup [v, w])) _ _ ((s1.trans s2).trans s3) ?_ ((Kp.set hi).trans (Kp.set hj))
            have R2' : G.R (upd F2 p (.tup [v, w])) (upd H2 p (.tup [v, w])) ρ2 σ ((d, w) :: (c, v) :: T) := ⟨q3, R2.ok⟩
            have R3 := R2'.swap.set (i := i) hl.1
            exact R3.set (by rw [List.length_set]; exact hl.2)
          · cases e
theorem xs_parA {i j : Nat} {a b : Expr} {f g : Fn Cl} {x y : Str} {px py pt pt2 pos : Pos} {kt k2 : Nat} (hi : i ∉ P) (hj : j ∉ P) (hK : ∀ i, (X i).K = G.K)
    (hp : (∀ t u, (∀ j, PE (X j) a t) → (∀ j, PE (X j) b u) → ∀ k, PS (X k) (.Assign [.Tuple [.Name x px, .Name y py] kt pt] (.Tuple [a, b] k2 pt2) pos) (tPar i j (tCons t (tCons u tNil)))) ∨ (∀ t u, (∀ j, PE (X j) a t) → (∀ j, PE (X j) b u) → ∀ k, PS (X k) (.Assign [.Tuple [.Name x px, .Name y py] kt pt] (.Tuple [a, b] k2 pt2) pos) (tAsg (tTup (tCons t (tCons u tNil))) (gTup (X k).K 2 (gCons (gName i) (gCons (gName j) gNil))))))
    (h : XE G X W a f) (h' : XE G X W b g) : XS G X W P (.Assign [.Tuple [.Name x px, .Name y py] kt pt] (.Tuple [a, b] k2 pt2) pos) (sPar i j f g) := by
  rcases hp with hp | hp
  · exact xs_par hi hj hp h h'
  · exact xs_parU hi hj hp hK h h'
end
end L3

set_option maxHeartbeats 1000000
namespace L3
open PySem PySem.Spec L2 PyProof.Rows
/-! ### dict comprehensions -/
def putD {κ : Type} [DecidableEq κ] (es : List (κ × D)) (k : κ) (d : D) : List (κ × D) :=
  if (es.any fun kv => decide (kv.1 = k)) = true then es.map (fun kv => if kv.1 = k then (kv.1, d) else kv) else es ++ [(k, d)]
theorem any_ks {K : PySem.W.Frag} {F : Hp} {κ : Type} [DecidableEq κ] (k : κ) : ∀ {kvs : List (κ × V)} {es : List (κ × D)}, RpKs K F kvs es → (kvs.any fun kv => decide (kv.1 = k)) = es.any fun kv => decide (kv.1 = k)
  | _, _, .nil => rfl
  | _, _, .cons h r => by
    rw [List.any_cons, List.any_cons, any_ks k r]
theorem map_ks {K : PySem.W.Frag} {F : Hp} {κ : Type} [DecidableEq κ] {k : κ} {v : V} {d : D} (h : Rp K F v d) : ∀ {kvs : List (κ × V)} {es : List (κ × D)}, RpKs K F kvs es → RpKs K F (kvs.map fun kv => if kv.1 = k then (kv.1, v) else kv) (es.map fun kv => if kv.1 = k then (kv.1, d) else kv)
  | _, _, .nil => .nil
  | _, _, .cons (k := k') h' r => by
    rw [List.map_cons, List.map_cons]
    by_cases e : k' = k
    · rw [if_pos e, if_pos e]
      exact .cons h (map_ks h r)
    · rw [if_neg e, if_neg e]
      exact .cons h' (map_ks h r)
theorem putD_rp {K : PySem.W.Frag} {F : Hp} {κ : Type} [DecidableEq κ] {kvs : List (κ × V)} {es : List (κ × D)} (r : RpKs K F kvs es) (k : κ) {v : V} {d : D} (h : Rp K F v d) : RpKs K F (putK kvs k v) (putD es k d) := by
  unfold putK putD
  rw [any_ks k r]
  split
  · exact map_ks h r
  · exact r.append (.cons h .nil)
theorem RpKs.len {K : PySem.W.Frag} {F : Hp} {κ : Type} : ∀ {kvs : List (κ × V)} {es : List (κ × D)}, RpKs K F kvs es → kvs.length = es.length
  | _, _, .nil => rfl
  | _, _, .cons _ r => congrArg (· + 1) (RpKs.len r)
theorem putD_len {κ : Type} [DecidableEq κ] (es : List (κ × D)) (k : κ) (d : D) : (putD es k d).length ≤ es.length + 1 := by
  unfold putD
  split
  · rw [List.length_map]; omega
  · rw [List.length_append]; exact Nat.le_refl _
def keyD : D → Option Key
  | .int i => some (.inl i)
  | .str x => some (.inr x)
  | _ => none
theorem keyD_rp {K : PySem.W.Frag} {F : Hp} {v : V} {d : D} {k : Key} (h : Rp K F v d) (e : keyD d = some k) : v = kV k := by
  cases h <;> first | (cases e; done) | (cases e; rfl)
def dcF (N : Nat) (g : FG) (t : Fn Bool) (ek ev : Fn Bv) (vs : List Nat) (n : Nat) : List D → En → List (Key × D) → Option (Rz Cl)
  | [], ρ, acc => some (.ok (.dct acc) ρ)
  | d :: ds, ρ, acc => match g d ρ with
    | some ρ2 => if ρ2.length = N then (match t n ρ2 with
      | some (.ok true ρ3) => match fFz ek n ρ3 with
        | some (.ok (.fz kd) ρ4) => match keyD kd with
          | some k => match fFz ev n ρ4 with
            | some (.ok (.fz y) ρ5) => dcF N g t ek ev vs n ds (wipR ρ5 vs) (putD acc k y)
            | _ => none
          | none => none
        | _ => none
      | some (.ok false ρ3) => dcF N g t ek ev vs n ds (wipR ρ3 vs) acc
      | _ => none) else none
    | none => none
def fDc (N : Nat) (vs : List Nat) (i : Fn (List D)) (g : FG) (t : Fn Bool) (ek ev : Fn Bv) : Fn Cl := fun n ρ => bnd (i n ρ) fun ds ρ1 =>
  if (vs.all (fun j => decide (j < N)) && decide (ρ1.length = N) && decide (ds.length ≤ 1000000)) = true then dcF N g t ek ev vs n ds (wipR ρ1 vs) [] else none
section
variable {ι : Type} {G : Gd} {X : ι → Cx} {W : WX}
theorem snd_dc {N : Nat} {vs : List Nat} {wi : TI} {tg : TG} {tt : TT} {tk tv : TE} {i : Fn (List D)} {g : FG} {t : Fn Bool} {ek ev : Fn Bv} (hi : SndI G W wi i) (hg : SndG G (outP N vs) tg g) (ht : SndT G W0 tt t) (hek : SndB G W0 tk ek) (hev : SndB G W0 tv ev) : SndE G W (tDc wi tg tt tk tv vs) (fDc N vs i g t ek ev) := fun n ρ r eq F H σ T Q hR hP => by
  unfold fDc at eq
  cases q : i n ρ with
  | none => rw [q] at eq; cases eq
  | some r1 =>
    rw [q] at eq
    refine hi n ρ r1 q F H σ T _ hR ?_
    cases r1 with
    | ex x ρ' => cases eq; exact hP
    | ok ds ρ1 =>
      rw [bnd_ok] at eq
      split at eq
      case isFalse => cases eq
      rename_i hh
      rw [Bool.and_eq_true, Bool.and_eq_true] at hh
      obtain ⟨⟨hn, hN⟩, hz⟩ := hh
      have hN := of_decide_eq_true hN
      have hn : ∀ j ∈ vs, (wipR ρ1 vs)[j]? = some none := fun j hj => wipR_at ρ1 vs j hj (by
        have := of_decide_eq_true (List.all_eq_true.mp hn j hj)
        omega)
      have hz := of_decide_eq_true hz
      intro F1 H1 J s1 R1 ok Dn hD
      have lσ : ρ1.length = σ.length := R1.ok.len
      have Rw : G.R F1 H1 (wipR ρ1 vs) (wipe σ vs) T := R1.wip vs
      have Rs : G.R F1 (upd H1 Dn (.dK [])) (wipR ρ1 vs) (wipe σ vs) ((.dct [], .ref Dn) :: T) := .mk' (Rw.hr.newO hD (.dct upd_same (Rw.sub.free hD) .nil)) Rw.ok
      refine ⟨fun k m H' => ∃ ρ' F' acc, m = ds.length - k ∧ k ≤ ds.length ∧ acc.length ≤ k ∧ Same F1 F' ∧ G.R F' H' ρ' (wipe σ vs) ((.dct acc, .ref Dn) :: T) ∧ (∀ j ∈ vs, ρ'[j]? = some none) ∧ ρ'.length = N ∧ dcF N g t ek ev vs n (ds.drop k) ρ' acc = some r,
        ⟨ds.length, wipR ρ1 vs, F1, [], by simp, Nat.zero_le _, Nat.le_refl _, Same.refl _, Rs, hn, by rw [wipR_len]; exact hN, by rw [List.drop_zero]; exact eq⟩, ?_⟩
      rintro k m H' ⟨ρ', F', acc, rfl, hk, ha, s', R', hn', hN', eo⟩
      by_cases hlt : k < ds.length
      case neg =>
        have ek' : k = ds.length := by omega
        subst ek'
        rw [List.drop_length] at eo
        cases eo
        refine .inl ⟨ok.stop F' H' _ _ s' R'.hr (Nat.le_refl _), hP F' H' _ (s1.trans s') (R'.agree (wipe_length _ _).symm fun j c hc => (wipe_out fun m => by rw [hn' j m] at hc; cases hc).symm)⟩
      rw [List.drop_eq_getElem_cons hlt] at eo
      unfold dcF at eo
      cases q1 : g ds[k] ρ' with
      | none => rw [q1] at eo; cases eo
      | some ρ2 =>
        rw [q1] at eo
        dsimp only at eo
        by_cases l2 : ρ2.length = N
        case neg => rw [if_neg l2] at eo; cases eo
        rw [if_pos l2] at eo
        refine .inr ⟨ok.go F' H' _ k s' R'.hr hlt, fun H3 => ∃ ρ3 F3 acc3, acc3.length ≤ k + 1 ∧ Same F1 F3 ∧ G.R F3 H3 ρ3 (wipe σ vs) ((.dct acc3, .ref Dn) :: T) ∧ (∀ j ∈ vs, ρ3[j]? = some none) ∧ ρ3.length = N ∧ dcF N g t ek ev vs n (ds.drop (k + 1)) ρ3 acc3 = some r, ?_, ?_⟩
        · rintro H3 ⟨ρ3, F3, acc3, ha3, s3, R3, hn3, hN3, e3⟩
          exact ⟨ds.length - (k + 1), by omega, ρ3, F3, acc3, rfl, hlt, ha3, s3, R3, hn3, hN3, e3⟩
        · intro x H2 hy
          obtain ⟨F2, s2, hr2, rx⟩ := ok.yld F' H' _ k x H2 ds[k] s' R'.hr (List.getElem?_eq_getElem hlt) hy
          refine hg ds[k] ρ' ρ2 q1 F2 H2 (wipe σ vs) _ x _ ⟨hr2, R'.ok⟩ rx fun σ4 R4 k4 => ?_
          have l4 : σ4.length = σ.length := by
            have h1 := R4.ok.len
            have h2 := R'.ok.len
            rw [wipe_length] at h2
            omega
          have w4 : wipe σ4 vs = wipe σ vs := by
            have e1 : wipe σ4 vs = wipe (wipe σ vs) vs := wipe_eq (by rw [l4, wipe_length]) fun j hj m => by
              refine k4 j (List.mem_filter.mpr ⟨List.mem_range.mpr ?_, by simp [m]⟩)
              rw [wipe_length] at hj
              omega
            rw [e1]
            exact wipe_eq (wipe_length _ _) fun j hj m => wipe_out m
          refine ⟨w4, ?_⟩
          have s02 := s'.trans s2
          have back : ∀ {ρ9 : En} {F9 H9 : Hp} {acc9 : List (Key × D)}, G.R F9 H9 ρ9 σ4 ((.dct acc9, .ref Dn) :: T) → (∀ j ∈ vs, (wipR ρ9 vs)[j]? = some none) ∧ (wipR ρ9 vs).length = N := fun {ρ9 F9 H9 acc9} R9 => by
            have h1 := R9.ok.len
            have h2 := R4.ok.len
            refine ⟨fun j hj => wipR_at ρ9 vs j hj ?_, by rw [wipR_len]; omega⟩
            have := (List.getElem?_eq_some_iff.mp (hn' j hj)).1
            omega
          cases q2 : t n ρ2 with
          | none => rw [q2] at eo; cases eo
          | some o2 =>
            rw [q2] at eo
            refine ht n ρ2 o2 q2 F2 H2 σ4 _ _ R4 ?_
            cases o2 with
            | ex x ρ3 => cases eo
            | ok b ρ3 =>
              intro F3 H3 s3 R3
              cases b with
              | false =>
                rw [if_neg Bool.false_ne_true]
                dsimp only at eo
                have Rn := R3.wip vs
                rw [w4] at Rn
                exact ⟨wipR ρ3 vs, F3, acc, Nat.le_succ_of_le ha, s02.trans s3, Rn, (back R3).1, (back R3).2, eo⟩
              | true =>
                rw [if_pos rfl]
                dsimp only at eo
                cases q3 : fFz ek n ρ3 with
                | none => rw [q3] at eo; cases eo
                | some o3 =>
                  rw [q3] at eo
                  refine snd_fz hek n ρ3 o3 q3 F3 H3 σ4 _ _ R3 ?_
                  cases o3 with
                  | ex x ρ4 => cases eo
                  | ok c ρ4 =>
                    intro F4 H4 y s4 R4'
                    cases c with
                    | lst _ => cases eo
                    | dct _ => cases eo
                    | dtt _ => cases eo
                    | dlk _ => cases eo
                    | ins _ _ => cases eo
                    | fz kd =>
                      dsimp only at eo
                      cases qk : keyD kd with
                      | none => rw [qk] at eo; cases eo
                      | some key =>
                        rw [qk] at eo
                        dsimp only at eo
                        have ey := keyD_rp R4'.rp qk
                        have R5 := R4'.tail
                        cases q4 : fFz ev n ρ4 with
                        | none => rw [q4] at eo; cases eo
                        | some o4 =>
                          rw [q4] at eo
                          refine snd_fz hev n ρ4 o4 q4 F4 H4 σ4 _ _ R5 ?_
                          cases o4 with
                          | ex x ρ5 => cases eo
                          | ok c2 ρ5 =>
                            intro F5 H5 z s5 R5'
                            cases c2 with
                            | lst _ => cases eo
                            | dct _ => cases eo
                            | dtt _ => cases eo
                            | dlk _ => cases eo
                            | ins _ _ => cases eo
                            | fz dz =>
                              dsimp only at eo
                              have rz := R5'.rp
                              have R6 := R5'.tail
                              obtain ⟨A, cr⟩ := R6.cr
                              cases cr with
                              | @dct a kvs es h1 h2 r2 =>
                                refine ⟨kvs, key, ey, h1, ?_, ?_⟩
                                · rw [r2.len]
                                  exact Nat.lt_of_le_of_lt (Nat.le_trans ha (Nat.le_trans hk hz)) tM
                                · have R7 : G.R F5 (upd H5 Dn (.dK (putK kvs key z))) ρ5 σ4 ((.dct (putD acc key dz), .ref Dn) :: T) :=
                                    .mk' (R6.hr'.mut (fun A h => by cases h; rfl) (.dct upd_same h2 (putD_rp r2 key rz))) R6.ok
                                  have Rn := R7.wip vs
                                  rw [w4] at Rn
                                  refine ⟨wipR ρ5 vs, F5, putD acc key dz, ?_, ((s02.trans s3).trans s4).trans s5, Rn, (back R7).1, (back R7).2, eo⟩
                                  have := putD_len acc key dz
                                  omega
variable {P : List Nat}
theorem xe_dc0 {kx vx tg iter : Expr} {scope : Scope} {own : List (Str × Nat)} {pos : Pos} {N : Nat} {i : Fn (List D)} {g : FG} {ek ev : Fn Bv} (hc : ∀ j, (X j).calm = true) (hN : ∀ j, (X j).N.Nodup) (hi : XI G X W tg iter i) (ok : ∀ j, BlkOk (X j).N (X j).env.scope scope own)
    (hg : XG G (blkX X scope) (outP N (own.map (·.2))) tg g) (hk : XB G (blkX X scope) W0 kx ek) (he : XB G (blkX X scope) W0 vx ev) (hs : ∀ j, ∀ x, foldedSetIterable iter (X j).env x = pure x) :
    XE G X W (.DictComp kx vx [⟨tg, iter, [], 0⟩] scope pos) (fDc N (own.map (·.2)) i g fYes ek ev) := by
  obtain ⟨wi, a1, a2⟩ := hi
  obtain ⟨tg', b1, b2⟩ := hg
  obtain ⟨tk, d1, d2⟩ := hk
  obtain ⟨te, c1, c2⟩ := he
  refine ⟨_, fun j => pe_dc (hc j) (hN j) (a1 j) (ok j) (fun s H C cl fp => b1 (j, ⟨s, H, C, cl, fp⟩)) (fun _ _ _ _ _ => pts_nil) (fun s H C cl fp => d1 (j, ⟨s, H, C, cl, fp⟩)) (fun s H C cl fp => c1 (j, ⟨s, H, C, cl, fp⟩)) (hs j), snd_dc a2 b2 (fun n ρ r e F H σ T Q hR hP => ?_) d2 c2⟩
  cases e
  exact hP F H (Same.refl _) hR
/-! ### len of a dict too -/
def gLenA : List Cl → Option Cl
  | [.dct es] => some (.fz (.int es.length))
  | cs => gLen cs
def rLenB (K : PySem.W.Frag) : List V → Hp → VK → Prop := fun xs H Q => rLenA K xs H Q ∨ ∃ a kvs, xs = [V.ref a] ∧ H a = some (.dK kvs) ∧ Q (.int kvs.length) H
theorem call_lenB {Y : Cx} : CallR Y (.builtin "len") (rLenB Y.K) := call_lenA.or call_lenD
theorem prm_lenA : Prm G (rLenB G.K) gLenA := fun F H L cs vs c Q hr hc e hQ => by
  unfold gLenA at e
  split at e
  · rename_i es
    cases e
    obtain ⟨v1, A1, rfl, h1⟩ := crs1 hc
    cases h1 with
    | dct h1 h2 r => exact .inr ⟨_, _, rfl, h1, by rw [r.len]; exact hQ F H _ (Same.refl _) (hr.push (.int _))⟩
  · exact .inl (prm_len F H L cs vs c Q hr hc e hQ)
end
end L3

set_option maxHeartbeats 1000000
namespace L2
open PySem PySem.Spec PyProof.Rows
/-- the keys of a dict at hand: it is locked from here on -/
def iKeysL (td : TE) : TI := fun σ H R => td σ H fun x H1 => ∃ d kvs, x = .ref d ∧ ((∃ o, H1 d = some (.frz o (.dK kvs)) ∧ R (Itk d o kvs) H1) ∨ (H1 d = some (.dK kvs) ∧ ∀ o, R (Itk d o kvs) (upd H1 d (.frz o (.dK kvs)))))
theorem pi_keysL {X : Cx} {tg e : Expr} {td : TE} (he : PE X e td) : PI X tg e (iKeysL td) where
  run pins s σ H R I h := thn (he.run pins s σ H _ I h) fun u s1 got => by
    have ⟨x, H1, J, rel, d, kvs, ex, q⟩ := got
    cases ex
    cases rel
    have go : ∀ {o : Obj} {H2 : Hp}, Inv X pins σ H2 s1 → H2 d = some (.frz o (.dK kvs)) → R (Itk d o kvs) H2 → wpAny (model X.prog X.w) X.A (pyIter (.ref d)) (PIE X pins σ tg R) X.xe s1 := fun L at_ r => by
      have ⟨hs, gd, hx, _, _, _, dt, sz, _, _⟩ := L.frzK at_
      exact iter_keys hs gd hx dt (pi_one (tk := s1.toks) L _ (turn_keys _ dt) ⟨_, Heap.get?_push_size _ rfl, rfl, by rw [sz] <;> rfl⟩ r)
    rcases q with ⟨_, at_, r⟩ | ⟨at_, r⟩
    · exact go J at_ r
    · have ⟨o, L⟩ := J.lock at_ trivial
      exact go L upd_same (r o)
end L2
namespace L3
open PySem PySem.Spec L2 PyProof.Rows
theorem u1 {k : Nat} {A : Around} (hr : Room k A) : A.units + 1 < cLine := by
  have := hr.un
  omega
/-! ### dicts held by a slot -/
def getK (es : List (Key × D)) (k : Key) : Option D := (es.find? fun p => decide (p.1 = k)).map (·.2)
theorem getK_rp {K : PySem.W.Frag} {F : Hp} (k : Key) : ∀ {kvs : List (Key × V)} {es : List (Key × D)}, RpKs K F kvs es → (getK es k = none ∧ valV kvs k = none) ∨ ∃ v d, getK es k = some d ∧ valV kvs k = some v ∧ Rp K F v d
  | _, _, .nil => .inl ⟨rfl, rfl⟩
  | _, _, .cons (k := k') (v := v) (d := d) h r => by
    by_cases e : k' = k
    · refine .inr ⟨v, d, ?_, valV_pos e, h⟩
      simp [getK, List.find?_cons, e]
    · have e1 : ∀ es, getK ((k', d) :: es) k = getK es k := fun es => by simp [getK, List.find?_cons, e]
      rw [e1, valV_neg (p := (k', v)) e]
      exact getK_rp k r
def keysD (es : List (Key × D)) : List D := es.map fun p => kD p.1
theorem rp_kV {K : PySem.W.Frag} {F : Hp} : ∀ k : Key, Rp K F (kV k) (kD k)
  | .inl i => .int i
  | .inr x => .str x
theorem keys_rp {K : PySem.W.Frag} {F : Hp} : ∀ {kvs : List (Key × V)} {es : List (Key × D)}, RpKs K F kvs es → ∀ (i : Nat) (d : D), (keysD es)[i]? = some d → ∀ k v, kvs[i]? = some (k, v) → Rp K F (kV k) d
  | _, _, .cons (k := k') h r, 0, d, e, k, v, e2 => by
    cases e
    cases e2
    exact rp_kV _
  | _, _, .cons h r, i + 1, d, e, k, v, e2 => keys_rp r i d e k v e2
section
variable {G : Gd} {F : Hp} {a : Addr} {o : Obj} {kvs : List (Key × V)} {es : List (Key × D)}
theorem itok_keys (h : F a = some (.frz o (.dK kvs))) (r : RpKs G.K F kvs es) : ItOk G (Itk a o kvs) F (keysD es) where
  go := fun F' H' L i s hr hi => ⟨hr.sub _ _ (s _ _ h), by rw [r.len]; simpa [keysD] using hi⟩
  yld := fun F' H' L i x H'' d s hr hd hy => by
    obtain ⟨rfl, k, v, hk, rfl⟩ := hy
    exact ⟨F', Same.refl _, hr, (keys_rp r i d hd k v hk).mono s⟩
  stop := fun F' H' L i s hr hi => ⟨hr.sub _ _ (s _ _ h), by rw [r.len]; simpa [keysD] using hi⟩
end
/-- an object of one's own is frozen as another -/
theorem HR.lock {K : PySem.W.Frag} {cl : Str → Addr → Prop} {F H : Hp} {L : List (Cl × V)} {p : Addr} {o : HO} {c c' : Cl} (h : HR K cl F H ((c, .ref p) :: L)) (h1 : ∀ A, CR K cl F H c (.ref p) A → A = [p]) (hc : ∀ F', Same F F' → F' p = some o → CR K cl F' (upd H p o) c' (.ref p) []) : ∃ F', Same F F' ∧ F' p = some o ∧ HR K cl F' (upd H p o) ((c', .ref p) :: L) := by
  obtain ⟨s, A, n, q⟩ := h
  cases q with
  | cons q r =>
    have e := h1 _ q
    subst e
    have n' := List.nodup_cons.mp n
    have fp := (q.fr p (List.mem_singleton.mpr rfl)).1
    have sm : Same F (upd F p o) := fun b u e => by rw [upd_ne (ne_of_none e fp)]; exact e
    refine ⟨upd F p o, sm, upd_same, fun b u e => ?_, _, n'.2, .cons (hc _ sm upd_same) (r.mono sm fun a ha => ?_)⟩
    · by_cases hb : b = p
      · subst hb; rw [upd_same] at e ⊢; exact e
      · rw [upd_ne hb] at e ⊢; exact s _ _ e
    · have ne : a ≠ p := fun z => n'.1 (z ▸ ha)
      rw [upd_ne ne, upd_ne ne]
      exact ⟨(r.fr a ha).1, rfl⟩
section
variable {ι : Type} {G : Gd} {X : ι → Cx} {W : WX} {P : List Nat} {e ie tg : Expr} {pos : Pos}
def fIDct (k : Nat) : Fn (List D) := fun n ρ => match (ρ[k]?).join with
  | some (.dct es) => some (.ok (keysD es) (ρ.set k (some (.dlk es))))
  | some (.dlk es) => some (.ok (keysD es) ρ)
  | _ => none
theorem snd_idct {k : Nat} : SndI G W (iKeysL (tVar k)) (fIDct k) := fun n ρ r eq F H σ T Q hR hP => by
  unfold fIDct at eq
  split at eq
  · rename_i es q
    cases eq
    obtain ⟨v, hv, R1⟩ := R.take hR (join_some q)
    refine ⟨v, hv, ?_⟩
    obtain ⟨A, cr⟩ := R1.cr
    cases cr with
    | @dct a kvs _ h1 h2 r =>
      refine ⟨a, kvs, rfl, .inr ⟨h1, fun o => ?_⟩⟩
      obtain ⟨F', s, hF, h3⟩ := HR.lock (o := .frz o (.dK kvs)) (c' := .dlk es) R1.hr' (fun A h => by cases h; rfl) (fun F' s hF => .dlk hF (r.mono s))
      have hk : k < ρ.length := (List.getElem?_eq_some_iff.mp (join_some q)).1
      have R2 : G.R F' (upd H a (.frz o (.dK kvs))) (ρ.set k none) σ ((.dlk es, .ref a) :: T) := .mk' h3 R1.ok
      have R3 := R.put R2 (c := .dlk es) (i := k) (by rw [List.getElem?_set_self hk]) hv
      rw [List.set_set] at R3
      exact hP F' _ _ s R3 (itok_keys hF (r.mono s))
  · rename_i es q
    cases eq
    obtain ⟨v, hv, A, cr⟩ := hR.at (join_some q)
    refine ⟨v, hv, ?_⟩
    cases cr with
    | @dlk a o kvs _ h1 r => exact ⟨a, kvs, rfl, .inl ⟨o, hR.sub _ _ h1, hP F H _ (Same.refl _) hR (itok_keys h1 r)⟩⟩
  · cases eq
theorem xi_dct {k : Nat} (h : ∀ j, PE (X j) e (tVar k)) : XI G X W tg e (fIDct k) := ⟨_, fun j => pi_keysL (h j), snd_idct⟩
/-- d[k] -/
def dctE : Cl → Option (List (Key × D))
  | .dct es => some es
  | .dlk es => some es
  | _ => none
def gIxD : List Cl → Option Cl
  | [c, .fz kd] => match dctE c, keyD kd with
    | some es, some k => (getK es k).map .fz
    | _, _ => none
  | _ => none
def rIxK : R2 := fun x y H Q => ∃ a v, x = .ref a ∧ DGet H a y (some v) ∧ Q v H
theorem dctE_cr {F H : Hp} {c : Cl} {v : V} {A : List Addr} {es : List (Key × D)} (h : G.CR F H c v A) (s : Same F H) (e : dctE c = some es) : ∃ a kvs, v = .ref a ∧ Rd H a (.dK kvs) ∧ RpKs G.K F kvs es := by
  cases h with
  | dct h1 h2 r => cases e; exact ⟨_, _, rfl, .inl h1, r⟩
  | dlk h1 r => cases e; exact ⟨_, _, rfl, .inr ⟨_, s _ _ h1⟩, r⟩
  | _ => cases e
theorem prm_ixD : Prm G (l2 rIxK) gIxD := fun F H L cs vs c Q hr hc e hQ => by
  unfold gIxD at e
  split at e
  · obtain ⟨v1, v2, A1, A2, rfl, h1, h2⟩ := crs2 hc
    split at e
    · rename_i es k q1 q2
      obtain ⟨a, kvs, rfl, hd, r⟩ := dctE_cr h1 hr.sub q1
      have e2 := keyD_rp (h2.rpF rfl) q2
      rcases getK_rp k r with ⟨z, _⟩ | ⟨v, d, g1, g2, rd⟩
      · rw [z] at e; cases e
      · rw [g1] at e
        cases e
        exact ⟨a, v, rfl, .inl ⟨kvs, k, hd, e2, g2.symm⟩, hQ F H _ (Same.refl _) (hr.push rd)⟩
    · cases e
  · cases e
theorem xe_ixD {a b : Expr} {fa fb : Fn Bv} (hu : ∀ j, (X j).A.units + 1 < cLine) (ha : XB G X W a fa) (hb : XB G X W b fb) (hs : NoSl b) : XE G X W (.Subscript a b pos) (f2 fa fb gIxD) := by
  obtain ⟨ta, h1, h2⟩ := ha
  obtain ⟨tb, h3, h4⟩ := hb
  exact ⟨_, fun i => pe_dget (hu i) (h1 i) (h3 i) hs, snd_prm (r := l2 rIxK) (snd_cons h2 (snd_cons h4 snd_nil)) prm_ixD⟩
/-- d.get(k, x) -/
def fDG (k : Nat) (f : Fn (List Bv)) : Fn Cl := fun n ρ => match (ρ[k]?).join with
  | some c0 => if (dctE c0).isSome = true then bnd (fFzs f n ρ) fun as ρ1 => match (ρ1[k]?).join, as with
    | some c, [kd, dd] => match dctE c, keyD kd with
      | some es, some key => some (.ok (.fz ((getK es key).getD dd)) ρ1)
      | _, _ => none
    | _, _ => none
  else none
  | none => none
theorem snd_dg {k : Nat} {t u : TE} {f g : Fn Bv} (h : SndB G W t f) (h' : SndB G W u g) : SndE G W (tDGet2 (tVar k) t u) (fDG k (fCons f (fCons g fNil))) := fun n ρ rr eq F H σ T' Q hR hP => by
  unfold fDG at eq
  split at eq
  case h_2 => cases eq
  rename_i c0 q0
  split at eq
  case isFalse => cases eq
  rename_i hok
  obtain ⟨es0, hes0⟩ := Option.isSome_iff_exists.mp hok
  obtain ⟨v, hv, A, cr⟩ := hR.at (join_some q0)
  obtain ⟨a, kvs0, rfl, hd0, _⟩ := dctE_cr cr hR.sub hes0
  refine ⟨_, hv, a, rfl, .inl ⟨kvs0, hd0⟩, ?_⟩
  cases q : fFzs (fCons f (fCons g fNil)) n ρ with
  | none => rw [q] at eq; cases eq
  | some r1 =>
    rw [q] at eq
    refine snd_fzs (snd_cons h (snd_cons h' snd_nil)) n ρ r1 q F H σ T' (fun vs H3 => match vs with | [y, z] => ∃ o, DGet H3 a y o ∧ Q (o.getD z) H3 | _ => False) hR ?_
    cases r1 with
    | ex x ρ' => cases eq; exact hP
    | ok as ρ1 =>
      rw [bnd_ok] at eq
      intro F1 H1 ws s1 R1 ra
      split at eq
      case h_2 => cases eq
      rename_i c kd dd q1
      cases ra with
      | cons r1 ra => cases ra with
        | cons r2 ra => cases ra with
          | nil =>
            split at eq
            case h_2 => cases eq
            rename_i es key e1 e2
            cases eq
            obtain ⟨w, hw, A2, cr2⟩ := R1.at (join_some q1)
            rw [hv] at hw
            cases hw
            obtain ⟨a2, kvs, ea, hd, r⟩ := dctE_cr cr2 R1.sub e1
            cases ea
            have ek := keyD_rp r1 e2
            rcases getK_rp key r with ⟨g1, g2⟩ | ⟨v, d, g1, g2, rd⟩
            · refine ⟨none, .inl ⟨kvs, key, hd, ek, g2.symm⟩, ?_⟩
              exact hP F1 H1 _ s1 (R1.push (by rw [g1]; exact r2))
            · refine ⟨some v, .inl ⟨kvs, key, hd, ek, g2.symm⟩, ?_⟩
              exact hP F1 H1 _ s1 (R1.push (by rw [g1]; exact rd))
theorem xe_dg {k : Nat} {x : Str} {p1 apos : Pos} {f g : Fn Bv} {e e2 : Expr} (hu : ∀ j, (X j).A.units + 1 < cLine) (hx : ∀ j, PE (X j) (.Name x p1) (tVar k)) (h : XB G X W e f) (h' : XB G X W e2 g) (m : ∀ j, M2 (X j) (.Name x p1) "get" apos e e2 pos) :
    XE G X W (.Call (.Attribute (.Name x p1) "get" apos) [e, e2] [] pos) (fDG k (fCons f (fCons g fNil))) := by
  obtain ⟨t, h1, h2⟩ := h
  obtain ⟨u, h3, h4⟩ := h'
  exact ⟨_, fun i => pe_dget2 (hu i) (hx i) (h1 i) (h3 i) (m i), snd_dg h2 h4⟩
/-! ### d[k] = e -/
def setIxD (ρ : En) (k : Nat) (j d : D) : Option En := match (ρ[k]?).join with
  | some (.dct es) => match keyD j with
    | some key => if Nat.ble es.length 1000000 = true then some (ρ.set k (some (.dct (putD es key d)))) else none
    | none => none
  | _ => none
theorem setIxD_ok {F H : Hp} {ρ ρ' : En} {σ : L2.St} {T : List (Cl × V)} {k : Nat} {j d : D} {vj vd o : V} (e : setIxD ρ k j d = some ρ') (hR : G.R F H ρ σ T) (rj : Rp G.K F vj j) (rd : Rp G.K F vd d) (ho : σ[k]? = some (some o)) {Q : Hp → Prop} (hQ : ∀ H', G.R F H' ρ' σ T → Q H') : rSetD o vj vd H Q := by
  unfold setIxD at e
  split at e
  · rename_i es q
    split at e
    · rename_i key qk
      split at e
      · rename_i hl
        cases e
        have hl := Nat.le_of_ble_eq_true hl
        obtain ⟨w, h1, R'⟩ := R.take hR (join_some q)
        rw [ho] at h1
        cases h1
        have ek := keyD_rp rj qk
        obtain ⟨A, cr⟩ := R'.cr
        cases cr with
        | @dct a kvs _ h1 h2 r =>
          refine ⟨_, _, rfl, ek ▸ DPut.k h1 (by rw [r.len, sizeLine_eq]; omega), hQ _ ?_⟩
          have R2 : G.R F (upd H a (.dK (putK kvs key vd))) (ρ.set k none) σ ((.dct (putD es key d), .ref a) :: T) :=
            .mk' (R'.hr'.mut (fun A h => by cases h; rfl) (.dct upd_same h2 (putD_rp r key rd))) R'.ok
          have hk : k < ρ.length := (List.getElem?_eq_some_iff.mp (join_some q)).1
          have R3 := R.put R2 (c := .dct (putD es key d)) (i := k) (by rw [List.getElem?_set_self hk]) ho
          rw [List.set_set] at R3
          exact R3
      · cases e
    · cases e
  · cases e
def sSetIxD (k : Nat) (fe fi : Fn Bv) : FS := fun n ρ => bS (fFz fe n ρ) fun c ρ1 => match c with
  | .fz d => if ((ρ1[k]?).join).isSome = true then bS (fFz fi n ρ1) fun c2 ρ2 => match c2 with
    | .fz j => match setIxD ρ2 k j d with
      | some ρ3 => some (.nx ρ3)
      | none => none
    | _ => none
  else none
  | _ => none
theorem xs_setIxD {k : Nat} {x : Str} {px ps : Pos} {fe fi : Fn Bv} (hu : ∀ j, (X j).A.units + 1 < cLine) (hx : ∀ j, PE (X j) (.Name x px) (tVar k)) (hi : XB G X W ie fi) (he : XB G X W e fe)
    (hs : ∀ j, swapsWithSole [.Subscript (.Name x px) ie ps] e pos.line (X j).env = pure false) (hw : ∀ j, swappedStores [.Subscript (.Name x px) ie ps] e (X j).env = pure none) (h1 : ∀ j, (assignEach [.Subscript (.Name x px) ie ps] (X j).env).map (·.2) = [assign (.Subscript (.Name x px) ie ps) (X j).env])
    (ha : ∀ j v, assign (.Subscript (.Name x px) ie ps) (X j).env v = (do
      let ov ← holding [v] (eval (.Name x px) (X j).env)
      let iv ← holding [v, ov] (eval ie (X j).env)
      standAt ps
      holding [v, ov, iv] (setItem ov iv v)
      release [v, ov, iv] [])) : XS G X W P (.Assign [.Subscript (.Name x px) ie ps] e pos) (sSetIxD k fe fi) := by
  obtain ⟨ti, a1, a2⟩ := hi
  obtain ⟨te, b1, b2⟩ := he
  refine ⟨_, fun j => ps_asg (b1 j) (pg_sub (hx j) (a1 j) (set_dict (hu j)) (ha j)) (hs j) (hw j) (h1 j), fun n ρ o eq F H σ T D hR hP => ?_⟩
  unfold sSetIxD at eq
  cases q : fFz fe n ρ with
  | none => rw [q] at eq; cases eq
  | some r1 =>
    rw [q] at eq
    refine snd_fz b2 n ρ r1 q F H σ T _ hR ?_
    cases r1 with
    | ex x ρ' => cases eq; exact hP.px
    | ok c ρ1 =>
      rw [bS_ok] at eq
      intro F1 H1 v s1 R1
      cases c with
      | fz d =>
        dsimp only at eq
        split at eq
        · rename_i hk
          obtain ⟨ov, ho⟩ := slot_of R1 hk
          refine ⟨ov, ho, ?_⟩
          cases q2 : fFz fi n ρ1 with
          | none => rw [q2] at eq; cases eq
          | some r2 =>
            rw [q2] at eq
            refine snd_fz a2 n ρ1 r2 q2 F1 H1 σ _ _ R1 ?_
            cases r2 with
            | ex x ρ' =>
              cases eq
              exact fun F' H' cls d s r xr => hP F' H' σ cls d (s1.trans s) r.tail (Kp.refl _) xr
            | ok c2 ρ2 =>
              rw [bS_ok] at eq
              intro F2 H2 v2 s2 R2
              cases c2 with
              | fz dj =>
                dsimp only at eq
                cases q3 : setIxD ρ2 k dj d with
                | none => rw [q3] at eq; cases eq
                | some ρ3 =>
                  rw [q3] at eq
                  cases eq
                  refine setIxD_ok q3 R2.tail.tail R2.rp R2.tail.rp ho fun H' R' => hP F2 H' σ (s1.trans s2) R' (Kp.refl _)
              | lst _ => cases eq
              | dct _ => cases eq
              | dtt _ => cases eq
              | dlk _ => cases eq
              | ins _ _ => cases eq
        · cases eq
      | lst _ => cases eq
      | dct _ => cases eq
      | dtt _ => cases eq
      | dlk _ => cases eq
      | ins _ _ => cases eq
/-! ### the greatest of three -/
def gMax3 : List Cl → Option Cl
  | [.fz (.int i), .fz (.int j), .fz (.int k)] => some (.fz (.int (if (if i < j then j else i) < k then k else (if i < j then j else i))))
  | _ => none
theorem prm_max3 : Prm G (rNuC3 nuMax3) gMax3 := fun F H L cs vs c Q hr hc e hQ => by
  unfold gMax3 at e
  split at e
  · rename_i i j k
    cases hc with
    | cons h1 r => cases r with
      | cons h2 r => cases r with
        | cons h3 r =>
          cases r
          obtain ⟨A1, h1⟩ := h1
          obtain ⟨A2, h2⟩ := h2
          obtain ⟨A3, h3⟩ := h3
          cases cr_int h1; cases cr_int h2; cases cr_int h3
          cases e
          refine ⟨_, _, _, _, rfl, ?_, hQ F H _ (Same.refl _) (hr.push (.int _))⟩
          show ((nuLt (V.int i) (V.int j)).map fun c => if c = true then V.int j else V.int i).bind (fun m => nuMax2 m (V.int k)) = _
          show ((some (decide (i < j))).map fun c => if c = true then V.int j else V.int i).bind (fun m => nuMax2 m (V.int k)) = _
          by_cases h : i < j
          · rw [decide_eq_true h, if_pos h]
            show ((some (decide (j < k))).map fun c => if c = true then V.int k else V.int j) = _
            by_cases h2 : j < k
            · rw [decide_eq_true h2, if_pos h2]; rfl
            · rw [decide_eq_false h2, if_neg h2]; rfl
          · rw [decide_eq_false h, if_neg h]
            show ((some (decide (i < k))).map fun c => if c = true then V.int k else V.int i) = _
            by_cases h2 : i < k
            · rw [decide_eq_true h2, if_pos h2]; rfl
            · rw [decide_eq_false h2, if_neg h2]; rfl
  · cases e
/-! ### names that a comprehension hides come back -/
def restR (ρ : En) : List Nat → En → En
  | [], ρ' => ρ'
  | j :: vs, ρ' => restR ρ vs (match ρ[j]?, ρ'[j]? with
    | some (some (.fz d)), some none => ρ'.set j (some (.fz d))
    | _, _ => ρ')
theorem rest_ok {F F' H H' : Hp} {ρ : En} {σ : L2.St} {T T' : List (Cl × V)} (hR : G.R F H ρ σ T) (s : Same F F') : ∀ (vs : List Nat) (ρ' : En), G.R F' H' ρ' σ T' → G.R F' H' (restR ρ vs ρ') σ T'
  | [], _, h => h
  | j :: vs, ρ', h => by
    refine rest_ok hR s vs _ ?_
    split
    · rename_i d h1 h2
      obtain ⟨v, hv, A, cr⟩ := hR.at h1
      exact R.put (h.push ((cr.rpF rfl).mono s)) h2 hv
    · exact h
def fRest (vs : List Nat) (f : Fn Cl) : Fn Cl := fun n ρ => match f n ρ with
  | some (.ok c ρ') => some (.ok c (restR ρ vs ρ'))
  | r => r
theorem xe_rest (vs : List Nat) {f : Fn Cl} (h : XE G X W e f) : XE G X W e (fRest vs f) := by
  obtain ⟨t, h1, h2⟩ := h
  refine ⟨t, h1, fun n ρ r eq F H σ T Q hR hP => ?_⟩
  unfold fRest at eq
  split at eq
  · rename_i c ρ' q
    cases eq
    exact h2 n ρ _ q F H σ T Q hR fun F' H' v s R' => hP F' H' v s (rest_ok hR s vs ρ' R')
  · exact h2 n ρ r eq F H σ T Q hR hP
/-! ### lists in a handler: not too long -/
theorem sl_nil : ∀ (x : Ex) (ds : List D), (fun _ : Ex => some ([] : List D)) x = some ds → ds.length ≤ 0 := fun x ds h => by
  cases h
  exact Nat.le_refl _
theorem sl_str {g : Ex → Option (List D)} {n : Nat} {d : D} (h : ∀ x ds, g x = some ds → ds.length ≤ n) : ∀ (x : Ex) (ds : List D), (g x).map (d :: ·) = some ds → ds.length ≤ n + 1 := fun x ds e => by
  cases q : g x with
  | none => rw [q] at e; cases e
  | some l =>
    rw [q] at e
    cases e
    exact Nat.succ_le_succ (h x l q)
theorem sl_fld {f : Ex → Option D} {g : Ex → Option (List D)} {n : Nat} (h : ∀ x ds, g x = some ds → ds.length ≤ n) : ∀ (x : Ex) (ds : List D), ((f x).bind fun d => (g x).map (d :: ·)) = some ds → ds.length ≤ n + 1 := fun x ds e => by
  cases q : f x with
  | none => rw [q] at e; cases e
  | some d =>
    rw [q] at e
    exact sl_str h x ds e
end
end L3

set_option maxHeartbeats 1000000
namespace L2
open PySem PySem.Spec PyProof.Rows
/-- a text of one sign so often -/
theorem op_repS {X : Cx} : OpR X (binaryOp .Mult) (fun x y H Q => ∃ (c n : Nat), x = .str ⟨#[c]⟩ ∧ y = .int (n : Int) ∧ 2 ≤ n ∧ n ≤ 1000000 ∧ Q (.str ⟨(List.replicate n c).toArray⟩) H) := by
  intro pins s σ H x y v u Q I rx ry h
  obtain ⟨c, n, rfl, rfl, h2, hn, q⟩ := h
  obtain ⟨t, rfl⟩ := rx
  obtain ⟨t', rfl⟩ := ry
  have l1 : (⟨#[c]⟩ : Str).length = 1 := rfl
  have n1 : ¬ ((n : Int) < 1) := by omega
  have b1 : ((n : Int) == 1 || (⟨#[c]⟩ : Str).length == 0) = false := by
    rw [l1, Bool.or_eq_false_iff]
    exact ⟨beq_eq_false_iff_ne.mpr (by omega), rfl⟩
  have f0 : ∀ (m : Nat) (acc : List Nat), List.foldl (fun x1 x2 => x1 ++ x2) acc.toArray (List.replicate m #[c]) = (acc ++ List.replicate m c).toArray := fun m => by
    induction m with
    | zero => intro acc; simp
    | succ m ih =>
      intro acc
      rw [List.replicate_succ, List.foldl_cons]
      have : acc.toArray ++ #[c] = (acc ++ [c]).toArray := by simp
      rw [this, ih, List.replicate_succ, List.append_assoc]
      rfl
  have sz : (sizeLine : Nat) = 16777216 := sizeLine_eq
  refine PySem.P.mul_str (by
    rw [decide_eq_false (by omega), decide_eq_false (by omega)]; rfl) (fun _ _ => ?_) (fun _ _ => ?_) ?_
  · rw [l1]
    have : (1 : Int) ≤ (2 ^ 63 - 1) / (n : Int) := by
      refine Int.le_ediv_of_mul_le (by omega) ?_
      omega
    omega
  · unfold Builtin.Str.tooLong
    refine decide_eq_false ?_
    rw [l1, Nat.one_mul, Int.toNat_natCast]
    omega
  · rw [if_neg n1, if_neg (by rw [b1]; exact Bool.false_ne_true)]
    have e : (⟨List.foldl (fun x1 x2 => x1 ++ x2) #[] (List.replicate (n : Int).toNat (⟨#[c]⟩ : Str).cps)⟩ : Str) = ⟨(List.replicate n c).toArray⟩ := by
      have := f0 n []
      rw [List.nil_append] at this
      rw [Int.toNat_natCast]
      exact congrArg Str.mk this
    rw [e]
    refine ⟨?_, ⟨.str _, H, I.tok _, ⟨_, rfl⟩, q⟩⟩
    show (List.replicate n c).toArray.size ≤ sizeLine
    rw [List.size_toArray, List.length_replicate]
    omega
end L2
namespace L3
open PySem PySem.Spec L2 PyProof.Rows
/-! ### texts -/
section
variable {ι : Type} {G : Gd} {X : ι → Cx} {W : WX} {P : List Nat} {e e2 ie tg : Expr} {pos : Pos}
def gRepS : List Cl → Option Cl
  | [.fz (.str x), .fz (.int k)] => match x.cps.toList with
    | [c] => if (Nat.ble 2 k.toNat && Nat.ble k.toNat 1000000 && decide (0 ≤ k)) = true then some (.fz (.str ⟨(List.replicate k.toNat c).toArray⟩)) else none
    | _ => none
  | _ => none
theorem str_one {x : Str} {c : Nat} (h : x.cps.toList = [c]) : x = ⟨#[c]⟩ := by
  obtain ⟨a⟩ := x
  congr 1
  have : a.toList = [c] := h
  exact Array.toList_inj.mp this
theorem prm_repS : Prm G (l2 (fun x y H Q => ∃ (c n : Nat), x = V.str ⟨#[c]⟩ ∧ y = V.int (n : Int) ∧ 2 ≤ n ∧ n ≤ 1000000 ∧ Q (.str ⟨(List.replicate n c).toArray⟩) H)) gRepS := fun F H L cs vs c Q hr hc e hQ => by
  unfold gRepS at e
  split at e
  · rename_i x k
    obtain ⟨v1, v2, A1, A2, rfl, h1, h2⟩ := crs2 hc
    cases cr_str h1; cases cr_int h2
    split at e
    · rename_i c hx
      split at e
      · rename_i hk
        simp only [Bool.and_eq_true, decide_eq_true_eq] at hk
        obtain ⟨⟨a, b⟩, d⟩ := hk
        have a := Nat.le_of_ble_eq_true a
        have b := Nat.le_of_ble_eq_true b
        cases e
        have := str_one hx
        subst this
        obtain ⟨n, rfl⟩ : ∃ n : Nat, k = n := ⟨k.toNat, by omega⟩
        rw [Int.toNat_natCast] at a b
        refine ⟨c, n, rfl, rfl, a, b, ?_⟩
        exact hQ F H _ (Same.refl _) (hr.push (.str _))
      · cases e
    · cases e
  · cases e
/-! int of a text, text of an int -/
def gIntA : List Cl → Option Cl
  | [.fz (.str x)] => if Nat.ble x.length 640 = true then (intText? x).map fun n => .fz (.int n) else none
  | cs => gInt cs
theorem call_intA {Y : Cx} : CallR Y (.type "int") (fun xs H Q => ((∃ i, xs = [.int i] ∧ Q (.int i) H) ∨ ∃ k, xs = [.bl k] ∧ Q (.int (if k then 1 else 0)) H) ∨ ∃ a n, xs = [.str a] ∧ PySem.intText? a = some n ∧ a.length ≤ 640 ∧ Q (.int n) H) := call_int1.or call_int_str
theorem prm_intA : Prm G (fun xs H Q => ((∃ i, xs = [V.int i] ∧ Q (.int i) H) ∨ ∃ k, xs = [V.bl k] ∧ Q (.int (if k then 1 else 0)) H) ∨ ∃ a n, xs = [V.str a] ∧ PySem.intText? a = some n ∧ a.length ≤ 640 ∧ Q (.int n) H) gIntA := fun F H L cs vs c Q hr hc e hQ => by
  unfold gIntA at e
  split at e
  · rename_i x
    obtain ⟨v1, A1, rfl, h1⟩ := crs1 hc
    cases cr_str h1
    split at e
    · rename_i hl
      have hl := Nat.le_of_ble_eq_true hl
      cases q : intText? x with
      | none => rw [q] at e; cases e
      | some n =>
        rw [q] at e
        cases e
        exact .inr ⟨_, n, rfl, q, hl, hQ F H _ (Same.refl _) (hr.push (.int _))⟩
    · cases e
  · exact .inl (prm_int F H L cs vs c Q hr hc e hQ)
def txt (i : Int) : Str := Str.ofString (toString i)
def gStr : List Cl → Option Cl
  | [.fz (.int i)] => if Nat.blt i.natAbs.log2 1920 = true then some (.fz (.str (txt i))) else none
  | _ => none
theorem prm_str : Prm G (fun xs H Q => ∃ i, xs = [V.int i] ∧ i.natAbs.log2 < 1920 ∧ Q (.str (toString i)) H) gStr := fun F H L cs vs c Q hr hc e hQ => by
  unfold gStr at e
  split at e
  · rename_i i
    obtain ⟨v1, A1, rfl, h1⟩ := crs1 hc
    cases cr_int h1
    split at e
    · rename_i hl
      cases e
      exact ⟨i, rfl, Nat.le_of_ble_eq_true hl, hQ F H _ (Same.refl _) (hr.push (.str _))⟩
    · cases e
  · cases e
/-! one sign in a text -/
def gInS (neg : Bool) : List Cl → Option Cl
  | [.fz (.str x), .fz (.str z)] => match x.cps.toList with
    | [c] => some (.fz (.bool (if neg = true then !decide (c ∈ z.cps.toList) else decide (c ∈ z.cps.toList))))
    | _ => none
  | _ => none
theorem prm_inS : Prm G (l2 rInS) (gInS false) := fun F H L cs vs c Q hr hc e hQ => by
  unfold gInS at e
  split at e
  · obtain ⟨v1, v2, A1, A2, rfl, h1, h2⟩ := crs2 hc
    cases cr_str h1; cases cr_str h2
    split at e
    · rename_i c hx
      cases e
      have := str_one hx
      subst this
      exact ⟨c, _, rfl, rfl, hQ F H _ (Same.refl _) (hr.push (.bl _))⟩
    · cases e
  · cases e
/-! signs of a text, one by one -/
def signsD (x : Str) : List D := x.cps.toList.map fun c => .str ⟨#[c]⟩
theorem itok_str {F : Hp} (x : Str) : ItOk G (Its x) F (signsD x) where
  go := fun F' H' L i s hr hi => by
    have : i < x.cps.toList.length := by simpa [signsD] using hi
    show i < x.cps.size
    simpa using this
  yld := fun F' H' L i v H'' d s hr hd hy => by
    obtain ⟨rfl, c, hc, rfl⟩ := hy
    refine ⟨F', Same.refl _, hr, ?_⟩
    unfold signsD at hd
    rw [List.getElem?_map] at hd
    have hc : x.cps.toList[i]? = some c := by simpa using hc
    rw [hc] at hd
    cases hd
    exact .str _
  stop := fun F' H' L i s hr hi => by
    have : x.cps.toList.length ≤ i := by simpa [signsD] using hi
    show x.cps.size ≤ i
    simpa using this
def fIStr (f : Fn Bv) : Fn (List D) := fun n ρ => bnd (fFz f n ρ) fun c ρ1 => match c with
  | .fz (.str x) => some (.ok (signsD x) ρ1)
  | _ => none
theorem snd_istr {t : TE} {f : Fn Bv} (h : SndB G W t f) : SndI G W (iStr t) (fIStr f) := fun n ρ r e F H σ T Q hR hP => by
  unfold fIStr at e
  cases q : fFz f n ρ with
  | none => rw [q] at e; cases e
  | some r1 =>
    rw [q] at e
    refine snd_fz h n ρ r1 q F H σ T _ hR ?_
    cases r1 with
    | ex x ρ' => cases e; exact hP
    | ok c ρ1 =>
      rw [bnd_ok] at e
      intro F1 H1 v s1 R1
      split at e
      · rename_i x
        cases e
        have := R1.rp
        cases this
        exact ⟨x, rfl, hP F1 H1 _ s1 R1.tail (itok_str x)⟩
      · cases e
theorem xi_str {f : Fn Bv} (h : XB G X W e f) : XI G X W tg e (fIStr f) := by
  obtain ⟨t, h1, h2⟩ := h
  exact ⟨_, fun i => pi_str (h1 i), snd_istr h2⟩
/-! methods of a text -/
def fMvS (f0 : Fn Bv) (fs : Fn (List Bv)) (g : Str → List D → Option Cl) : Fn Cl := fun n ρ => bnd (fFz f0 n ρ) fun c ρ1 => match c with
  | .fz (.str x) => bnd (fFzs fs n ρ1) fun as ρ2 => match g x as with
    | some r => some (.ok r ρ2)
    | none => none
  | _ => none
def SndMV (G : Gd) (r : V → List V → Hp → VK → Prop) (g : Str → List D → Option Cl) : Prop :=
  ∀ x as c, g x as = some c → ∀ F H L ws (Q : VK), G.HR F H L → RpA G.K F ws as → (∀ F' H' u, Same F F' → G.HR F' H' ((c, u) :: L) → Q u H') → r (.str x) ws H Q
theorem snd_mvS {t : TE} {ta : TA} {f0 : Fn Bv} {fs : Fn (List Bv)} {r : V → List V → Hp → VK → Prop} {g : Str → List D → Option Cl} (h0 : SndB G W t f0) (hs : SndBs G W ta fs) (hg : SndMV G r g) : SndE G W (tBM G.K "str" r t ta) (fMvS f0 fs g) := fun n ρ rr e F H σ T Q hR hP => by
  unfold fMvS at e
  cases q : fFz f0 n ρ with
  | none => rw [q] at e; cases e
  | some r1 =>
    rw [q] at e
    refine snd_fz h0 n ρ r1 q F H σ T _ hR ?_
    cases r1 with
    | ex x ρ' => cases e; exact hP
    | ok c ρ1 =>
      rw [bnd_ok] at e
      intro F1 H1 v s1 R1
      split at e
      case h_2 => cases e
      rename_i x
      have rv := R1.rp
      cases rv
      refine ⟨rfl, ?_⟩
      cases q2 : fFzs fs n ρ1 with
      | none => rw [q2] at e; cases e
      | some r2 =>
        rw [q2] at e
        refine snd_fzs hs n ρ1 r2 q2 F1 H1 σ T _ R1.tail ?_
        cases r2 with
        | ex y ρ' =>
          cases e
          exact fun F' H' cls d s R' hx => hP F' H' cls d (s1.trans s) R' hx
        | ok as ρ2 =>
          rw [bnd_ok] at e
          intro F2 H2 ws s2 R2 ra
          split at e
          case h_2 => cases e
          rename_i cr qc
          cases e
          exact hg x as cr qc F2 H2 _ ws _ R2.hr ra fun F' H' u s hr => hP F' H' u ((s1.trans s2).trans s) (.mk' hr R2.ok)
def gSplit : Str → List D → Option Cl
  | a, [.str b] => if (!(b.length == 0) && Nat.ble a.length 10000000) = true then some (.lst ((Txt.split a b).map .str)) else none
  | _, _ => none
def rSplit1 : V → List V → Hp → VK → Prop := fun x xs H Q => ∃ a b, x = .str a ∧ xs = [.str b] ∧ (b.length == 0) = false ∧ a.length + 2 ≤ sizeLine ∧ rNewStrs (Txt.split a b) H Q
theorem rpA_strs {K : PySem.W.Frag} {F : Hp} : ∀ ys : List Str, RpA K F (ys.map V.str) (ys.map .str)
  | [] => .nil
  | y :: ys => .cons (.str y) (rpA_strs ys)
theorem smv_split : SndMV G rSplit1 gSplit := fun x as c e F H L ws Q hr ra hQ => by
  unfold gSplit at e
  split at e
  · rename_i b
    split at e
    · rename_i hh
      rw [Bool.and_eq_true] at hh
      cases e
      cases ra with
      | cons r1 ra =>
        cases ra
        cases r1
        have hl := Nat.le_of_ble_eq_true hh.2
        refine ⟨x, b, rfl, rfl, by simpa using hh.1, by rw [sizeLine_eq]; omega, fun p hp => hQ F _ _ (Same.refl _) (HR.lstN hr hp (rpA_strs _))⟩
    · cases e
  · cases e
def strsD : List D → Option (List Str)
  | [] => some []
  | .str x :: ds => match strsD ds with
    | some xs => some (x :: xs)
    | none => none
  | _ => none
theorem strsD_rp {K : PySem.W.Frag} {F : Hp} : ∀ {vs : List V} {ds : List D} {ys : List Str}, RpA K F vs ds → strsD ds = some ys → vs = ys.map V.str
  | _, _, ys, .nil, h => by cases h; rfl
  | _, _, ys, .cons (v := v) (d := d) (ds := ds) r ra, h => by
    cases d with
    | str x =>
      cases r
      have h : (match strsD ds with | some xs => some (x :: xs) | none => none) = some ys := h
      cases q : strsD ds with
      | none => rw [q] at h; cases h
      | some xs =>
        rw [q] at h
        cases h
        rw [strsD_rp ra q]; rfl
    | _ => cases h
def gJoin : Str → List D → Option Cl
  | a, [d] => match asSeq d with
    | some ds => match strsD ds with
      | some ys => if Nat.ble ((ys.map (·.length)).sum + ys.length * a.length) 10000000 = true then some (.fz (.str (Txt.join a ys))) else none
      | none => none
    | none => none
  | _, _ => none
def rJoin1 (K : PySem.W.Frag) : V → List V → Hp → VK → Prop := fun x xs H Q => ∃ a p, ∃ ys : List Str, x = .str a ∧ xs = [.ref p] ∧ (SqL K H p (ys.map V.str) ∨ SqT K H p (ys.map V.str)) ∧
    (ys.map (·.length)).sum + ys.length * a.length ≤ 16777216 ∧ Q (.str (Txt.join a ys)) H
theorem smv_join : SndMV G (rJoin1 G.K) gJoin := fun x as c e F H L ws Q hr ra hQ => by
  unfold gJoin at e
  split at e
  case h_2 => cases e
  rename_i d
  split at e
  case h_2 => cases e
  rename_i ds q1
  split at e
  case h_2 => cases e
  rename_i ys q2
  split at e
  case isFalse => cases e
  rename_i hz
  have hz := Nat.le_of_ble_eq_true hz
  cases e
  cases ra with
  | cons r1 ra =>
    cases ra
    unfold asSeq at q1
    split at q1
    · cases q1
      cases r1 with
      | lst h1 r =>
        have := strsD_rp r q2
        subst this
        exact ⟨x, _, ys, rfl, rfl, .inl (hr.sub.seq h1), by omega, hQ F H _ (Same.refl _) (hr.push (.str _))⟩
    · cases q1
      cases r1 with
      | tup h1 r =>
        have := strsD_rp r q2
        subst this
        exact ⟨x, _, ys, rfl, rfl, .inr (sameT hr.sub h1), by omega, hQ F H _ (Same.refl _) (hr.push (.str _))⟩
    · cases q1
theorem xe_mvS {o : Expr} {es : List Expr} {m : Str} {p2 : Pos} {f0 : Fn Bv} {fs : Fn (List Bv)} {r : V → List V → Hp → VK → Prop} {g : Str → List D → Option Cl} (hK : ∀ i, (X i).K = G.K)
    (hp : ∀ (to : TE) (t : TA), (∀ j, PE (X j) o to) → (∀ j, PA (X j) (e :: es) t) → ∀ j, PE (X j) (.Call (.Attribute o m p2) (e :: es) [] pos) (tBM (X j).K "str" r to t)) (hs : SndMV G r g) (h0 : XB G X W o f0) (h : XBs G X W (e :: es) fs) :
    XE G X W (.Call (.Attribute o m p2) (e :: es) [] pos) (fMvS f0 fs g) := by
  obtain ⟨to, a1, a2⟩ := h0
  obtain ⟨t, h1, h2⟩ := h
  exact ⟨_, fun i => by have := hp to t a1 h1 i; rw [hK i] at this; exact this, snd_mvS a2 h2 hs⟩
end
end L3

namespace L3
open PySem PySem.Spec L2
/-! ### evaluation: what simp turns (printed by ev.py) -/
@[simp] theorem e_lk_pl (ρ : En) (k : Nat) : lk ρ (.pl k) = (ρ[k]?).join := rfl
@[simp] theorem e_lk_vl (ρ : En) (c : Cl) : lk ρ (.vl c) = some c := rfl
@[simp] theorem e_lks_nil (ρ : En) : lks ρ [] = some [] := rfl
@[simp] theorem e_lks_cons (ρ : En) (b : Bv) (bs : List Bv) : lks ρ (b :: bs) = (match lk ρ b, lks ρ bs with | some c, some cs => some (c :: cs) | _, _ => none) := rfl
@[simp] theorem e_fz_pl (ρ : En) (k : Nat) : fzB ρ (.pl k) = (match (ρ[k]?).join with
    | some c => match c.data with
      | some d => some (d, ρ.set k (some (.fz d)))
      | none => none
    | none => none) := rfl
@[simp] theorem e_fz_vl (ρ : En) (c : Cl) : fzB ρ (.vl c) = (match c.data with
    | some d => some (d, ρ)
    | none => none) := rfl
@[simp] theorem e_fzs_nil (ρ : En) : fzBs ρ [] = some ([], ρ) := rfl
@[simp] theorem e_fzs_cons (ρ : En) (b : Bv) (bs : List Bv) : fzBs ρ (b :: bs) = (match fzBs ρ bs with
    | some (ds, ρ1) => match fzB ρ1 b with
      | some (d, ρ2) => some (d :: ds, ρ2)
      | none => none
    | none => none) := rfl
@[simp] theorem e_data_fz (d : D) : Cl.data (.fz d) = some d := rfl
@[simp] theorem e_data_lst (ds : List D) : Cl.data (.lst ds) = some (.list ds) := rfl
@[simp] theorem e_data_dct (es : List (Key × D)) : Cl.data (.dct es) = some (.dict (es.map fun p => (kD p.1, p.2))) := rfl
@[simp] theorem e_dctE_dct (es : List (Key × D)) : dctE (.dct es) = some es := rfl
@[simp] theorem e_dctE_dlk (es : List (Key × D)) : dctE (.dlk es) = some es := rfl
@[simp] theorem e_gIxD (c : Cl) (kd : D) : gIxD [c, .fz kd] = (match dctE c, keyD kd with
    | some es, some k => (getK es k).map .fz
    | _, _ => none) := rfl
@[simp] theorem e_gMax3 (i j k : Int) : gMax3 [.fz (.int i), .fz (.int j), .fz (.int k)] = some (.fz (.int (if (if i < j then j else i) < k then k else (if i < j then j else i)))) := rfl
@[simp] theorem e_restR0 (ρ ρ' : En) : restR ρ [] ρ' = ρ' := rfl
@[simp] theorem e_restR1 (ρ ρ' : En) (j : Nat) (vs : List Nat) : restR ρ (j :: vs) ρ' = restR ρ vs (match ρ[j]?, ρ'[j]? with
    | some (some (.fz d)), some none => ρ'.set j (some (.fz d))
    | _, _ => ρ') := rfl
@[simp] theorem e_gIntAI (i : Int) : gIntA [.fz (.int i)] = some (.fz (.int i)) := rfl
@[simp] theorem e_keyD_int (i : Int) : keyD (.int i) = some (.inl i) := rfl
@[simp] theorem e_keyD_str (x : Str) : keyD (.str x) = some (.inr x) := rfl
@[simp] theorem e_asB (b : Bool) : asB (.fz (.bool b)) = some b := rfl
@[simp] theorem e_take_nil (ρ : En) : takeA ρ [] = some ([], ρ) := rfl
@[simp] theorem e_take_vl (ρ : En) (c : Cl) (bs : List Bv) : takeA ρ (.vl c :: bs) = (match takeA ρ bs with
    | some (cs, ρ1) => some (c :: cs, ρ1)
    | none => none) := rfl
@[simp] theorem e_take_pl (ρ : En) (i : Nat) (bs : List Bv) : takeA ρ (.pl i :: bs) = (match takeA ρ bs with
    | some (cs, ρ1) => match (ρ1[i]?).join with
        | some (.fz d) => some (.fz d :: cs, ρ1)
        | some c => some (c :: cs, ρ1.set i none)
        | none => none
    | none => none) := rfl
@[simp] theorem e_give_nil (ρ : En) (os : List (Option Cl)) : giveA ρ [] os = ρ := by cases os <;> rfl
@[simp] theorem e_give_none (ρ : En) (bs : List Bv) : giveA ρ bs [] = ρ := by
  cases bs with
  | nil => rfl
  | cons b bs => cases b <;> rfl
@[simp] theorem e_give_pls (ρ : En) (i : Nat) (bs : List Bv) (c : Cl) (os : List (Option Cl)) : giveA ρ (.pl i :: bs) (some c :: os) = giveA (match ρ[i]? with | some none => ρ.set i (some c) | _ => ρ) bs os := rfl
@[simp] theorem e_give_pln (ρ : En) (i : Nat) (bs : List Bv) (os : List (Option Cl)) : giveA ρ (.pl i :: bs) (none :: os) = giveA ρ bs os := rfl
@[simp] theorem e_give_vl (ρ : En) (c : Cl) (bs : List Bv) (o : Option Cl) (os : List (Option Cl)) : giveA ρ (.vl c :: bs) (o :: os) = giveA ρ bs os := by cases o <;> rfl
@[simp] theorem e_fin_nx (fl : List Bool) (ρ : En) : fin fl (.nx ρ) = some (.ok (.fz .none) (outsOf fl ρ)) := rfl
@[simp] theorem e_fin_rt (fl : List Bool) (c : Cl) (ρ : En) : fin fl (.rt c ρ) = some (.ok c (outsOf fl ρ)) := rfl
@[simp] theorem e_fin_ex (fl : List Bool) (x : Ex) (ρ : En) : fin fl (.ex x ρ) = some (.ex x (outsOf fl ρ)) := rfl
@[simp] theorem e_gN (i : Nat) (d : D) (ρ : En) : gN i d ρ = if i < ρ.length then some (ρ.set i (some (.fz d))) else none := rfl
@[simp] theorem e_gsNil (ρ : En) : gsNil [] ρ = some ρ := rfl
@[simp] theorem e_gsCons (f : FG) (g : FGs) (d : D) (ds : List D) (ρ : En) : gsCons f g (d :: ds) ρ = (match f d ρ with
    | some ρ1 => g ds ρ1
    | none => none) := rfl
@[simp] theorem e_gTp (n : Nat) (f : FGs) (ds : List D) (ρ : En) : gTp n f (.tuple ds) ρ = if ds.length = n then f ds ρ else none := rfl
@[simp] theorem e_fSu (k : Nat) (sub : Ex → Bool) (f : Ex → Option Cl) (x : Ex) (n : Nat) (ρ : En) : fSu k sub f x n ρ = if sub x = true then match f x with
  | some c => if k < ρ.length then some (.nx (ρ.set k (some c))) else none
  | none => none
  else none := rfl
@[simp] theorem e_hdl_nil (i : Nat) (x : Ex) (n : Nat) (ρ : En) : hdl i [] x n ρ = some (.ex x ρ) := rfl
@[simp] theorem e_hdl_cons (i : Nat) (sub : Ex → Option Bool) (f : Ex → FS) (l : List ((Ex → Option Bool) × (Ex → FS))) (x : Ex) (n : Nat) (ρ : En) : hdl i ((sub, f) :: l) x n ρ = (match sub x with
    | some true => if i < ρ.length then (f x n (ρ.set i none)).bind (Ot.gone i) else none
    | some false => hdl i l x n ρ
    | none => none) := rfl
@[simp] theorem e_gone_nx (i : Nat) (ρ : En) : Ot.gone i (.nx ρ) = some (.nx (ρ.set i none)) := rfl
@[simp] theorem e_gAddI (i j : Int) : gAdd [.fz (.int i), .fz (.int j)] = some (.fz (.int (i + j))) := rfl
@[simp] theorem e_gSubI (i j : Int) : gSub [.fz (.int i), .fz (.int j)] = some (.fz (.int (i - j))) := rfl
@[simp] theorem e_gNegI (i : Int) : gNeg [.fz (.int i)] = some (.fz (.int (-i))) := rfl
@[simp] theorem e_gII (p : Int → Int → Bool) (i j : Int) : gI p [.fz (.int i), .fz (.int j)] = some (.fz (.bool (p i j))) := rfl
@[simp] theorem e_gLenL (ds : List D) : gLen [.lst ds] = some (.fz (.int ds.length)) := rfl
@[simp] theorem e_gLenF (ds : List D) : gLen [.fz (.list ds)] = some (.fz (.int ds.length)) := rfl
@[simp] theorem e_gLenT (ds : List D) : gLen [.fz (.tuple ds)] = some (.fz (.int ds.length)) := rfl
@[simp] theorem e_gLenAL (ds : List D) : gLenA [.lst ds] = some (.fz (.int ds.length)) := rfl
@[simp] theorem e_gLenAF (ds : List D) : gLenA [.fz (.list ds)] = some (.fz (.int ds.length)) := rfl
@[simp] theorem e_gLenAT (ds : List D) : gLenA [.fz (.tuple ds)] = some (.fz (.int ds.length)) := rfl
@[simp] theorem e_gLenAD (es : List (Key × D)) : gLenA [.dct es] = some (.fz (.int es.length)) := rfl
@[simp] theorem e_isL (ds : List D) : isL (.lst ds) = true := rfl
@[simp] theorem e_gIxL (ds : List D) (i : Int) : gIx [.lst ds, .fz (.int i)] = (atI ds i).map .fz := rfl
@[simp] theorem e_gIxF (ds : List D) (i : Int) : gIx [.fz (.list ds), .fz (.int i)] = (atI ds i).map .fz := rfl
@[simp] theorem e_gIxT (ds : List D) (i : Int) : gIx [.fz (.tuple ds), .fz (.int i)] = (atI ds i).map .fz := rfl
@[simp] theorem e_gTupleL (ds : List D) : gTuple [.lst ds] = some (.fz (.tuple ds)) := rfl
@[simp] theorem e_gTupleF (ds : List D) : gTuple [.fz (.list ds)] = some (.fz (.tuple ds)) := rfl
@[simp] theorem e_gTupleT (ds : List D) : gTuple [.fz (.tuple ds)] = some (.fz (.tuple ds)) := rfl
@[simp] theorem e_gListL (ds : List D) : gList [.lst ds] = some (.lst ds) := rfl
@[simp] theorem e_gListF (ds : List D) : gList [.fz (.list ds)] = some (.lst ds) := rfl
@[simp] theorem e_gListT (ds : List D) : gList [.fz (.tuple ds)] = some (.lst ds) := rfl
@[simp] theorem e_gMax (i j : Int) : gMax2 [.fz (.int i), .fz (.int j)] = some (.fz (.int (max i j))) := by
  show some (Cl.fz (.int (if j > i then j else i))) = _
  rw [show max i j = if j > i then j else i from by
    split <;> omega]
@[simp] theorem e_gMin (i j : Int) : gMin2 [.fz (.int i), .fz (.int j)] = some (.fz (.int (min i j))) := by
  show some (Cl.fz (.int (if j < i then j else i))) = _
  rw [show min i j = if j < i then j else i from by
    split <;> omega]
@[simp] theorem e_gAbs (i : Int) : gAbs [.fz (.int i)] = some (.fz (.int i.natAbs)) := by
  show some (Cl.fz (.int (if i < 0 then -i else i))) = _
  rw [show (i.natAbs : Int) = if i < 0 then -i else i from by
    split <;> omega]
@[simp] theorem e_gIntI (i : Int) : gInt [.fz (.int i)] = some (.fz (.int i)) := rfl
/-! ints -/
def is_int (d : D) : Bool := match d with
  | .bool _ => true
  | .int _ => true
  | _ => false
@[simp] theorem e_isi_int : ∀ d : D, isiD "int" d = some (is_int d)
  | .none => show kitB "NoneType" "int" = some false from by decide +kernel
  | .bool _ => show kitB "bool" "int" = some true from by decide +kernel
  | .int _ => show kitB "int" "int" = some true from by decide +kernel
  | .str _ => show kitB "str" "int" = some false from by decide +kernel
  | .list _ => show kitB "list" "int" = some false from by decide +kernel
  | .tuple _ => show kitB "tuple" "int" = some false from by decide +kernel
  | .dict _ => show kitB "dict" "int" = some false from by decide +kernel
def is_bool (d : D) : Bool := match d with
  | .bool _ => true
  | _ => false
@[simp] theorem e_isi_bool : ∀ d : D, isiD "bool" d = some (is_bool d)
  | .none => show kitB "NoneType" "bool" = some false from by decide +kernel
  | .bool _ => show kitB "bool" "bool" = some true from by decide +kernel
  | .int _ => show kitB "int" "bool" = some false from by decide +kernel
  | .str _ => show kitB "str" "bool" = some false from by decide +kernel
  | .list _ => show kitB "list" "bool" = some false from by decide +kernel
  | .tuple _ => show kitB "tuple" "bool" = some false from by decide +kernel
  | .dict _ => show kitB "dict" "bool" = some false from by decide +kernel
def is_tuple (d : D) : Bool := match d with
  | .tuple _ => true
  | _ => false
@[simp] theorem e_isi_tuple : ∀ d : D, isiD "tuple" d = some (is_tuple d)
  | .none => show kitB "NoneType" "tuple" = some false from by decide +kernel
  | .bool _ => show kitB "bool" "tuple" = some false from by decide +kernel
  | .int _ => show kitB "int" "tuple" = some false from by decide +kernel
  | .str _ => show kitB "str" "tuple" = some false from by decide +kernel
  | .list _ => show kitB "list" "tuple" = some false from by decide +kernel
  | .tuple _ => show kitB "tuple" "tuple" = some true from by decide +kernel
  | .dict _ => show kitB "dict" "tuple" = some false from by decide +kernel
def is_list (d : D) : Bool := match d with
  | .list _ => true
  | _ => false
@[simp] theorem e_isi_list : ∀ d : D, isiD "list" d = some (is_list d)
  | .none => show kitB "NoneType" "list" = some false from by decide +kernel
  | .bool _ => show kitB "bool" "list" = some false from by decide +kernel
  | .int _ => show kitB "int" "list" = some false from by decide +kernel
  | .str _ => show kitB "str" "list" = some false from by decide +kernel
  | .list _ => show kitB "list" "list" = some true from by decide +kernel
  | .tuple _ => show kitB "tuple" "list" = some false from by decide +kernel
  | .dict _ => show kitB "dict" "list" = some false from by decide +kernel
def is_str (d : D) : Bool := match d with
  | .str _ => true
  | _ => false
@[simp] theorem e_isi_str : ∀ d : D, isiD "str" d = some (is_str d)
  | .none => show kitB "NoneType" "str" = some false from by decide +kernel
  | .bool _ => show kitB "bool" "str" = some false from by decide +kernel
  | .int _ => show kitB "int" "str" = some false from by decide +kernel
  | .str _ => show kitB "str" "str" = some true from by decide +kernel
  | .list _ => show kitB "list" "str" = some false from by decide +kernel
  | .tuple _ => show kitB "tuple" "str" = some false from by decide +kernel
  | .dict _ => show kitB "dict" "str" = some false from by decide +kernel
@[simp] theorem e_isi2_lt : ∀ d : D, isiD2 "list" "tuple" d = some (is_list d || is_tuple d)
  | .none => rfl
  | .bool _ => rfl
  | .int _ => rfl
  | .str _ => rfl
  | .list _ => rfl
  | .tuple _ => rfl
  | .dict _ => rfl
def zs (ns : List Int) : List D := ns.map PyData.int
@[simp] theorem zs_len (ns : List Int) : (zs ns).length = ns.length := List.length_map _
@[simp] theorem intsD_zs : ∀ ns : List Int, intsD (zs ns) = some ns
  | [] => rfl
  | n :: ns => by
    show (match intsD (zs ns) with | some ns => some (n :: ns) | none => none) = _
    rw [intsD_zs ns]
theorem zs_of {ds : List D} {ns : List Int} (h : intsD ds = some ns) : ds = zs ns := intsD_ok h
theorem zs_get {ns : List Int} {i : Nat} {x : Int} (h : ns[i]? = some x) : (zs ns)[i]? = some (.int x) := by
  unfold zs
  rw [List.getElem?_map, h]; rfl
theorem ixN_nat {n i : Nat} (h : i < n) : ixN n (i : Int) = some i := by
  unfold ixN
  rw [if_pos (by omega), if_pos (by omega)]; simp
theorem atI_zs {ns : List Int} {i : Nat} {x : Int} (h : ns[i]? = some x) : atI (zs ns) (i : Int) = some (.int x) := atI_nat (zs_get h)
theorem sh_int (i : Int) : SeqAt.shaped (.int i) = true := rfl
theorem lay_zs : ∀ ns : List Int, PyData.canLayAll0 (zs ns) = true
  | [] => rfl
  | _ :: ns => lay_zs ns
theorem eqv_int (i j : Int) : PyData.eqv (.int i) (.int j) = decide (i = j) := by
  unfold PyData.eqv
  first | rfl | simp
@[simp] theorem e_gEqI (i j : Int) : gEq [.fz (.int i), .fz (.int j)] = some (.fz (.bool (decide (i = j)))) := by
  show (if (SeqAt.shaped (.int i) && SeqAt.shaped (.int j)) = true then some (Cl.fz (.bool (PyData.eqv (.int i) (.int j)))) else none) = _
  rw [sh_int, sh_int, eqv_int]
  rfl
@[simp] theorem e_gNeI (i j : Int) : gNe [.fz (.int i), .fz (.int j)] = some (.fz (.bool (!decide (i = j)))) := by
  show (if (SeqAt.shaped (.int i) && SeqAt.shaped (.int j)) = true then some (Cl.fz (.bool (!PyData.eqv (.int i) (.int j)))) else none) = _
  rw [sh_int, sh_int, eqv_int]
  rfl
theorem dep_zs : ∀ ns : List Int, PyData.depthAll (zs ns) = 0
  | [] => rfl
  | _ :: ns => by
    show max 0 (PyData.depthAll (zs ns)) = 0
    rw [dep_zs ns]; rfl
theorem sh_tup (ns : List Int) : SeqAt.shaped (.tuple (zs ns)) = true := by
  show (PyData.canLayAll0 (zs ns) && decide (PyData.depthAll (zs ns) + 1 ≤ 64)) = true
  rw [lay_zs, dep_zs]; rfl
theorem sh_lst (ns : List Int) : SeqAt.shaped (.list (zs ns)) = true := by
  show (PyData.canLayAll0 (zs ns) && decide (PyData.depthAll (zs ns) + 1 ≤ 64)) = true
  rw [lay_zs, dep_zs]; rfl
theorem eqv_zs : ∀ a b : List Int, PyData.eqvAll (zs a) (zs b) = decide (a = b)
  | [], [] => rfl
  | [], _ :: _ => rfl
  | _ :: _, [] => rfl
  | x :: a, y :: b => by
    show (PyData.eqv (.int x) (.int y) && PyData.eqvAll (zs a) (zs b)) = _
    rw [eqv_int, eqv_zs a b]
    by_cases h1 : x = y <;> by_cases h2 : a = b <;> simp [h1, h2]
@[simp] theorem e_gEqT (a b : List Int) : gEq [.fz (.tuple (zs a)), .fz (.tuple (zs b))] = some (.fz (.bool (decide (a = b)))) := by
  show (if (SeqAt.shaped (.tuple (zs a)) && SeqAt.shaped (.tuple (zs b))) = true then some (Cl.fz (.bool (PyData.eqvAll (zs a) (zs b)))) else none) = _
  rw [sh_tup, sh_tup, eqv_zs]
  rfl
@[simp] theorem e_gNeT (a b : List Int) : gNe [.fz (.tuple (zs a)), .fz (.tuple (zs b))] = some (.fz (.bool (!decide (a = b)))) := by
  show (if (SeqAt.shaped (.tuple (zs a)) && SeqAt.shaped (.tuple (zs b))) = true then some (Cl.fz (.bool (!PyData.eqvAll (zs a) (zs b)))) else none) = _
  rw [sh_tup, sh_tup, eqv_zs]
  rfl
@[simp] theorem e_gEqT0 (a : List Int) : gEq [.fz (.tuple (zs a)), .fz (.tuple [])] = some (.fz (.bool (decide (a = [])))) := e_gEqT a []
@[simp] theorem e_gNeT0 (a : List Int) : gNe [.fz (.tuple (zs a)), .fz (.tuple [])] = some (.fz (.bool (!decide (a = [])))) := e_gNeT a []
theorem zs_nil : zs [] = [] := rfl
theorem zs_cons (x : Int) (ns : List Int) : zs (x :: ns) = .int x :: zs ns := rfl
theorem zs_app (a b : List Int) : zs (a ++ b) = zs a ++ zs b := List.map_append
theorem atI_neg1 (ns : List Int) : atI (zs ns) (-1) = ns.getLast?.map PyData.int := by
  by_cases h : ns = []
  · subst h; rfl
  · have e : ns.dropLast ++ [ns.getLast h] = ns := List.dropLast_concat_getLast h
    rw [List.getLast?_eq_getLast h]
    have := atI_last (zs ns.dropLast) (.int (ns.getLast h))
    rw [show zs ns.dropLast ++ [.int (ns.getLast h)] = zs (ns.dropLast ++ [ns.getLast h]) from (zs_app ns.dropLast [ns.getLast h]).symm, e] at this
    exact this
theorem gEqLL (c1 c2 : Cl) (a b : List Int) (h1 : c1.data = some (.list (zs a))) (h2 : c2.data = some (.list (zs b))) : gEq [c1, c2] = some (.fz (.bool (decide (a = b)))) := by
  show (match c1.data, c2.data with
    | some d, some e => if (SeqAt.shaped d && SeqAt.shaped e) = true then some (Cl.fz (.bool (PyData.eqv d e))) else none
    | _, _ => none) = _
  rw [h1, h2]
  show (if (SeqAt.shaped (.list (zs a)) && SeqAt.shaped (.list (zs b))) = true then some (Cl.fz (.bool (PyData.eqvAll (zs a) (zs b)))) else none) = _
  rw [sh_lst, sh_lst, eqv_zs]
  rfl
@[simp] theorem e_gEqL (a b : List Int) : gEq [.lst (zs a), .lst (zs b)] = some (.fz (.bool (decide (a = b)))) := gEqLL _ _ a b rfl rfl
@[simp] theorem e_gEqL0 (a : List Int) : gEq [.lst (zs a), .lst []] = some (.fz (.bool (decide (a = [])))) := gEqLL _ _ a [] rfl rfl
@[simp] theorem e_gEqL00 : gEq [.lst [], .lst []] = some (.fz (.bool true)) := gEqLL _ _ [] [] rfl rfl
theorem smI_nat {n : Nat} (h : n ≤ 1000000) : smI (n : Int) = true := Nat.ble_eq_true_of_le (by omega)
theorem log2_lt {n k : Nat} (h : n < 2 ^ k) (hk : 0 < k) : n.log2 < k := by
  by_cases h0 : n = 0
  · subst h0
    exact hk
  · exact (Nat.log2_lt h0).mpr h
theorem mulOk {i j : Int} (h : i.natAbs < 2 ^ 64 ∨ j.natAbs < 2 ^ 64) : mulBad i j = false := by
  have key : ∀ x : Int, x.natAbs < 2 ^ 64 → decide (Builtin.Int.intBits x > shortFactorBits) = false := fun x hx => by
    refine decide_eq_false fun z => ?_
    unfold Builtin.Int.intBits shortFactorBits at z
    split at z
    · omega
    · have := log2_lt hx (by decide)
      omega
  unfold mulBad
  rcases h with h | h
  · rw [key i h]; rfl
  · rw [key j h, Bool.and_false]; rfl
theorem e_gMulI {i j : Int} (h : i.natAbs < 2 ^ 64 ∨ j.natAbs < 2 ^ 64) : gMul [.fz (.int i), .fz (.int j)] = some (.fz (.int (i * j))) := by
  show (if mulBad i j = true then none else some (Cl.fz (.int (i * j)))) = _
  rw [mulOk h]; rfl
theorem e_gModI {i j : Int} (h : j ≠ 0) : gMod [.fz (.int i), .fz (.int j)] = some (.fz (.int (i.fmod j))) := by
  show (if j = 0 then none else some (Cl.fz (.int (i.fmod j)))) = _
  rw [if_neg h]
theorem pylong_small {i j : Int} (h : j.natAbs < 2 ^ 9000) : Builtin.divisionGoesByPylong i j = false := by
  unfold Builtin.divisionGoesByPylong
  refine Bool.and_eq_false_imp.mpr fun z => ?_
  have z := of_decide_eq_true z
  dsimp only at z
  split at z
  · omega
  · have := log2_lt h (by decide)
    omega
theorem e_gFdivI {i j : Int} (h : j ≠ 0) (h2 : j.natAbs < 2 ^ 9000) : gFdiv [.fz (.int i), .fz (.int j)] = some (.fz (.int (i.fdiv j))) := by
  show (if (decide (j ≠ 0) && !Builtin.divisionGoesByPylong i j) = true then some (Cl.fz (.int (i.fdiv j))) else none) = _
  rw [pylong_small h2, decide_eq_true h]; rfl
theorem rep1 {α : Type} (x : α) : ∀ k : Nat, (List.replicate k [x]).flatten = List.replicate k x
  | 0 => rfl
  | k + 1 => by
    rw [List.replicate_succ, List.flatten_cons, rep1 x k, List.replicate_succ]; rfl
theorem zs_rep (x : Int) (k : Nat) : zs (List.replicate k x) = List.replicate k (.int x) := List.map_replicate
theorem e_gRep {x k : Int} (h1 : -10000000 ≤ k) (h2 : k ≤ 10000000) : gMul [.lst [.int x], .fz (.int k)] = some (.lst (zs (List.replicate k.toNat x))) := by
  show (if (Nat.ble k.natAbs 10000000 && lsz ([PyData.int x].length * k.toNat)) = true then some (Cl.lst (List.replicate k.toNat [PyData.int x]).flatten) else none) = _
  have e : (Nat.ble k.natAbs 10000000 && lsz ([PyData.int x].length * k.toNat)) = true := by
    unfold lsz
    rw [Bool.and_eq_true]
    refine ⟨Nat.ble_eq_true_of_le (by omega), decide_eq_true ?_⟩
    show 1 * k.toNat ≤ _
    omega
  rw [if_pos e, rep1, zs_rep]
theorem wh_step {t : Fn Bool} {f : FS} {n m : Nat} {ρ ρ1 ρ2 : En} (h1 : t n ρ = some (.ok true ρ1)) (h2 : f n ρ1 = some (.nx ρ2)) : whF t f n (m + 1) ρ = whF t f n m ρ2 := by
  show (bS (t n ρ) fun c ρ1 => if c = true then (match f n ρ1 with
      | some (.nx ρ2) => whF t f n m ρ2
      | some (.ct ρ2) => whF t f n m ρ2
      | some (.bk ρ2) => some (.nx ρ2)
      | some (.rt c ρ2) => some (.rt c ρ2)
      | some (.ex x ρ2) => some (.ex x ρ2)
      | none => none) else some (.nx ρ1)) = _
  rw [h1, bS_ok, if_pos rfl, h2]
theorem wh_stop {t : Fn Bool} {f : FS} {n m : Nat} {ρ ρ1 : En} (h1 : t n ρ = some (.ok false ρ1)) : whF t f n (m + 1) ρ = some (.nx ρ1) := by
  show (bS (t n ρ) fun c ρ1 => if c = true then (match f n ρ1 with
      | some (.nx ρ2) => whF t f n m ρ2
      | some (.ct ρ2) => whF t f n m ρ2
      | some (.bk ρ2) => some (.nx ρ2)
      | some (.rt c ρ2) => some (.rt c ρ2)
      | some (.ex x ρ2) => some (.ex x ρ2)
      | none => none) else some (.nx ρ1)) = _
  rw [h1, bS_ok, if_neg Bool.false_ne_true]
theorem for_step {g : FG} {f : FS} {n : Nat} {d : D} {ds : List D} {ρ ρ1 ρ2 : En} (h1 : g d ρ = some ρ1) (h2 : f n ρ1 = some (.nx ρ2)) : forF g f n (d :: ds) ρ = forF g f n ds ρ2 := by
  rw [forF, h1]
  dsimp only
  rw [h2]
theorem for_ex {g : FG} {f : FS} {n : Nat} {d : D} {ds : List D} {ρ ρ1 ρ2 : En} {x : Ex} (h1 : g d ρ = some ρ1) (h2 : f n ρ1 = some (.ex x ρ2)) : forF g f n (d :: ds) ρ = some (.ex x ρ2) := by
  rw [forF, h1]
  dsimp only
  rw [h2]
theorem for_rt {g : FG} {f : FS} {n : Nat} {d : D} {ds : List D} {ρ ρ1 ρ2 : En} {c : Cl} (h1 : g d ρ = some ρ1) (h2 : f n ρ1 = some (.rt c ρ2)) : forF g f n (d :: ds) ρ = some (.rt c ρ2) := by
  rw [forF, h1]
  dsimp only
  rw [h2]
theorem lc_step {N : Nat} {g : FG} {e : Fn Bv} {vs : List Nat} {n : Nat} {d y : D} {ds acc : List D} {ρ ρ2 ρ4 ρ5 : En} (h1 : g d ρ = some ρ2) (h2 : ρ2.length = N) (h3 : fFz e n ρ2 = some (.ok (.fz y) ρ4)) (h5 : wipR ρ4 vs = ρ5) : lcF N g fYes e vs n (d :: ds) ρ acc = lcF N g fYes e vs n ds ρ5 (acc ++ [y]) := by
  rw [lcF, h1]
  dsimp only
  rw [if_pos h2]
  show (match fFz e n ρ2 with
        | some (.ok (.fz y) ρ4) => lcF N g fYes e vs n ds (wipR ρ4 vs) (acc ++ [y])
        | _ => none) = _
  rw [h3, ← h5]
theorem lc_stepT {N : Nat} {g : FG} {t : Fn Bool} {e : Fn Bv} {vs : List Nat} {n : Nat} {d y : D} {ds acc : List D} {ρ ρ2 ρ3 ρ4 ρ5 : En} (h1 : g d ρ = some ρ2) (h2 : ρ2.length = N) (ht : t n ρ2 = some (.ok true ρ3)) (h3 : fFz e n ρ3 = some (.ok (.fz y) ρ4)) (h5 : wipR ρ4 vs = ρ5) : lcF N g t e vs n (d :: ds) ρ acc = lcF N g t e vs n ds ρ5 (acc ++ [y]) := by
  rw [lcF, h1]
  dsimp only
  rw [if_pos h2, ht]
  dsimp only
  rw [h3, ← h5]
theorem lc_stepF {N : Nat} {g : FG} {t : Fn Bool} {e : Fn Bv} {vs : List Nat} {n : Nat} {d : D} {ds acc : List D} {ρ ρ2 ρ3 ρ5 : En} (h1 : g d ρ = some ρ2) (h2 : ρ2.length = N) (ht : t n ρ2 = some (.ok false ρ3)) (h5 : wipR ρ3 vs = ρ5) : lcF N g t e vs n (d :: ds) ρ acc = lcF N g t e vs n ds ρ5 acc := by
  rw [lcF, h1]
  dsimp only
  rw [if_pos h2, ht, ← h5]
theorem e_gFdivS {i j : Int} (h : j ≠ 0) (h2 : j.natAbs < 2 ^ 64) : gFdiv [.fz (.int i), .fz (.int j)] = some (.fz (.int (i.fdiv j))) :=
  e_gFdivI h (Nat.lt_of_lt_of_le h2 (Nat.pow_le_pow_right (Nat.zero_lt_succ 1) (by omega)))
/-- a loop by an invariant over what it has taken -/
theorem forF_inv {g : FG} {f : FS} {n : Nat} (I : List D → En → Prop) (tot : List D) (step : ∀ pre d post ρ, pre ++ d :: post = tot → I pre ρ → ∃ ρ1 ρ2, g d ρ = some ρ1 ∧ (f n ρ1 = some (.nx ρ2) ∨ f n ρ1 = some (.ct ρ2)) ∧ I (pre ++ [d]) ρ2) :
    ∀ (ds pre : List D) (ρ : En), pre ++ ds = tot → I pre ρ → ∃ ρ', forF g f n ds ρ = some (.nx ρ') ∧ I tot ρ'
  | [], pre, ρ, e, h => ⟨ρ, rfl, by rw [List.append_nil] at e; rw [← e]; exact h⟩
  | d :: ds, pre, ρ, e, h => by
    obtain ⟨ρ1, ρ2, h1, h2, h3⟩ := step pre d ds ρ e h
    obtain ⟨ρ', h4, h5⟩ := forF_inv I tot step ds (pre ++ [d]) ρ2 (by rw [List.append_assoc]; exact e) h3
    refine ⟨ρ', ?_, h5⟩
    unfold forF
    rw [h1]
    dsimp only
    rcases h2 with h2 | h2 <;> rw [h2] <;> exact h4
theorem for_inv {g : FG} {f : FS} {n : Nat} {ds : List D} {ρ : En} (I : List D → En → Prop) (h : I [] ρ) (step : ∀ pre d post ρ, pre ++ d :: post = ds → I pre ρ → ∃ ρ1 ρ2, g d ρ = some ρ1 ∧ (f n ρ1 = some (.nx ρ2) ∨ f n ρ1 = some (.ct ρ2)) ∧ I (pre ++ [d]) ρ2) : ∃ ρ', forF g f n ds ρ = some (.nx ρ') ∧ I ds ρ' :=
  forF_inv I ds step ds [] ρ rfl h
/-- a comprehension by an invariant over what it has taken and made -/
theorem lcF_inv {N : Nat} {g : FG} {t : Fn Bool} {e : Fn Bv} {vs : List Nat} {n : Nat} (I : List D → List D → En → Prop) (tot : List D)
    (step : ∀ pre d post acc ρ, pre ++ d :: post = tot → I pre acc ρ → ∃ ρ2, g d ρ = some ρ2 ∧ ρ2.length = N ∧ ((∃ ρ3 y ρ4, t n ρ2 = some (.ok true ρ3) ∧ fFz e n ρ3 = some (.ok (.fz y) ρ4) ∧ I (pre ++ [d]) (acc ++ [y]) (wipR ρ4 vs)) ∨ (∃ ρ3, t n ρ2 = some (.ok false ρ3) ∧ I (pre ++ [d]) acc (wipR ρ3 vs)))) :
    ∀ (ds pre : List D) (acc : List D) (ρ : En), pre ++ ds = tot → I pre acc ρ → ∃ acc' ρ', lcF N g t e vs n ds ρ acc = some (.ok (.lst acc') ρ') ∧ I tot acc' ρ'
  | [], pre, acc, ρ, e, h => ⟨acc, ρ, rfl, by rw [List.append_nil] at e; rw [← e]; exact h⟩
  | d :: ds, pre, acc, ρ, e, h => by
    obtain ⟨ρ2, h1, h2, h3⟩ := step pre d ds acc ρ e h
    unfold lcF
    rw [h1]
    dsimp only
    rw [if_pos h2]
    rcases h3 with ⟨ρ3, y, ρ4, h4, h5, h6⟩ | ⟨ρ3, h4, h6⟩
    · rw [h4]
      dsimp only
      rw [h5]
      exact lcF_inv I tot step ds (pre ++ [d]) (acc ++ [y]) _ (by rw [List.append_assoc]; exact e) h6
    · rw [h4]
      exact lcF_inv I tot step ds (pre ++ [d]) acc _ (by rw [List.append_assoc]; exact e) h6
theorem lc_inv {N : Nat} {g : FG} {t : Fn Bool} {e : Fn Bv} {vs : List Nat} {n : Nat} {ds : List D} {ρ : En} (I : List D → List D → En → Prop) (h : I [] [] ρ)
    (step : ∀ pre d post acc ρ, pre ++ d :: post = ds → I pre acc ρ → ∃ ρ2, g d ρ = some ρ2 ∧ ρ2.length = N ∧ ((∃ ρ3 y ρ4, t n ρ2 = some (.ok true ρ3) ∧ fFz e n ρ3 = some (.ok (.fz y) ρ4) ∧ I (pre ++ [d]) (acc ++ [y]) (wipR ρ4 vs)) ∨ (∃ ρ3, t n ρ2 = some (.ok false ρ3) ∧ I (pre ++ [d]) acc (wipR ρ3 vs)))) :
    ∃ acc' ρ', lcF N g t e vs n ds ρ [] = some (.ok (.lst acc') ρ') ∧ I ds acc' ρ' := lcF_inv I ds step ds [] [] ρ rfl h
/-- a comprehension that changes nothing beside its own slots -/
theorem lc_map {N : Nat} {g : FG} {e : Fn Bv} {vs : List Nat} {n : Nat} {ρ : En} (φ : D → D) : ∀ (ds acc : List D), (∀ d ∈ ds, ∃ ρ2 ρ4, g d ρ = some ρ2 ∧ ρ2.length = N ∧ fFz e n ρ2 = some (.ok (.fz (φ d)) ρ4) ∧ wipR ρ4 vs = ρ) → lcF N g fYes e vs n ds ρ acc = some (.ok (.lst (acc ++ ds.map φ)) ρ)
  | [], acc, _ => by
    unfold lcF
    rw [List.map_nil, List.append_nil]
  | d :: ds, acc, h => by
    obtain ⟨ρ2, ρ4, h1, h2, h3, h4⟩ := h d List.mem_cons_self
    unfold lcF
    rw [h1]
    dsimp only
    rw [if_pos h2]
    show (match fFz e n ρ2 with
        | some (.ok (.fz y) ρ4) => lcF N g fYes e vs n ds (wipR ρ4 vs) (acc ++ [y])
        | _ => none) = _
    rw [h3]
    dsimp only
    rw [h4, lc_map φ ds (acc ++ [φ d]) fun d hd => h d (List.mem_cons_of_mem _ hd), List.append_assoc]
    rfl
@[simp] theorem e_fOf (f : Fn Cl) (n : Nat) (ρ : En) : fOf f n ρ = (bnd (f n ρ) fun c ρ' => some (.ok (.vl c) ρ')) := rfl
@[simp] theorem e_fPl (i : Nat) (n0 : Nat) (ρ : En) : fPl i n0 ρ = (if ((ρ[i]?).join).isSome then some (.ok (.pl i) ρ) else none) := rfl
@[simp] theorem e_fNil (n0 : Nat) (ρ : En) : fNil  n0 ρ = (some (.ok [] ρ)) := rfl
@[simp] theorem e_fCons (f : Fn Bv) (g : Fn (List Bv)) (n : Nat) (ρ : En) : fCons f g n ρ = (bnd (f n ρ) fun b ρ1 => bnd (g n ρ1) fun bs ρ2 => some (.ok (b :: bs) ρ2)) := rfl
@[simp] theorem e_fPr (f : Fn (List Bv)) (g : List Cl → Option Cl) (n : Nat) (ρ : En) : fPr f g n ρ = (bnd (f n ρ) fun bs ρ1 => match lks ρ1 bs with
    | some cs => match g cs with
      | some c => some (.ok c ρ1)
      | none => none
    | none => none) := rfl
@[simp] theorem e_fFz (f : Fn Bv) (n : Nat) (ρ : En) : fFz f n ρ = (bnd (f n ρ) fun b ρ1 => match fzB ρ1 b with
    | some (d, ρ2) => some (.ok (.fz d) ρ2)
    | none => none) := rfl
@[simp] theorem e_fMv (i : Nat) (n0 : Nat) (ρ : En) : fMv i n0 ρ = (match (ρ[i]?).join with
    | some c => some (.ok c (ρ.set i none))
    | none => none) := rfl
@[simp] theorem e_fC (d : D) (n0 : Nat) (ρ : En) : fC d n0 ρ = (some (.ok (.fz d) ρ)) := rfl
@[simp] theorem e_fTup (f : Fn (List Bv)) (n : Nat) (ρ : En) : fTup f n ρ = (bnd (f n ρ) fun bs ρ1 => match fzBs ρ1 bs with
    | some (ds, ρ2) => if ds.length ≤ 1000 then some (.ok (.fz (.tuple ds)) ρ2) else none
    | none => none) := rfl
@[simp] theorem e_fLst (f : Fn (List Bv)) (n : Nat) (ρ : En) : fLst f n ρ = (bnd (f n ρ) fun bs ρ1 => match fzBs ρ1 bs with
    | some (ds, ρ2) => if ds.length ≤ 1000 then some (.ok (.lst ds) ρ2) else none
    | none => none) := rfl
@[simp] theorem e_fTst (f : Fn Cl) (n : Nat) (ρ : En) : fTst f n ρ = (bnd (f n ρ) fun c ρ1 => match asB c with
    | some b => some (.ok b ρ1)
    | none => none) := rfl
@[simp] theorem e_fAnd (t u : Fn Bool) (n : Nat) (ρ : En) : fAnd t u n ρ = (bnd (t n ρ) fun c ρ1 => if c = true then u n ρ1 else some (.ok false ρ1)) := rfl
@[simp] theorem e_fOr (t u : Fn Bool) (n : Nat) (ρ : En) : fOr t u n ρ = (bnd (t n ρ) fun c ρ1 => if c = true then some (.ok true ρ1) else u n ρ1) := rfl
@[simp] theorem e_fNot (t : Fn Bool) (n : Nat) (ρ : En) : fNot t n ρ = (bnd (t n ρ) fun c ρ1 => some (.ok (!c) ρ1)) := rfl
@[simp] theorem e_fBv (t : Fn Bool) (n : Nat) (ρ : En) : fBv t n ρ = (bnd (t n ρ) fun c ρ1 => some (.ok (.fz (.bool c)) ρ1)) := rfl
@[simp] theorem e_fAndV (f : Fn Cl) (g : Fn Cl) (n : Nat) (ρ : En) : fAndV f g n ρ = (bnd (fTst f n ρ) fun c ρ1 => if c = true then g n ρ1 else some (.ok (.fz (.bool false)) ρ1)) := rfl
@[simp] theorem e_fOrV (f : Fn Cl) (g : Fn Cl) (n : Nat) (ρ : En) : fOrV f g n ρ = (bnd (fTst f n ρ) fun c ρ1 => if c = true then some (.ok (.fz (.bool true)) ρ1) else g n ρ1) := rfl
@[simp] theorem e_fIf (t : Fn Bool) (f g : Fn Cl) (n : Nat) (ρ : En) : fIf t f g n ρ = (bnd (t n ρ) fun c ρ1 => if c = true then f n ρ1 else g n ρ1) := rfl
@[simp] theorem e_fCh (fa fb fc : Fn Bv) (g g' : List Cl → Option Cl) (n : Nat) (ρ : En) : fCh fa fb fc g g' n ρ = (bnd (fa n ρ) fun ba ρ0 => bnd (fb n ρ0) fun bb ρ1 => match lks ρ1 [ba, bb] with
    | some cs => match g cs with
      | some (.fz (.bool true)) => bnd (fc n ρ1) fun bc ρ2 => match lks ρ2 [bb, bc] with
        | some cs' => match g' cs' with
          | some c' => some (.ok c' ρ2)
          | none => none
        | none => none
      | some (.fz (.bool false)) => some (.ok (.fz (.bool false)) ρ1)
      | _ => none
    | none => none) := rfl
@[simp] theorem e_fFzs (f : Fn (List Bv)) (n : Nat) (ρ : En) : fFzs f n ρ = (bnd (f n ρ) fun bs ρ1 => match fzBs ρ1 bs with
    | some (ds, ρ2) => some (.ok ds ρ2)
    | none => none) := rfl
@[simp] theorem e_fISeq (f : Fn Bv) (n : Nat) (ρ : En) : fISeq f n ρ = (bnd (fFzs (fCons f fNil) n ρ) fun ds ρ1 => match ds with
    | [d] => match asSeq d with
      | some xs => some (.ok xs ρ1)
      | none => none
    | _ => none) := rfl
@[simp] theorem e_fIEnum (f : Fn Bv) (n : Nat) (ρ : En) : fIEnum f n ρ = (bnd (fISeq f n ρ) fun ds ρ1 => some (.ok (enumD 0 ds) ρ1)) := rfl
@[simp] theorem e_fIZip (f g : Fn Bv) (n : Nat) (ρ : En) : fIZip f g n ρ = (bnd (fFzs (fCons f (fCons g fNil)) n ρ) fun ds ρ1 => match ds with
    | [.list xs, .list ys] => some (.ok (zipD xs ys) ρ1)
    | [.tuple xs, .tuple ys] => some (.ok (zipD xs ys) ρ1)
    | _ => none) := rfl
@[simp] theorem e_fIR1 (f : Fn Bv) (n : Nat) (ρ : En) : fIR1 f n ρ = (bnd (fFzs (fCons f fNil) n ρ) fun ds ρ1 => match ds with
    | [.int j] => if smI j = true then some (.ok (rngD 0 j.toNat) ρ1) else none
    | _ => none) := rfl
@[simp] theorem e_fIR2 (f g : Fn Bv) (n : Nat) (ρ : En) : fIR2 f g n ρ = (bnd (fFzs (fCons f (fCons g fNil)) n ρ) fun ds ρ1 => match ds with
    | [.int i, .int j] => if (smI i && smI j) = true then some (.ok (rngD i (j - i).toNat) ρ1) else none
    | _ => none) := rfl
@[simp] theorem e_fIR3 (f g h : Fn Bv) (n : Nat) (ρ : En) : fIR3 f g h n ρ = (bnd (fFzs (fCons f (fCons g (fCons h fNil))) n ρ) fun ds ρ1 => match ds with
    | [.int i, .int j, .int c] => if (smI i && smI j && decide (c = -1)) = true then some (.ok (rngCD i (-1) (i - j).toNat) ρ1) else none
    | _ => none) := rfl
@[simp] theorem e_sNil (n0 : Nat) (ρ : En) : sNil  n0 ρ = (some (.nx ρ)) := rfl
@[simp] theorem e_sSeq (f g : FS) (n : Nat) (ρ : En) : sSeq f g n ρ = (match f n ρ with
    | some (.nx ρ1) => g n ρ1
    | o => o) := rfl
@[simp] theorem e_sExpr (f : Fn Bv) (n : Nat) (ρ : En) : sExpr f n ρ = (bS (f n ρ) fun _ ρ1 => some (.nx ρ1)) := rfl
@[simp] theorem e_sRet (f : Fn Cl) (n : Nat) (ρ : En) : sRet f n ρ = (bS (f n ρ) fun c ρ1 => some (.rt c ρ1)) := rfl
@[simp] theorem e_sIf (t : Fn Bool) (f g : FS) (n : Nat) (ρ : En) : sIf t f g n ρ = (bS (t n ρ) fun c ρ1 => if c = true then f n ρ1 else g n ρ1) := rfl
@[simp] theorem e_sSet (i : Nat) (f : Fn Cl) (n : Nat) (ρ : En) : sSet i f n ρ = (bS (f n ρ) fun c ρ1 => if i < ρ1.length then some (.nx (ρ1.set i (some c))) else none) := rfl
@[simp] theorem e_sPar (i j : Nat) (f g : Fn Cl) (n : Nat) (ρ : En) : sPar i j f g n ρ = (bS (f n ρ) fun c ρ1 => bS (g n ρ1) fun d ρ2 => if i < ρ2.length ∧ j < ρ2.length then some (.nx ((ρ2.set i (some c)).set j (some d))) else none) := rfl
@[simp] theorem e_sAsg (g : FG) (f : Fn Bv) (n : Nat) (ρ : En) : sAsg g f n ρ = (bS (fFz f n ρ) fun c ρ1 => match c with
    | .fz d => match g d ρ1 with
      | some ρ2 => some (.nx ρ2)
      | none => none
    | _ => none) := rfl
@[simp] theorem e_sFor (i : Fn (List D)) (g : FG) (f : FS) (n : Nat) (ρ : En) : sFor i g f n ρ = (bS (i n ρ) fun ds ρ1 => forF g f n ds ρ1) := rfl
@[simp] theorem e_sWh (t : Fn Bool) (f : FS) (n : Nat) (ρ : En) : sWh t f n ρ = (whF t f n n ρ) := rfl
@[simp] theorem e_fLc (N : Nat) (vs : List Nat) (i : Fn (List D)) (g : FG) (t : Fn Bool) (e : Fn Bv) (n : Nat) (ρ : En) : fLc N vs i g t e n ρ = (bnd (i n ρ) fun ds ρ1 =>
    if (vs.all (fun j => decide (j < N)) && decide (ρ1.length = N) && decide (ds.length ≤ 1000000)) = true then lcF N g t e vs n ds (wipR ρ1 vs) [] else none) := rfl
@[simp] theorem e_fYes (n0 : Nat) (ρ : En) : fYes  n0 ρ = (some (.ok true ρ)) := rfl
@[simp] theorem e_fCall (m : Mr) (f : Fn (List Bv)) (n : Nat) (ρ : En) : fCall m f n ρ = (bnd (f n ρ) fun bs ρ1 => match takeA ρ1 bs with
    | some (cs, ρ2) => match m cs with
      | some (.ok c outs) => some (.ok c (giveA ρ2 bs outs))
      | some (.ex x outs) => some (.ex x (giveA ρ2 bs outs))
      | none => none
    | none => none) := rfl
@[simp] theorem e_fCall0 (m : Mr) (n0 : Nat) (ρ : En) : fCall0 m n0 ρ = (match m [] with
    | some (.ok c _) => some (.ok c ρ)
    | _ => none) := rfl
@[simp] theorem e_sRaise (c : Str) (n0 : Nat) (ρ : En) : sRaise c n0 ρ = (some (.ex ⟨c, []⟩ ρ)) := rfl
@[simp] theorem e_sRaiseI (c : Str) (fs : List Str) (f : Fn (List Bv)) (n : Nat) (ρ : En) : sRaiseI c fs f n ρ = (bS (fFzs f n ρ) fun ds ρ1 => if ds.length = fs.length ∧ ds.length ≤ 100 then some (.ex ⟨c, mkFsD fs ds⟩ ρ1) else none) := rfl
@[simp] theorem e_fIsi (T : String) (f : Fn Bv) (n : Nat) (ρ : En) : fIsi T f n ρ = (bnd (fFz f n ρ) fun c ρ1 => match c with
    | .fz d => match isiD T d with
      | some b => some (.ok (.fz (.bool b)) ρ1)
      | none => none
    | _ => none) := rfl
@[simp] theorem e_fSlL (f g : Fn Bv) (n : Nat) (ρ : En) : fSlL f g n ρ = (bnd (f n ρ) fun b ρ1 => bnd (fFz g n ρ1) fun c ρ2 => match c, lk ρ2 b with
    | .fz (.int i), some cb => match gSl (some i) none cb with
      | some c' => some (.ok c' ρ2)
      | none => none
    | _, _ => none) := rfl
@[simp] theorem e_fSlU (f g : Fn Bv) (n : Nat) (ρ : En) : fSlU f g n ρ = (bnd (f n ρ) fun b ρ1 => bnd (fFz g n ρ1) fun c ρ2 => match c, lk ρ2 b with
    | .fz (.int i), some cb => match gSl none (some i) cb with
      | some c' => some (.ok c' ρ2)
      | none => none
    | _, _ => none) := rfl
@[simp] theorem e_dNil (n0 : Nat) (ρ : En) : dNil  n0 ρ = (some (.ok [] ρ)) := rfl
@[simp] theorem e_dCons (f : Fn Bv) (g : Fn (List D)) (n : Nat) (ρ : En) : dCons f g n ρ = (bnd (fFz f n ρ) fun c ρ1 => match c with
    | .fz d => bnd (g n ρ1) fun ds ρ2 => some (.ok (d :: ds) ρ2)
    | _ => none) := rfl
@[simp] theorem e_dStar (f : Fn Bv) (g : Fn (List D)) (n : Nat) (ρ : En) : dStar f g n ρ = (bnd (fFz f n ρ) fun c ρ1 => match c with
    | .fz d => match asSeq d with
      | some xs => bnd (g n ρ1) fun ds ρ2 => some (.ok (xs ++ ds) ρ2)
      | none => none
    | _ => none) := rfl
@[simp] theorem e_fLstD (f : Fn (List D)) (n : Nat) (ρ : En) : fLstD f n ρ = (bnd (f n ρ) fun ds ρ1 => if lsz ds.length = true then some (.ok (.lst ds) ρ1) else none) := rfl
@[simp] theorem e_fTupD (f : Fn (List D)) (n : Nat) (ρ : En) : fTupD f n ρ = (bnd (f n ρ) fun ds ρ1 => if lsz ds.length = true then some (.ok (.fz (.tuple ds)) ρ1) else none) := rfl
@[simp] theorem e_sTry (i : Nat) (fb : FS) (l : List ((Ex → Option Bool) × (Ex → FS))) (n : Nat) (ρ : En) : sTry i fb l n ρ = (match fb n ρ with
    | some (.ex x ρ1) => hdl i l x n ρ1
    | o => o) := rfl
@[simp] theorem e_sSetIx (k : Nat) (fe fi : Fn Bv) (n : Nat) (ρ : En) : sSetIx k fe fi n ρ = (bS (fFz fe n ρ) fun c ρ1 => match c with
    | .fz d => if ((ρ1[k]?).join).isSome = true then bS (fFz fi n ρ1) fun c2 ρ2 => match c2 with
      | .fz j => match setIx ρ2 k j d with
        | some ρ3 => some (.nx ρ3)
        | none => none
      | _ => none
    else none
    | _ => none) := rfl
@[simp] theorem e_sAugIx (k : Nat) (fi fe : Fn Bv) (g : D → D → Option D) (n : Nat) (ρ : En) : sAugIx k fi fe g n ρ = (if ((ρ[k]?).join).isSome = true then bS (fFz fi n ρ) fun c ρ1 => match c with
    | .fz j => match getIx ρ1 k j with
      | some a => bS (fFz fe n ρ1) fun c2 ρ2 => match c2 with
        | .fz b => match g a b with
          | some d => match setIx ρ2 k j d with
            | some ρ3 => some (.nx ρ3)
            | none => none
          | none => none
        | _ => none
      | none => none
    | _ => none
    else none) := rfl
@[simp] theorem e_sAug (k : Nat) (fe : Fn Bv) (g : D → D → Option D) (n : Nat) (ρ : En) : sAug k fe g n ρ = (match (ρ[k]?).join with
    | some (.fz a) => bS (fFz fe n ρ) fun c ρ1 => match c with
      | .fz b => match g a b with
        | some d => if k < ρ1.length then some (.nx (ρ1.set k (some (.fz d)))) else none
        | none => none
      | _ => none
    | _ => none) := rfl
@[simp] theorem e_fDct0 (n0 : Nat) (ρ : En) : fDct0  n0 ρ = (some (.ok (.dct []) ρ)) := rfl
@[simp] theorem e_fRevT (f : Fn Bv) (n : Nat) (ρ : En) : fRevT f n ρ = (bnd (fFz f n ρ) fun c ρ1 => match c with
    | .fz (.tuple ds) => some (.ok (.fz (.tuple ds.reverse)) ρ1)
    | _ => none) := rfl
@[simp] theorem e_fIsi2 (T U : String) (f : Fn Bv) (n : Nat) (ρ : En) : fIsi2 T U f n ρ = (bnd (fFz f n ρ) fun c ρ1 => match c with
    | .fz d => match isiD2 T U d with
      | some b => some (.ok (.fz (.bool b)) ρ1)
      | none => none
    | _ => none) := rfl
@[simp] theorem e_fMth (ok : Cl → Bool) (k : Nat) (f : Fn (List Bv)) (g : Cl → List D → Option (D × Cl)) (n : Nat) (ρ : En) : fMth ok k f g n ρ = (match (ρ[k]?).join with
    | some c0 => if ok c0 = true then bnd (fFzs f n ρ) fun as ρ1 => match (ρ1[k]?).join with
      | some c => match g c as with
        | some (d, c') => some (.ok (.fz d) (ρ1.set k (some c')))
        | none => none
      | none => none
    else none
    | none => none) := rfl
@[simp] theorem e_fDc (N : Nat) (vs : List Nat) (i : Fn (List D)) (g : FG) (t : Fn Bool) (ek ev : Fn Bv) (n : Nat) (ρ : En) : fDc N vs i g t ek ev n ρ = (bnd (i n ρ) fun ds ρ1 =>
    if (vs.all (fun j => decide (j < N)) && decide (ρ1.length = N) && decide (ds.length ≤ 1000000)) = true then dcF N g t ek ev vs n ds (wipR ρ1 vs) [] else none) := rfl
@[simp] theorem e_fIDct (k : Nat) (n : Nat) (ρ : En) : fIDct k n ρ = (match (ρ[k]?).join with
    | some (.dct es) => some (.ok (keysD es) (ρ.set k (some (.dlk es))))
    | some (.dlk es) => some (.ok (keysD es) ρ)
    | _ => none) := rfl
@[simp] theorem e_fDG (k : Nat) (f : Fn (List Bv)) (n : Nat) (ρ : En) : fDG k f n ρ = (match (ρ[k]?).join with
    | some c0 => if (dctE c0).isSome = true then bnd (fFzs f n ρ) fun as ρ1 => match (ρ1[k]?).join, as with
      | some c, [kd, dd] => match dctE c, keyD kd with
        | some es, some key => some (.ok (.fz ((getK es key).getD dd)) ρ1)
        | _, _ => none
      | _, _ => none
    else none
    | none => none) := rfl
@[simp] theorem e_sSetIxD (k : Nat) (fe fi : Fn Bv) (n : Nat) (ρ : En) : sSetIxD k fe fi n ρ = (bS (fFz fe n ρ) fun c ρ1 => match c with
    | .fz d => if ((ρ1[k]?).join).isSome = true then bS (fFz fi n ρ1) fun c2 ρ2 => match c2 with
      | .fz j => match setIxD ρ2 k j d with
        | some ρ3 => some (.nx ρ3)
        | none => none
      | _ => none
    else none
    | _ => none) := rfl
@[simp] theorem e_fRest (vs : List Nat) (f : Fn Cl) (n : Nat) (ρ : En) : fRest vs f n ρ = (match f n ρ with
    | some (.ok c ρ') => some (.ok c (restR ρ vs ρ'))
    | r => r) := rfl
@[simp] theorem e_fIStr (f : Fn Bv) (n : Nat) (ρ : En) : fIStr f n ρ = (bnd (fFz f n ρ) fun c ρ1 => match c with
    | .fz (.str x) => some (.ok (signsD x) ρ1)
    | _ => none) := rfl
@[simp] theorem e_fMvS (f0 : Fn Bv) (fs : Fn (List Bv)) (g : Str → List D → Option Cl) (n : Nat) (ρ : En) : fMvS f0 fs g n ρ = (bnd (fFz f0 n ρ) fun c ρ1 => match c with
    | .fz (.str x) => bnd (fFzs fs n ρ1) fun as ρ2 => match g x as with
      | some r => some (.ok r ρ2)
      | none => none
    | _ => none) := rfl
end L3

namespace L3
open PySem PySem.Spec L2
/-! ### answers compared by a check that the kernel runs -/
mutual
def deq : D → D → Bool
  | .none, .none => true
  | .bool a, .bool b => a == b
  | .int a, .int b => decide (a = b)
  | .str a, .str b => decide (a = b)
  | .list a, .list b => deqs a b
  | .tuple a, .tuple b => deqs a b
  | .dict a, .dict b => deqp a b
  | _, _ => false
def deqs : List D → List D → Bool
  | [], [] => true
  | a :: as, b :: bs => deq a b && deqs as bs
  | _, _ => false
def deqp : List (D × D) → List (D × D) → Bool
  | [], [] => true
  | (a, x) :: as, (b, y) :: bs => deq a b && (deq x y && deqp as bs)
  | _, _ => false
end
mutual
theorem deq_of : ∀ a b : D, deq a b = true → a = b
  | .none, b, h => by
    cases b <;> first | rfl | (exact absurd h (by simp [deq]))
  | .bool x, b, h => by
    cases b with
    | bool y => simp [deq] at h; rw [h]
    | _ => exact absurd h (by simp [deq])
  | .int x, b, h => by
    cases b with
    | int y => simp [deq] at h; rw [h]
    | _ => exact absurd h (by simp [deq])
  | .str x, b, h => by
    cases b with
    | str y => simp [deq] at h; rw [h]
    | _ => exact absurd h (by simp [deq])
  | .list x, b, h => by
    cases b with
    | list y => rw [deq] at h; rw [deqs_of x y h]
    | _ => exact absurd h (by simp [deq])
  | .tuple x, b, h => by
    cases b with
    | tuple y => rw [deq] at h; rw [deqs_of x y h]
    | _ => exact absurd h (by simp [deq])
  | .dict x, b, h => by
    cases b with
    | dict y => rw [deq] at h; rw [deqp_of x y h]
    | _ => exact absurd h (by simp [deq])
theorem deqs_of : ∀ a b : List D, deqs a b = true → a = b
  | [], b, h => by
    cases b <;> first | rfl | (exact absurd h (by simp [deqs]))
  | x :: xs, b, h => by
    cases b with
    | nil => exact absurd h (by simp [deqs])
    | cons y ys =>
      rw [deqs, Bool.and_eq_true] at h
      rw [deq_of x y h.1, deqs_of xs ys h.2]
theorem deqp_of : ∀ a b : List (D × D), deqp a b = true → a = b
  | [], b, h => by
    cases b <;> first | rfl | (exact absurd h (by simp [deqp]))
  | (x, u) :: xs, b, h => by
    cases b with
    | nil => exact absurd h (by simp [deqp])
    | cons y ys =>
      obtain ⟨y, v⟩ := y
      rw [deqp, Bool.and_eq_true, Bool.and_eq_true] at h
      rw [deq_of x y h.1, deq_of u v h.2.1, deqp_of xs ys h.2.2]
end
def ceq : Cl → Cl → Bool
  | .fz a, .fz b => deq a b
  | .lst a, .lst b => deqs a b
  | _, _ => false
theorem ceq_of : ∀ a b : Cl, ceq a b = true → a = b := fun a b h => by
  unfold ceq at h
  split at h
  · rw [deq_of _ _ h]
  · rw [deqs_of _ _ h]
  · cases h
def oeq : List (Option Cl) → List (Option Cl) → Bool
  | [], [] => true
  | none :: as, none :: bs => oeq as bs
  | some a :: as, some b :: bs => ceq a b && oeq as bs
  | _, _ => false
theorem oeq_of : ∀ a b : List (Option Cl), oeq a b = true → a = b
  | [], b, h => by
    cases b <;> first | rfl | (exact absurd h (by simp [oeq]))
  | none :: as, b, h => by
    cases b with
    | nil => exact absurd h (by simp [oeq])
    | cons y ys =>
      cases y with
      | none => rw [oeq] at h; rw [oeq_of as ys h]
      | some _ => exact absurd h (by simp [oeq])
  | some a :: as, b, h => by
    cases b with
    | nil => exact absurd h (by simp [oeq])
    | cons y ys =>
      cases y with
      | none => exact absurd h (by simp [oeq])
      | some y =>
        rw [oeq, Bool.and_eq_true] at h
        rw [ceq_of a y h.1, oeq_of as ys h.2]
def fseq : List (Str × D) → List (Str × D) → Bool
  | [], [] => true
  | (s, a) :: as, (t, b) :: bs => decide (s = t) && (deq a b && fseq as bs)
  | _, _ => false
theorem fseq_of : ∀ a b : List (Str × D), fseq a b = true → a = b
  | [], b, h => by
    cases b <;> first | rfl | (exact absurd h (by simp [fseq]))
  | (s, a) :: as, b, h => by
    cases b with
    | nil => exact absurd h (by simp [fseq])
    | cons y ys =>
      obtain ⟨t, y⟩ := y
      rw [fseq, Bool.and_eq_true, Bool.and_eq_true] at h
      rw [of_decide_eq_true h.1, deq_of a y h.2.1, fseq_of as ys h.2.2]
def moB : Option Mo → Mo → Bool
  | some (.ok c o), .ok c2 o2 => ceq c c2 && oeq o o2
  | some (.ex x o), .ex x2 o2 => decide (x.cls = x2.cls) && (fseq x.fs x2.fs && oeq o o2)
  | _, _ => false
theorem mo_of {a : Option Mo} {b : Mo} (h : moB a b = true) : a = some b := by
  unfold moB at h
  split at h
  · rw [Bool.and_eq_true] at h
    rw [ceq_of _ _ h.1, oeq_of _ _ h.2]
  · rename_i x o x2 o2
    rw [Bool.and_eq_true, Bool.and_eq_true] at h
    obtain ⟨c, f⟩ := x
    obtain ⟨c2, f2⟩ := x2
    have h1 : c = c2 := of_decide_eq_true h.1
    have h2 : f = f2 := fseq_of _ _ h.2.1
    rw [oeq_of _ _ h.2.2, h1, h2]
  · cases h
end L3

namespace L3
open PySem PySem.Spec L2
/-! ### what the defs are worth -/
def trim : List Int → List Int
  | [] => []
  | x :: xs => match trim xs with
    | [] => if x = 0 then [] else [x]
    | y :: ys => x :: y :: ys
def isF (v : D) (lo hi : Int) : Bool := match v with
  | .int x => decide (lo ≤ x) && decide (x ≤ hi)
  | _ => false
def FAR : Int := 1000000000
def badAt : Nat → List D → Option Nat
  | _, [] => none
  | k, d :: ds => if isF d (-FAR) FAR = true then badAt (k + 1) ds else some k
/-- the index of BadPoly -/
def chk (v : D) : Option D := match v with
  | .tuple ds => if 13 < ds.length then some .none else match badAt 0 ds with
    | some k => some (.int k)
    | none => match ds.getLast? with
      | some (.int 0) => some (.int (ds.length - 1 : Nat))
      | _ => none
  | _ => some .none
def bad (i : D) : Ex := ⟨"BadPoly", [("index", i)]⟩
/-- the frozen ints of a tuple -/
def tupI : Cl → Option (List Int)
  | .fz (.tuple ds) => intsD ds
  | _ => none
def lstI : Cl → Option (List Int)
  | .lst ds => intsD ds
  | _ => none
abbrev T (ns : List Int) : Cl := .fz (.tuple (zs ns))
def cf (ns : List Int) (k : Nat) : Int := (ns[k]?).getD 0
def addL (a b : List Int) : List Int := (List.range (max a.length b.length)).map fun k => cf a k + cf b k
/-- found with x added at k -/
def bump (found : List Int) (k : Nat) (x : Int) : List Int := found.set k (cf found k + x)
def mulRow (found : List Int) (i : Nat) (x : Int) : Nat → List Int → List Int
  | _, [] => found
  | j, y :: ys => mulRow (bump found (i + j) (x * y)) i x (j + 1) ys
def mulAll (found : List Int) (b : List Int) : Nat → List Int → List Int
  | _, [] => found
  | i, x :: xs => mulAll (mulRow found i x 0 b) b (i + 1) xs
def mulL (a b : List Int) : List Int := if a = [] ∨ b = [] then [] else trim (mulAll (List.replicate (a.length + b.length - 1) 0) b 0 a)
def derL : Nat → List Int → List Int
  | _, [] => []
  | k, x :: xs => (k : Int) * x :: derL (k + 1) xs
def derivL (a : List Int) : List Int := trim ((derL 0 a).drop 1)
/-- the law's row of numbers: the script, the place, the great number, the seed -/
structure Rw where
  s : List Int
  p : Nat
  b : Int
  r : Int
def Rw.ds (x : Rw) : List D := [.list (zs x.s), .int x.p, .int x.b, .int x.r]
def m__law_draws : Mr
  | [.fz (.list ds)] => match intsD ds with
    | some ns => some (.ok (.lst (Rw.ds ⟨ns, 0, 0, 7⟩)) [some (.fz (.list ds))])
    | none => none
  | _ => none
def Rw.of : List D → Option Rw
  | [.list s, .int p, .int b, .int r] => match intsD s with
    | some ns => if 0 ≤ p then some ⟨ns, p.toNat, b, r⟩ else none
    | none => none
  | _ => none
/-- the row after it was asked, ahead of the answer -/
def Rw.next (x : Rw) : Rw := if x.b = 0 then match x.s[x.p]? with
    | some c => if (10 : Int) ^ 18 ≤ c then ⟨x.s, x.p + 1, c, x.r⟩ else ⟨x.s, x.p + 1, x.b, (x.r * 48271 + c * 69621 + 11).fmod 2147483647⟩
    | none => ⟨x.s, x.p, x.b, (x.r * 48271 + 7).fmod 2147483647⟩
  else x
def Rw.pick (x : Rw) (many : Int) : Int × Rw := if 0 < x.next.b then (x.next.b.fmod many, { x.next with b := x.next.b.fdiv many }) else (((x.next.r * 16807).fmod 2147483629).fmod many, x.next)
def m__law_pick : Mr
  | [.lst ds, .fz (.int many)] => match Rw.of ds with
    | some x => if 0 < many ∧ many < 2 ^ 64 then some (.ok (.i (x.pick many).1) [some (.lst (x.pick many).2.ds), some (.i many)]) else none
    | none => none
  | _ => none
def m__law_end : Mr
  | [c] => match lstI c with
    | some ns => if ns.length ≤ 1000000 then some (.ok (T (trim ns)) [some c]) else none
    | none => none
  | _ => none
/-- so many picks -/
def Rw.picks (wide : Int) : Nat → Rw → List Int × Rw
  | 0, x => ([], x)
  | k + 1, x => (((x.pick wide).1 - wide.fdiv 2) :: (Rw.picks wide k (x.pick wide).2).1, (Rw.picks wide k (x.pick wide).2).2)
def wideAt (k : Int) : Int := if k = 0 then 3 else if k = 1 then 7 else 2000000001
def Rw.poly (x : Rw) (most : Int) : List Int × Rw :=
  let w := wideAt (min 2 ((x.pick 9).1.fdiv 4))
  let y := (x.pick 9).2.pick (most + 2)
  let z := Rw.picks w y.1.toNat y.2
  (trim z.1, z.2)
def m__law_poly : Mr
  | [.lst ds, .fz (.int most)] => match Rw.of ds with
    | some x => if 0 ≤ most ∧ most ≤ 100 then some (.ok (T (x.poly most).1) [some (.lst (x.poly most).2.ds), some (.i most)]) else none
    | none => none
  | _ => none
/-! ### texts -/
def figs (cs : List Nat) : List Nat := match cs with
  | 45 :: r => r
  | _ => cs
def digB (c : Nat) : Bool := decide (c ∈ (Str.ofString "0123456789").cps.toList)
def wholeB (w : Str) : Bool := (decide (1 ≤ (figs w.cps.toList).length) && decide ((figs w.cps.toList).length ≤ 10)) && (figs w.cps.toList).all digB && (decide (w.cps.toList = [48]) || !decide ((figs w.cps.toList).head? = some 48))
def valS (w : Str) : Int := (intText? w).getD 0
def okW (w : Str) : Bool := wholeB w && decide (-1000000000 ≤ valS w) && decide (valS w ≤ 1000000000)
/-- the first bad word -/
def scanW : Nat → List Str → Option Nat
  | _, [] => none
  | k, w :: ws => if (okW w && !decide (k = 14)) = true then scanW (k + 1) ws else some k
def faultL : List Str → Nat
  | [] => 1
  | p :: ws => if p = Str.ofString "poly" then (match scanW 1 ws with
    | some k => k + 1
    | none => if ws.getLast? = some (Str.ofString "0") then ws.length + 1 else 0) else 1
def ss (ws : List Str) : List D := ws.map .str
def strsC (c : Cl) : Option (List Str) := match c with
  | .lst ds => strsD ds
  | .fz (.list ds) => strsD ds
  | _ => none
def wordsOf (line : Str) : List Str := (Txt.split line (Str.ofString " ")).filter fun w => !decide (w = Str.ofString "")
def badL (i j : Int) : Ex := ⟨"BadLine", [("word", .int j), ("line", .int i)]⟩
def m_is_whole : Mr
  | [.fz (.str w)] => if (Nat.ble w.length 200000 && PyData.strOk w) = true then some (.ok (.b (wholeB w)) [some (.fz (.str w))]) else none
  | _ => none
def goodWs (ws : List Str) : Bool := ws.all fun w => Nat.ble 1 w.length && Nat.ble w.length 200000 && PyData.strOk w
def m_poly_in : Mr
  | [c, .fz (.int line)] => match strsC c with
    | some ws => if (goodWs ws && Nat.ble ws.length 200001) = true then some (if faultL ws = 0 then .ok (T (ws.tail.map valS)) [some c, some (.i line)] else .ex (badL line (faultL ws)) [some c, some (.i line)]) else none
    | none => none
  | _ => none
def linesOf (t : Str) : List (List Str) := (Txt.split t (Str.ofString "\n")).map wordsOf
def okT2 (t : Str) : Bool := Nat.ble t.length 200000 && PyData.strOk t
/-- what read answers -/
def readR (t : Str) : (List Int × List Int) ⊕ (Int × Int) := match linesOf t with
  | [] => .inr (1, 1)
  | a :: r => if faultL a = 0 then (match r with
    | [] => .inr (2, 1)
    | b :: r2 => if faultL b = 0 then (match r2 with
      | [] => .inl (a.tail.map valS, b.tail.map valS)
      | _ => .inr (3, 1)) else .inr (2, faultL b)) else .inr (1, faultL a)
def m_read : Mr
  | [.fz (.str t)] => if okT2 t = true then some (match readR t with
    | .inl (x, y) => .ok (.fz (.tuple [.tuple (zs x), .tuple (zs y)])) [some (.fz (.str t))]
    | .inr (i, j) => .ex (badL i j) [some (.fz (.str t))]) else none
  | _ => none
def toldC (t : Str) : Cl := match readR t with
  | .inl (x, y) => .fz (.tuple [.tuple (zs x), .tuple (zs y)])
  | .inr (i, j) => .lst [.str "line", .int i, .int j]
def m__law_told_there : Mr
  | [.fz (.str t)] => if okT2 t = true then some (.ok (toldC t) [some (.fz (.str t))]) else none
  | _ => none
def m__law_fault : Mr
  | [c] => match strsC c with
    | some ws => if (goodWs ws && Nat.ble ws.length 200001) = true then some (.ok (.i (faultL ws)) [some c]) else none
    | none => none
  | _ => none
def m__law_due : Mr
  | [.fz (.str t)] => if okT2 t = true then some (.ok (toldC t) [some (.fz (.str t))]) else none
  | _ => none
def oddS : List Str := ["", "0", "1", "-0", "00", "01", "-", "--1", "1000000000", "1000000001", "-1000000001", "poly", "polys", "x", "1.0", "+1", "\t", "1\t", "1_0", ⟨(List.replicate 5000 49).toArray⟩]
def sp : Str := Str.ofString " "
def spoilF (x : Rw) (line : Str) : Str × Rw :=
  let ws := Txt.split line sp
  let p := x.pick ws.length
  let at_ := p.1.toNat
  let q := p.2.pick 6
  if q.1 = 0 then (Txt.join sp (ws.take at_ ++ ws.drop (at_ + 1)), q.2)
  else if q.1 = 1 then
    let r := q.2.pick 2
    (Txt.join sp (ws.take at_ ++ List.replicate (if r.1 = 0 then 2 else 14) ((ws[at_]?).getD sp) ++ ws.drop at_), r.2)
  else if q.1 = 2 then (Txt.join sp (ws.take at_), q.2)
  else
    let r := q.2.pick 20
    (Txt.join sp (ws.take at_ ++ [(oddS[r.1.toNat]?).getD sp] ++ ws.drop (at_ + (if q.1 < 5 then 1 else 0))), r.2)
def m__law_spoilt : Mr
  | [.lst ds, .fz (.str line)] => match Rw.of ds with
    | some x => if Nat.ble line.length 10000 = true then some (.ok (.fz (.str (spoilF x line).1)) [some (.lst (spoilF x line).2.ds), some (.fz (.str line))]) else none
    | none => none
  | _ => none
def m_law : Mr
  | [.fz (.list ds)] => match intsD ds with
    | some ns => some (.ok (.b true) [some (.fz (.list ds))])
    | none => none
  | _ => none
end L3

namespace L3
open PySem PySem.Spec L2
def cg_is_whole_1 : FG := (gN 2)
def ce_is_whole_1 : Fn Bv := (fOf (f2 (fPl 2) (fOf (fC (.str "0123456789"))) (gInS false)))
def g_is_whole : FS := (sSeq (sSet 1 (fIf (fTst (f2 (fOf (fSlU (fPl 0) (fOf (fC (.int 1))))) (fOf (fC (.str "-"))) gEq)) (fSlL (fPl 0) (fOf (fC (.int 1)))) (fFz (fPl 0)))) (sSeq (sIf (fOr (fNot (fTst (fCh (fOf (fC (.int 1))) (fOf (fPr (fCons (fPl 1) fNil) gLenA)) (fOf (fC (.int 10))) (gI fun i j => decide (i ≤ j)) (gI fun i j => decide (i ≤ j))))) (fNot (fTst (fPr (fCons (fOf (fLc 3 [2] (fIStr (fPl 1)) cg_is_whole_1 fYes ce_is_whole_1)) fNil) gAll)))) (sRet (fC (.bool false))) sNil) (sRet (fOrV (f2 (fPl 0) (fOf (fC (.str "0"))) gEq) (f2 (fOf (f2 (fPl 1) (fOf (fC (.int 0))) gIx)) (fOf (fC (.str "0"))) gNe)))))
def st_poly_in_1 : FS := (sIf (fTst (f2 (fOf (fSlU (fPl 0) (fOf (fC (.int 1))))) (fOf (fLst (fCons (fOf (fC (.str "poly"))) fNil))) gNe)) (sRaiseI "BadLine" ["line", "word"] (fCons (fPl 1) (fCons (fOf (fC (.int 1))) fNil))) sNil)
def st_poly_in_2 : FS := (sSet 2 (fLst fNil))
def gl_poly_in_1 : FG := (gTp 2 (gsCons (gN 3) (gsCons (gN 4) gsNil)))
def bl_poly_in_1 : FS := (sSeq (sIf (fOr (fTst (f2 (fPl 3) (fOf (fC (.int 13))) gEq)) (fOr (fNot (fTst (fCall m_is_whole (fCons (fPl 4) fNil)))) (fTst (f2 (fOf (fPr (fCons (fOf (fPr (fCons (fPl 4) fNil) gIntA)) fNil) gAbs)) (fOf (fC (.int 1000000000))) (gI fun i j => decide (j < i)))))) (sRaiseI "BadLine" ["line", "word"] (fCons (fPl 1) (fCons (fOf (f2 (fPl 3) (fOf (fC (.int 2))) gAdd)) fNil))) sNil) (sExpr (fOf (fMth isL 2 (fCons (fOf (fPr (fCons (fPl 4) fNil) gIntA)) fNil) gApp))))
def st_poly_in_3 : FS := (sFor (fIEnum (fOf (fSlL (fPl 0) (fOf (fC (.int 1)))))) gl_poly_in_1 bl_poly_in_1)
def st_poly_in_4 : FS := (sIf (fAnd (fTst (f2 (fPl 2) (fOf (fLst fNil)) gNe)) (fTst (f2 (fOf (f2 (fPl 2) (fOf (f1 (fOf (fC (.int 1))) gNeg)) gIx)) (fOf (fC (.int 0))) gEq))) (sRaiseI "BadLine" ["line", "word"] (fCons (fPl 1) (fCons (fOf (fPr (fCons (fPl 0) fNil) gLenA)) fNil))) sNil)
def st_poly_in_5 : FS := (sRet (fPr (fCons (fPl 2) fNil) gTuple))
def g_poly_in : FS := (sSeq st_poly_in_1 (sSeq st_poly_in_2 (sSeq st_poly_in_3 (sSeq st_poly_in_4 st_poly_in_5))))
def ct_read_1 : Fn Bool := (fTst (f2 (fPl 3) (fOf (fC (.str ""))) gNe))
def cg_read_1 : FG := (gN 3)
def ce_read_1 : Fn Bv := (fPl 3)
def cg_read_2 : FG := (gN 2)
def ce_read_2 : Fn Bv := (fOf (fLc 6 [3] (fISeq (fOf (fMvS (fPl 2) (fCons (fOf (fC (.str " "))) fNil) gSplit))) cg_read_1 ct_read_1 ce_read_1))
def st_read_1 : FS := (sSet 1 (fLc 6 [2] (fISeq (fOf (fMvS (fPl 0) (fCons (fOf (fC (.str "\n"))) fNil) gSplit))) cg_read_2 fYes ce_read_2))
def st_read_2 : FS := (sSet 4 (fCall m_poly_in (fCons (fOf (f2 (fPl 1) (fOf (fC (.int 0))) gIx)) (fCons (fOf (fC (.int 1))) fNil))))
def st_read_3 : FS := (sIf (fTst (f2 (fOf (fPr (fCons (fPl 1) fNil) gLenA)) (fOf (fC (.int 2))) (gI fun i j => decide (i < j)))) (sRaiseI "BadLine" ["line", "word"] (fCons (fOf (fC (.int 2))) (fCons (fOf (fC (.int 1))) fNil))) sNil)
def st_read_4 : FS := (sSet 5 (fCall m_poly_in (fCons (fOf (f2 (fPl 1) (fOf (fC (.int 1))) gIx)) (fCons (fOf (fC (.int 2))) fNil))))
def st_read_5 : FS := (sIf (fTst (f2 (fOf (fPr (fCons (fPl 1) fNil) gLenA)) (fOf (fC (.int 2))) (gI fun i j => decide (j < i)))) (sRaiseI "BadLine" ["line", "word"] (fCons (fOf (fC (.int 3))) (fCons (fOf (fC (.int 1))) fNil))) sNil)
def st_read_6 : FS := (sRet (fTup (fCons (fPl 4) (fCons (fPl 5) fNil))))
def g_read : FS := (sSeq st_read_1 (sSeq st_read_2 (sSeq st_read_3 (sSeq st_read_4 (sSeq st_read_5 st_read_6)))))
def g__law_draws : FS := (sRet (fLst (fCons (fOf (fPr (fCons (fPl 0) fNil) gList)) (fCons (fOf (fC (.int 0))) (fCons (fOf (fC (.int 0))) (fCons (fOf (fC (.int 7))) fNil))))))
def g__law_pick : FS := (sSeq (sIf (fTst (f2 (fOf (f2 (fPl 0) (fOf (fC (.int 2))) gIx)) (fOf (fC (.int 0))) gEq)) (sIf (fTst (f2 (fOf (f2 (fPl 0) (fOf (fC (.int 1))) gIx)) (fOf (fPr (fCons (fOf (f2 (fPl 0) (fOf (fC (.int 0))) gIx)) fNil) gLenA)) (gI fun i j => decide (i < j)))) (sSeq (sSet 2 (f2 (fOf (f2 (fPl 0) (fOf (fC (.int 0))) gIx)) (fOf (f2 (fPl 0) (fOf (fC (.int 1))) gIx)) gIx)) (sSeq (sSetIx 0 (fOf (f2 (fOf (f2 (fPl 0) (fOf (fC (.int 1))) gIx)) (fOf (fC (.int 1))) gAdd)) (fOf (fC (.int 1)))) (sIf (fTst (f2 (fPl 2) (fOf (f2 (fOf (fC (.int 10))) (fOf (fC (.int 18))) gPow)) (gI fun i j => decide (j ≤ i)))) (sSetIx 0 (fPl 2) (fOf (fC (.int 2)))) (sSetIx 0 (fOf (f2 (fOf (fPr (fCons (fOf (f2 (fOf (f2 (fOf (f2 (fOf (f2 (fPl 0) (fOf (fC (.int 3))) gIx)) (fOf (fC (.int 48271))) gMul)) (fOf (f2 (fPl 2) (fOf (fC (.int 69621))) gMul)) gAdd)) (fOf (fC (.int 11))) gAdd)) fNil) gInt)) (fOf (fC (.int 2147483647))) gMod)) (fOf (fC (.int 3))))))) (sSetIx 0 (fOf (f2 (fOf (fPr (fCons (fOf (f2 (fOf (f2 (fOf (f2 (fPl 0) (fOf (fC (.int 3))) gIx)) (fOf (fC (.int 48271))) gMul)) (fOf (fC (.int 7))) gAdd)) fNil) gInt)) (fOf (fC (.int 2147483647))) gMod)) (fOf (fC (.int 3))))) sNil) (sSeq (sIf (fTst (f2 (fOf (f2 (fPl 0) (fOf (fC (.int 2))) gIx)) (fOf (fC (.int 0))) (gI fun i j => decide (j < i)))) (sSeq (sSet 3 (f2 (fOf (fPr (fCons (fOf (f2 (fPl 0) (fOf (fC (.int 2))) gIx)) fNil) gInt)) (fPl 1) gMod)) (sSeq (sSetIx 0 (fOf (f2 (fOf (f2 (fPl 0) (fOf (fC (.int 2))) gIx)) (fPl 1) gFdiv)) (fOf (fC (.int 2)))) (sRet (fMv 3)))) sNil) (sRet (f2 (fOf (f2 (fOf (fPr (fCons (fOf (f2 (fOf (f2 (fPl 0) (fOf (fC (.int 3))) gIx)) (fOf (fC (.int 16807))) gMul)) fNil) gInt)) (fOf (fC (.int 2147483629))) gMod)) (fPl 1) gMod))))
def gl__law_end_1 : FG := (gN 2)
def bl__law_end_1 : FS := (sSeq (sIf (fTst (f2 (fOf (f2 (fPl 1) (fOf (f1 (fOf (fC (.int 1))) gNeg)) gIx)) (fOf (fC (.int 0))) gEq)) (sSet 1 (fSlU (fPl 1) (fOf (f1 (fOf (fC (.int 1))) gNeg)))) sNil) (sIf (fTst (f2 (fPl 1) (fOf (fLst fNil)) gEq)) (sRet (fTup fNil)) sNil))
def g__law_end : FS := (sSeq (sSet 1 (fPr (fCons (fPl 0) fNil) gList)) (sSeq (sFor (fIR1 (fOf (fPr (fCons (fPl 0) fNil) gLenA))) gl__law_end_1 bl__law_end_1) (sRet (fPr (fCons (fPl 1) fNil) gTuple))))
def cg__law_poly_1 : FG := (gN 3)
def ce__law_poly_1 : Fn Bv := (fOf (f2 (fOf (fCall m__law_pick (fCons (fPl 0) (fCons (fPl 2) fNil)))) (fOf (f2 (fPl 2) (fOf (fC (.int 2))) gFdiv)) gSub))
def g__law_poly : FS := (sSeq (sSet 2 (f2 (fOf (fLst (fCons (fOf (fC (.int 3))) (fCons (fOf (fC (.int 7))) (fCons (fOf (fC (.int 2000000001))) fNil))))) (fOf (fPr (fCons (fOf (fC (.int 2))) (fCons (fOf (f2 (fOf (fCall m__law_pick (fCons (fPl 0) (fCons (fOf (fC (.int 9))) fNil)))) (fOf (fC (.int 4))) gFdiv)) fNil)) gMin2)) gIx)) (sRet (fCall m__law_end (fCons (fOf (fLc 4 [3] (fIR1 (fOf (fCall m__law_pick (fCons (fPl 0) (fCons (fOf (f2 (fPl 1) (fOf (fC (.int 2))) gAdd)) fNil))))) cg__law_poly_1 fYes ce__law_poly_1)) fNil))))
def st__law_fault_1 : FS := (sIf (fOr (fTst (f2 (fPl 0) (fOf (fLst fNil)) gEq)) (fTst (f2 (fOf (f2 (fPl 0) (fOf (fC (.int 0))) gIx)) (fOf (fC (.str "poly"))) gNe))) (sRet (fC (.int 1))) sNil)
def cg__law_fault_1 : FG := (gN 4)
def ce__law_fault_1 : Fn Bv := (fOf (f2 (fPl 4) (fOf (fC (.str "0123456789"))) (gInS false)))
def gl__law_fault_1 : FG := (gN 1)
def bl__law_fault_1 : FS := (sSeq (sSet 2 (fIf (fTst (f2 (fOf (f2 (fOf (f2 (fPl 0) (fPl 1) gIx)) (fOf (fC (.int 0))) gIx)) (fOf (fC (.str "-"))) gEq)) (fSlL (fOf (f2 (fPl 0) (fPl 1) gIx)) (fOf (fC (.int 1)))) (f2 (fPl 0) (fPl 1) gIx))) (sSeq (sSet 3 (fAndV (f2 (fPl 2) (fOf (fC (.str ""))) gNe) (fAndV (fPr (fCons (fOf (fLc 5 [4] (fIStr (fPl 2)) cg__law_fault_1 fYes ce__law_fault_1)) fNil) gAll) (f2 (fOf (fPr (fCons (fPl 2) fNil) gLenA)) (fOf (fC (.int 11))) (gI fun i j => decide (i < j)))))) (sIf (fOr (fNot (fTst (fFz (fPl 3)))) (fOr (fTst (f2 (fOf (fPr (fCons (fOf (fPr (fCons (fOf (f2 (fPl 0) (fPl 1) gIx)) fNil) gIntA)) fNil) gStr)) (fOf (f2 (fPl 0) (fPl 1) gIx)) gNe)) (fOr (fTst (f2 (fOf (fPr (fCons (fOf (fPr (fCons (fOf (f2 (fPl 0) (fPl 1) gIx)) fNil) gIntA)) fNil) gAbs)) (fOf (fC (.int 1000000000))) (gI fun i j => decide (j < i)))) (fTst (f2 (fPl 1) (fOf (fC (.int 14))) gEq))))) (sRet (f2 (fPl 1) (fOf (fC (.int 1))) gAdd)) sNil)))
def st__law_fault_2 : FS := (sFor (fIR2 (fOf (fC (.int 1))) (fOf (fPr (fCons (fPl 0) fNil) gLenA))) gl__law_fault_1 bl__law_fault_1)
def st__law_fault_3 : FS := (sRet (fIf (fAnd (fTst (f2 (fOf (fPr (fCons (fPl 0) fNil) gLenA)) (fOf (fC (.int 1))) (gI fun i j => decide (j < i)))) (fTst (f2 (fOf (f2 (fPl 0) (fOf (f1 (fOf (fC (.int 1))) gNeg)) gIx)) (fOf (fC (.str "0"))) gEq))) (fPr (fCons (fPl 0) fNil) gLenA) (fC (.int 0))))
def g__law_fault : FS := (sSeq st__law_fault_1 (sSeq st__law_fault_2 st__law_fault_3))
def st__law_due_1 : FS := (sPar 1 2 (fLst fNil) (fMvS (fPl 0) (fCons (fOf (fC (.str "\n"))) fNil) gSplit))
def ct__law_due_1 : Fn Bool := (fTst (f2 (fPl 5) (fOf (fC (.str ""))) gNe))
def cg__law_due_1 : FG := (gN 5)
def ce__law_due_1 : Fn Bv := (fPl 5)
def sb__law_due_1 : FS := (sSet 4 (fLc 7 [5] (fISeq (fOf (fMvS (fOf (f2 (fPl 2) (fPl 3) gIx)) (fCons (fOf (fC (.str " "))) fNil) gSplit))) cg__law_due_1 ct__law_due_1 ce__law_due_1))
def sb__law_due_2 : FS := (sSet 6 (fCall m__law_fault (fCons (fPl 4) fNil)))
def sb__law_due_3 : FS := (sIf (fTst (f2 (fPl 6) (fOf (fC (.int 0))) (gI fun i j => decide (j < i)))) (sRet (fLst (fCons (fOf (fC (.str "line"))) (fCons (fOf (f2 (fPl 3) (fOf (fC (.int 1))) gAdd)) (fCons (fPl 6) fNil))))) sNil)
def cg__law_due_2 : FG := (gN 5)
def ce__law_due_2 : Fn Bv := (fOf (fPr (fCons (fPl 5) fNil) gIntA))
def sb__law_due_4 : FS := (sExpr (fOf (fMth isL 1 (fCons (fOf (fPr (fCons (fOf (fLc 7 [5] (fISeq (fOf (fSlL (fPl 4) (fOf (fC (.int 1)))))) cg__law_due_2 fYes ce__law_due_2)) fNil) gTuple)) fNil) gApp)))
def gl__law_due_1 : FG := (gN 3)
def bl__law_due_1 : FS := (sSeq sb__law_due_1 (sSeq sb__law_due_2 (sSeq sb__law_due_3 sb__law_due_4)))
def st__law_due_2 : FS := (sFor (fIR1 (fOf (fPr (fCons (fOf (fC (.int 2))) (fCons (fOf (fPr (fCons (fPl 2) fNil) gLenA)) fNil)) gMin2))) gl__law_due_1 bl__law_due_1)
def st__law_due_3 : FS := (sRet (fIf (fTst (f2 (fOf (fPr (fCons (fPl 2) fNil) gLenA)) (fOf (fC (.int 2))) gEq)) (fPr (fCons (fPl 1) fNil) gTuple) (fLst (fCons (fOf (fC (.str "line"))) (fCons (fOf (f2 (fOf (fLst (fCons (fOf (fC (.int 2))) (fCons (fOf (fC (.int 2))) (fCons (fOf (fC (.int 3))) fNil))))) (fOf (fPr (fCons (fOf (fC (.int 2))) (fCons (fOf (f2 (fOf (fPr (fCons (fPl 2) fNil) gLenA)) (fOf (fC (.int 1))) gSub)) fNil)) gMin2)) gIx)) (fCons (fOf (fC (.int 1))) fNil))))))
def g__law_due : FS := (sSeq st__law_due_1 (sSeq st__law_due_2 st__law_due_3))
def tb__law_told_there_1 : FS := (sSet 1 (fCall m_read (fCons (fPl 0) fNil)))
def g__law_told_there : FS := (sSeq (sSet 1 (fC .none)) (sSeq (sTry 2 tb__law_told_there_1 [(tblO [("BadLine", true)], (fSu 1 (tblB ["BadLine"]) (fun x => ((fun x => ((fun x => (seF ["BadLine"] "line" x).bind fun d => ((fun x => (seF ["BadLine"] "word" x).bind fun d => ((fun _ => some []) x).map (d :: ·)) x).map (d :: ·)) x).map (.str "line" :: ·)) x).map .lst)))]) (sRet (fMv 1))))
def st__law_spoilt_1 : FS := (sSet 2 (fMvS (fPl 1) (fCons (fOf (fC (.str " "))) fNil) gSplit))
def st__law_spoilt_2 : FS := (sPar 3 4 (fCall m__law_pick (fCons (fPl 0) (fCons (fOf (fPr (fCons (fPl 2) fNil) gLenA)) fNil))) (fCall m__law_pick (fCons (fPl 0) (fCons (fOf (fC (.int 6))) fNil))))
def st__law_spoilt_3 : FS := (sSet 5 (fLst (fCons (fOf (fC (.str ""))) (fCons (fOf (fC (.str "0"))) (fCons (fOf (fC (.str "1"))) (fCons (fOf (fC (.str "-0"))) (fCons (fOf (fC (.str "00"))) (fCons (fOf (fC (.str "01"))) (fCons (fOf (fC (.str "-"))) (fCons (fOf (fC (.str "--1"))) (fCons (fOf (fC (.str "1000000000"))) (fCons (fOf (fC (.str "1000000001"))) (fCons (fOf (fC (.str "-1000000001"))) (fCons (fOf (fC (.str "poly"))) fNil))))))))))))))
def st__law_spoilt_4 : FS := (sSet 5 (f2 (fPl 5) (fOf (fLst (fCons (fOf (fC (.str "polys"))) (fCons (fOf (fC (.str "x"))) (fCons (fOf (fC (.str "1.0"))) (fCons (fOf (fC (.str "+1"))) (fCons (fOf (fC (.str "	"))) (fCons (fOf (fC (.str "1	"))) (fCons (fOf (fC (.str "1_0"))) (fCons (fOf (f2 (fOf (fC (.str "1"))) (fOf (fC (.int 5000))) gRepS)) fNil)))))))))) gAdd))
def st__law_spoilt_5 : FS := (sIf (fTst (f2 (fPl 4) (fOf (fC (.int 0))) gEq)) (sRet (fMvS (fOf (fC (.str " "))) (fCons (fOf (f2 (fOf (fSlU (fPl 2) (fPl 3))) (fOf (fSlL (fPl 2) (fOf (f2 (fPl 3) (fOf (fC (.int 1))) gAdd)))) gAdd)) fNil) gJoin)) sNil)
def st__law_spoilt_6 : FS := (sIf (fTst (f2 (fPl 4) (fOf (fC (.int 1))) gEq)) (sRet (fMvS (fOf (fC (.str " "))) (fCons (fOf (f2 (fOf (f2 (fOf (fSlU (fPl 2) (fPl 3))) (fOf (f2 (fOf (fLst (fCons (fOf (f2 (fPl 2) (fPl 3) gIx)) fNil))) (fOf (f2 (fOf (fLst (fCons (fOf (fC (.int 2))) (fCons (fOf (fC (.int 14))) fNil)))) (fOf (fCall m__law_pick (fCons (fPl 0) (fCons (fOf (fC (.int 2))) fNil)))) gIx)) gMul)) gAdd)) (fOf (fSlL (fPl 2) (fPl 3))) gAdd)) fNil) gJoin)) sNil)
def st__law_spoilt_7 : FS := (sIf (fTst (f2 (fPl 4) (fOf (fC (.int 2))) gEq)) (sRet (fMvS (fOf (fC (.str " "))) (fCons (fOf (fSlU (fPl 2) (fPl 3))) fNil) gJoin)) sNil)
def st__law_spoilt_8 : FS := (sRet (fMvS (fOf (fC (.str " "))) (fCons (fOf (f2 (fOf (f2 (fOf (fSlU (fPl 2) (fPl 3))) (fOf (fLst (fCons (fOf (f2 (fPl 5) (fOf (fCall m__law_pick (fCons (fPl 0) (fCons (fOf (fC (.int 20))) fNil)))) gIx)) fNil))) gAdd)) (fOf (fSlL (fPl 2) (fOf (f2 (fPl 3) (fOf (fPr (fCons (fOf (f2 (fPl 4) (fOf (fC (.int 5))) (gI fun i j => decide (i < j)))) fNil) gInt)) gAdd)))) gAdd)) fNil) gJoin))
def g__law_spoilt : FS := (sSeq st__law_spoilt_1 (sSeq st__law_spoilt_2 (sSeq st__law_spoilt_3 (sSeq st__law_spoilt_4 (sSeq st__law_spoilt_5 (sSeq st__law_spoilt_6 (sSeq st__law_spoilt_7 st__law_spoilt_8)))))))
def st_law_1 : FS := (sSet 1 (fCall m__law_draws (fCons (fPl 0) fNil)))
def sb_law_1 : FS := (sSet 3 (fLst fNil))
def cg_law_1 : FG := (gN 5)
def ce_law_1 : Fn Bv := (fOf (fPr (fCons (fPl 5) fNil) gStr))
def gl_law_1 : FG := (gN 4)
def bl_law_1 : FS := (sExpr (fOf (fMth isL 3 (fCons (fOf (fMvS (fOf (fC (.str " "))) (fCons (fOf (f2 (fOf (fLst (fCons (fOf (fC (.str "poly"))) fNil))) (fOf (fLc 8 [5] (fISeq (fOf (fCall m__law_poly (fCons (fPl 1) (fCons (fOf (fC (.int 5))) fNil))))) cg_law_1 fYes ce_law_1)) gAdd)) fNil) gJoin)) fNil) gApp)))
def sb_law_2 : FS := (sFor (fIR1 (fOf (fC (.int 2)))) gl_law_1 bl_law_1)
def gl_law_2 : FG := (gN 4)
def bl_law_2 : FS := (sSeq (sPar 6 7 (fCall m__law_pick (fCons (fPl 1) (fCons (fOf (fPr (fCons (fPl 3) fNil) gLenA)) fNil))) (fCall m__law_pick (fCons (fPl 1) (fCons (fOf (fC (.int 8))) fNil)))) (sIf (fAnd (fTst (f2 (fPl 7) (fOf (fC (.int 0))) gEq)) (fTst (f2 (fOf (fPr (fCons (fPl 3) fNil) gLenA)) (fOf (fC (.int 1))) (gI fun i j => decide (j < i))))) (sSet 3 (f2 (fOf (fSlU (fPl 3) (fPl 6))) (fOf (fSlL (fPl 3) (fOf (f2 (fPl 6) (fOf (fC (.int 1))) gAdd)))) gAdd)) (sIf (fTst (f2 (fPl 7) (fOf (fC (.int 1))) gEq)) (sSet 3 (f2 (fOf (f2 (fOf (fSlU (fPl 3) (fPl 6))) (fOf (fLst (fCons (fOf (f2 (fPl 3) (fPl 6) gIx)) fNil))) gAdd)) (fOf (fSlL (fPl 3) (fPl 6))) gAdd)) (sSetIx 3 (fOf (fCall m__law_spoilt (fCons (fPl 1) (fCons (fOf (f2 (fPl 3) (fPl 6) gIx)) fNil)))) (fPl 6)))))
def sb_law_3 : FS := (sFor (fIR1 (fOf (fCall m__law_pick (fCons (fPl 1) (fCons (fOf (fC (.int 3))) fNil))))) gl_law_2 bl_law_2)
def sb_law_4 : FS := (sIf (fTst (f2 (fOf (fCall m__law_told_there (fCons (fOf (fMvS (fOf (fC (.str "\n"))) (fCons (fPl 3) fNil) gJoin)) fNil))) (fOf (fCall m__law_due (fCons (fOf (fMvS (fOf (fC (.str "\n"))) (fCons (fPl 3) fNil) gJoin)) fNil))) gNe)) (sRet (fC (.bool false))) sNil)
def gl_law_3 : FG := (gN 2)
def bl_law_3 : FS := (sSeq sb_law_1 (sSeq sb_law_2 (sSeq sb_law_3 sb_law_4)))
def st_law_2 : FS := (sFor (fIR1 (fOf (fC (.int 8)))) gl_law_3 bl_law_3)
def st_law_3 : FS := (sRet (f2 (fOf (fCall m__law_told_there (fCons (fOf (fC (.str ""))) fNil))) (fOf (fLst (fCons (fOf (fC (.str "line"))) (fCons (fOf (fC (.int 1))) (fCons (fOf (fC (.int 1))) fNil))))) gEq))
def g_law : FS := (sSeq st_law_1 (sSeq st_law_2 st_law_3))
end L3

namespace L3
open PySem PySem.Spec L2
/-! ### trim -/
theorem trim_snoc0 : ∀ xs : List Int, trim (xs ++ [0]) = trim xs
  | [] => rfl
  | x :: xs => by
    show (match trim (xs ++ [0]) with | [] => if x = 0 then [] else [x] | y :: ys => x :: y :: ys) = _
    rw [trim_snoc0 xs]; rfl
theorem trim_snoc {a : Int} (h : a ≠ 0) : ∀ xs : List Int, trim (xs ++ [a]) = xs ++ [a]
  | [] => by
    show (if a = 0 then [] else [a]) = [a]
    rw [if_neg h]
  | x :: xs => by
    show (match trim (xs ++ [a]) with | [] => if x = 0 then [] else [x] | y :: ys => x :: y :: ys) = _
    rw [trim_snoc h xs]
    cases xs <;> rfl
theorem trim_len : ∀ xs : List Int, (trim xs).length ≤ xs.length
  | [] => Nat.le_refl _
  | x :: xs => by
    have ih := trim_len xs
    show (match trim xs with | [] => if x = 0 then [] else [x] | y :: ys => x :: y :: ys).length ≤ _
    split
    · split <;> simp
    · rename_i y ys e
      rw [e] at ih
      simp only [List.length_cons] at ih ⊢
      omega
theorem trim_take : ∀ xs : List Int, xs.take (trim xs).length = trim xs
  | [] => rfl
  | x :: xs => by
    have ih := trim_take xs
    unfold trim
    split
    · split
      · rfl
      · rfl
    · rename_i y ys e
      rw [e] at ih
      show (x :: xs).take ((y :: ys).length + 1) = _
      rw [List.take_succ_cons, ih]
theorem cutD_take {α : Type} (xs : List α) (k : Nat) : cutD xs none (some (k : Int)) = xs.take k := by
  unfold cutD
  rw [HT.sIx_none, HT.sIx_nat, List.drop_zero, Nat.sub_zero]
  by_cases h : k ≤ xs.length
  · rw [Nat.min_eq_left h]
  · rw [Nat.min_eq_right (by omega), List.take_of_length_le (Nat.le_refl _), List.take_of_length_le (by omega)]
theorem cutD_drop {α : Type} (xs : List α) (k : Nat) : cutD xs (some (k : Int)) none = xs.drop k := by
  unfold cutD
  rw [HT.sIx_none, HT.sIx_nat]
  by_cases h : k ≤ xs.length
  · rw [Nat.min_eq_left h, List.take_of_length_le (by rw [List.length_drop]; omega)]
  · rw [Nat.min_eq_right (by omega), List.drop_of_length_le (Nat.le_refl _), List.drop_of_length_le (by omega), List.take_nil]
theorem tupI_of {c : Cl} {ns : List Int} (h : tupI c = some ns) : c = T ns := by
  unfold tupI at h
  split at h
  · rename_i ds
    cases zs_of h
    rfl
  · cases h
theorem rngD_succ (lo : Int) (n : Nat) : rngD lo (n + 1) = .int lo :: rngD (lo + 1) n := by
  unfold rngD
  rw [List.range_succ_eq_map, List.map_cons, List.map_map]
  congr 1
  · rw [Int.natCast_zero, Int.add_zero]
  · refine List.map_congr_left fun i _ => ?_
    show PyData.int (lo + ((i + 1 : Nat) : Int)) = PyData.int (lo + 1 + (i : Int))
    congr 1
    omega
theorem rngD_zero (lo : Int) : rngD lo 0 = [] := rfl
theorem rngD_len (lo : Int) (n : Nat) : (rngD lo n).length = n := by
  unfold rngD
  rw [List.length_map, List.length_range]
theorem h__law_draws : ∀ cs o, m__law_draws cs = some o → ∃ n out, g__law_draws n (startR 1 cs) = some out ∧ fin [true] out = some o := fun cs o h => by
  unfold m__law_draws at h
  split at h
  case h_2 => cases h
  rename_i ds
  cases q : intsD ds with
  | none => rw [q] at h; cases h
  | some ns =>
    rw [q] at h
    cases h
    cases zs_of q
    exact ⟨0, .rt (.lst (Rw.ds ⟨ns, 0, 0, 7⟩)) [some (.fz (.list (zs ns)))], by simp [g__law_draws, startR, Rw.ds], rfl⟩
theorem rw_of {ds : List D} {x : Rw} (h : Rw.of ds = some x) : ds = x.ds := by
  unfold Rw.of at h
  split at h
  · rename_i s p b r
    split at h
    · rename_i ns q
      split at h
      · rename_i hp
        cases h
        cases zs_of q
        unfold Rw.ds
        rw [Int.toNat_of_nonneg hp]
      · cases h
    · cases h
  · cases h
theorem of_rw (x : Rw) : Rw.of x.ds = some x := by
  unfold Rw.of Rw.ds
  simp [intsD_zs]
theorem pow18 : gPow [.fz (.int 10), .fz (.int 18)] = some (.fz (.int 1000000000000000000)) := by rfl
theorem fm_pos (a : Int) {b : Int} (h : 0 < b) : 0 ≤ a.fmod b ∧ a.fmod b < b := ⟨Int.fmod_nonneg_of_pos a h, Int.fmod_lt_of_pos a h⟩
def pickHd : FS := (sIf (fTst (f2 (fOf (f2 (fPl 0) (fOf (fC (.int 2))) gIx)) (fOf (fC (.int 0))) gEq)) (sIf (fTst (f2 (fOf (f2 (fPl 0) (fOf (fC (.int 1))) gIx)) (fOf (fPr (fCons (fOf (f2 (fPl 0) (fOf (fC (.int 0))) gIx)) fNil) gLenA)) (gI fun i j => decide (i < j)))) (sSeq (sSet 2 (f2 (fOf (f2 (fPl 0) (fOf (fC (.int 0))) gIx)) (fOf (f2 (fPl 0) (fOf (fC (.int 1))) gIx)) gIx)) (sSeq (sSetIx 0 (fOf (f2 (fOf (f2 (fPl 0) (fOf (fC (.int 1))) gIx)) (fOf (fC (.int 1))) gAdd)) (fOf (fC (.int 1)))) (sIf (fTst (f2 (fPl 2) (fOf (f2 (fOf (fC (.int 10))) (fOf (fC (.int 18))) gPow)) (gI fun i j => decide (j ≤ i)))) (sSetIx 0 (fPl 2) (fOf (fC (.int 2)))) (sSetIx 0 (fOf (f2 (fOf (fPr (fCons (fOf (f2 (fOf (f2 (fOf (f2 (fOf (f2 (fPl 0) (fOf (fC (.int 3))) gIx)) (fOf (fC (.int 48271))) gMul)) (fOf (f2 (fPl 2) (fOf (fC (.int 69621))) gMul)) gAdd)) (fOf (fC (.int 11))) gAdd)) fNil) gInt)) (fOf (fC (.int 2147483647))) gMod)) (fOf (fC (.int 3))))))) (sSetIx 0 (fOf (f2 (fOf (fPr (fCons (fOf (f2 (fOf (f2 (fOf (f2 (fPl 0) (fOf (fC (.int 3))) gIx)) (fOf (fC (.int 48271))) gMul)) (fOf (fC (.int 7))) gAdd)) fNil) gInt)) (fOf (fC (.int 2147483647))) gMod)) (fOf (fC (.int 3))))) sNil)
def pickTl : FS := (sSeq (sIf (fTst (f2 (fOf (f2 (fPl 0) (fOf (fC (.int 2))) gIx)) (fOf (fC (.int 0))) (gI fun i j => decide (j < i)))) (sSeq (sSet 3 (f2 (fOf (fPr (fCons (fOf (f2 (fPl 0) (fOf (fC (.int 2))) gIx)) fNil) gInt)) (fPl 1) gMod)) (sSeq (sSetIx 0 (fOf (f2 (fOf (f2 (fPl 0) (fOf (fC (.int 2))) gIx)) (fPl 1) gFdiv)) (fOf (fC (.int 2)))) (sRet (fMv 3)))) sNil) (sRet (f2 (fOf (f2 (fOf (fPr (fCons (fOf (f2 (fOf (f2 (fPl 0) (fOf (fC (.int 3))) gIx)) (fOf (fC (.int 16807))) gMul)) fNil) gInt)) (fOf (fC (.int 2147483629))) gMod)) (fPl 1) gMod)))
theorem pick_eq : g__law_pick = sSeq pickHd pickTl := rfl
theorem pick_tail (x : Rw) (many : Int) (h1 : 0 < many) (h2 : many < 2 ^ 64) (c2 c3 : Option Cl) (n : Nat) :
    ∃ c2' c3', pickTl n [some (.lst x.ds), some (.i many), c2, c3] = some (if 0 < x.b then .rt (.i (x.b.fmod many)) [some (.lst { x with b := x.b.fdiv many }.ds), some (.i many), c2', c3'] else .rt (.i (((x.r * 16807).fmod 2147483629).fmod many)) [some (.lst x.ds), some (.i many), c2', c3']) := by
  have e0 : many ≠ 0 := by omega
  have e1 := e_gModI (i := x.b) (j := many) e0
  have e2 := e_gFdivS (i := x.b) (j := many) e0 (by omega)
  have e3 := e_gMulI (i := x.r) (j := 16807) (.inr (by decide))
  have e4 := e_gModI (i := x.r * 16807) (j := 2147483629) (by decide)
  have e5 := e_gModI (i := (x.r * 16807).fmod 2147483629) (j := many) e0
  have a2 : atI x.ds 2 = some (.int x.b) := rfl
  have a3 : atI x.ds 3 = some (.int x.r) := rfl
  have i2 : ixN x.ds.length 2 = some 2 := rfl
  have s2 : ∀ v : Int, x.ds.set 2 (.int v) = ({ x with b := v } : Rw).ds := fun _ => rfl
  by_cases hb : 0 < x.b
  · refine ⟨c2, none, ?_⟩
    rw [if_pos hb]
    simp [pickTl, a2, hb, e1, e2, setIx, i2, s2]
  · refine ⟨c2, c3, ?_⟩
    rw [if_neg hb]
    simp [pickTl, a2, a3, hb, e3, e4, e5]
theorem rw_a0 (x : Rw) : atI x.ds 0 = some (.list (zs x.s)) := rfl
theorem rw_a1 (x : Rw) : atI x.ds 1 = some (.int x.p) := rfl
theorem rw_a2 (x : Rw) : atI x.ds 2 = some (.int x.b) := rfl
theorem rw_a3 (x : Rw) : atI x.ds 3 = some (.int x.r) := rfl
theorem rw_i1 (x : Rw) : ixN x.ds.length 1 = some 1 := rfl
theorem rw_i2 (x : Rw) : ixN x.ds.length 2 = some 2 := rfl
theorem rw_i3 (x : Rw) : ixN x.ds.length 3 = some 3 := rfl
theorem rw_s1 (x : Rw) : x.ds.set 1 (.int ((x.p : Int) + 1)) = (⟨x.s, x.p + 1, x.b, x.r⟩ : Rw).ds := rfl
theorem rw_s2 (x : Rw) (v : Int) : x.ds.set 2 (.int v) = (⟨x.s, x.p, v, x.r⟩ : Rw).ds := rfl
theorem rw_s3 (x : Rw) (v : Int) : x.ds.set 3 (.int v) = (⟨x.s, x.p, x.b, v⟩ : Rw).ds := rfl
theorem pick_head (x : Rw) (m : Option Cl) (n : Nat) : ∃ c2, pickHd n [some (.lst x.ds), m, none, none] = some (.nx [some (.lst x.next.ds), m, c2, none]) := by
  have e3 := e_gMulI (i := x.r) (j := 48271) (.inr (by decide))
  unfold Rw.next
  by_cases hb : x.b = 0
  · rw [if_pos hb]
    cases hs : x.s[x.p]? with
    | some c =>
      have hp : x.p < x.s.length := (List.getElem?_eq_some_iff.mp hs).1
      have hp' : (x.p : Int) < (x.s.length : Int) := by omega
      have ac : atI (zs x.s) (x.p : Int) = some (.int c) := atI_zs hs
      have e4 := e_gMulI (i := c) (j := 69621) (.inr (by decide))
      have e5 := e_gModI (i := x.r * 48271 + c * 69621 + 11) (j := 2147483647) (by decide)
      refine ⟨some (.i c), ?_⟩
      by_cases hc : (10 : Int) ^ 18 ≤ c
      · have hc' : (1000000000000000000 : Int) ≤ c := hc
        dsimp only
        rw [if_pos hc]
        simp [pickHd, rw_a0, rw_a1, rw_a2, hb, hp', ac, pow18, hc', setIx, rw_i1, rw_s1, rw_i2, rw_s2]
      · have hc' : ¬ (1000000000000000000 : Int) ≤ c := hc
        dsimp only
        rw [if_neg hc]
        simp [pickHd, rw_a0, rw_a1, rw_a2, rw_a3, hb, hp', ac, pow18, hc', setIx, rw_i1, rw_s1, e3, e4, e5, rw_i3, rw_s3]
    | none =>
      have hp : x.s.length ≤ x.p := List.getElem?_eq_none_iff.mp hs
      have hp' : ¬ (x.p : Int) < (x.s.length : Int) := by omega
      have e5 := e_gModI (i := x.r * 48271 + 7) (j := 2147483647) (by decide)
      refine ⟨none, ?_⟩
      simp [pickHd, rw_a0, rw_a1, rw_a2, rw_a3, hb, hp', e3, e5, setIx, rw_i3, rw_s3]
  · rw [if_neg hb]
    refine ⟨none, ?_⟩
    simp [pickHd, rw_a2, hb]
theorem h__law_pick : ∀ cs o, m__law_pick cs = some o → ∃ n out, g__law_pick n (startR 4 cs) = some out ∧ fin [true, true] out = some o := fun cs o h => by
  unfold m__law_pick at h
  split at h
  case h_2 => cases h
  rename_i ds many
  cases q : Rw.of ds with
  | none => rw [q] at h; cases h
  | some x =>
    rw [q] at h
    cases rw_of q
    dsimp only at h
    split at h
    case isFalse => cases h
    rename_i hm
    cases h
    obtain ⟨c2, e1⟩ := pick_head x (some (.i many)) 0
    obtain ⟨c2', c3', e2⟩ := pick_tail x.next many hm.1 hm.2 c2 none 0
    refine ⟨0, if 0 < x.next.b then .rt (.i (x.next.b.fmod many)) [some (.lst { x.next with b := x.next.b.fdiv many }.ds), some (.i many), c2', c3'] else .rt (.i (((x.next.r * 16807).fmod 2147483629).fmod many)) [some (.lst x.next.ds), some (.i many), c2', c3'], ?_, ?_⟩
    · show g__law_pick 0 [some (.lst x.ds), some (.i many), none, none] = _
      rw [pick_eq, e_sSeq, e1]
      exact e2
    · unfold Rw.pick
      split <;> rfl
theorem lstI_of {c : Cl} {ns : List Int} (h : lstI c = some ns) : c = .lst (zs ns) := by
  unfold lstI at h
  split at h
  · rename_i ds
    cases zs_of h
    rfl
  · cases h
theorem cutD_neg1 {α : Type} (xs : List α) : cutD xs none (some (-1)) = xs.dropLast := by
  unfold cutD
  rw [HT.sIx_none, List.drop_zero, Nat.sub_zero]
  have e : HT.sIx xs.length xs.length (some (-1)) = xs.length - 1 := by
    unfold HT.sIx
    dsimp only
    rw [if_pos (by decide)]
    omega
  rw [e, List.dropLast_eq_take]
theorem zs_dropLast (ns : List Int) : (zs ns).dropLast = zs ns.dropLast := by
  unfold zs
  rw [List.map_dropLast]
theorem end_stay (C : Option Cl) (n : Nat) {f : List Int} {x : Int} (h : f.getLast? = some x) (hx : x ≠ 0) : ∀ (ds : List Int) (p : Option Cl), ∃ p', forF gl__law_end_1 bl__law_end_1 n (zs ds) [C, some (.lst (zs f)), p] = some (.nx [C, some (.lst (zs f)), p'])
  | [], p => ⟨p, rfl⟩
  | d :: ds, p => by
    obtain ⟨p', e⟩ := end_stay C n h hx ds (some (.i d))
    refine ⟨p', ?_⟩
    have ha : atI (zs f) (-1) = some (.int x) := by rw [atI_neg1, h]; rfl
    have h0 : f ≠ [] := fun z => by rw [z] at h; cases h
    rw [zs_cons, for_step (ρ1 := [C, some (.lst (zs f)), some (.i d)]) (ρ2 := [C, some (.lst (zs f)), some (.i d)]) (by simp [gl__law_end_1]) (by simp [bl__law_end_1, ha, hx, h0]), e]
theorem end_loop (C : Option Cl) (n : Nat) : ∀ (ds : List Int) (f : List Int) (p : Option Cl), f ≠ [] → f.length ≤ ds.length → ∃ p', forF gl__law_end_1 bl__law_end_1 n (zs ds) [C, some (.lst (zs f)), p] = some (if trim f = [] then .rt (T []) [C, some (.lst []), p'] else .nx [C, some (.lst (zs (trim f))), p'])
  | [], f, p, h0, hl => absurd (List.eq_nil_of_length_eq_zero (Nat.le_zero.mp hl)) h0
  | d :: ds, f, p, h0, hl => by
    have ef : f.dropLast ++ [f.getLast h0] = f := List.dropLast_concat_getLast h0
    have hg : f.getLast? = some (f.getLast h0) := List.getLast?_eq_getLast h0
    have ha : atI (zs f) (-1) = some (.int (f.getLast h0)) := by rw [atI_neg1, hg]; rfl
    by_cases hz : f.getLast h0 = 0
    · have et : trim f = trim f.dropLast := by
        rw [← ef, hz, trim_snoc0, ← hz, ef]
      rw [hz] at ha
      have ec : cutD (zs f) none (some (-1)) = zs f.dropLast := by rw [cutD_neg1, zs_dropLast]
      by_cases h1 : f.dropLast = []
      · refine ⟨some (.i d), ?_⟩
        rw [et, h1, if_pos (show trim [] = [] from rfl)]
        have b1 : gl__law_end_1 (.int d) [C, some (.lst (zs f)), p] = some [C, some (.lst (zs f)), some (.i d)] := by simp [gl__law_end_1]
        rw [h1] at ec
        exact for_rt b1 (by simp [bl__law_end_1, ha, gSl, ec, zs_nil])
      · obtain ⟨p', e⟩ := end_loop C n ds f.dropLast (some (.i d)) h1 (by rw [List.length_dropLast]; have : (d :: ds).length = ds.length + 1 := rfl; omega)
        refine ⟨p', ?_⟩
        rw [et, ← e, zs_cons]
        exact for_step (ρ1 := [C, some (.lst (zs f)), some (.i d)]) (by simp [gl__law_end_1]) (by simp [bl__law_end_1, ha, gSl, ec, h1])
    · obtain ⟨p', e⟩ := end_stay C n hg hz (d :: ds) p
      refine ⟨p', ?_⟩
      have et : trim f = f := by rw [← ef, trim_snoc hz]
      rw [e, et, if_neg h0]
theorem smI0 : smI 0 = true := by rfl
theorem h__law_end : ∀ cs o, m__law_end cs = some o → ∃ n out, g__law_end n (startR 3 cs) = some out ∧ fin [true] out = some o := fun cs o h => by
  unfold m__law_end at h
  split at h
  case h_2 => cases h
  rename_i c
  split at h
  case h_2 => cases h
  rename_i ns e
  cases lstI_of e
  split at h
  case isFalse => cases h
  rename_i hl
  cases h
  have hs : smI (ns.length : Int) = true := smI_nat hl
  by_cases h0 : ns = []
  · subst h0
    exact ⟨0, .rt (T []) [some (.lst []), some (.lst []), none], by simp [g__law_end, startR, zs_nil, smI0, rngD, forF], rfl⟩
  · have er : rngD 0 ns.length = zs ((List.range ns.length).map fun (i : Nat) => (0 + (i : Int))) := by
      unfold rngD zs
      rw [List.map_map]; rfl
    obtain ⟨p', e1⟩ := end_loop (some (.lst (zs ns))) 0 ((List.range ns.length).map fun (i : Nat) => (0 + (i : Int))) ns none h0 (by rw [List.length_map, List.length_range]; exact Nat.le_refl _)
    rw [← er] at e1
    by_cases ht : trim ns = []
    · rw [if_pos ht] at e1
      refine ⟨0, .rt (T []) [some (.lst (zs ns)), some (.lst []), p'], ?_, by rw [ht]; rfl⟩
      simp [g__law_end, startR, hs, e1]
    · rw [if_neg ht] at e1
      refine ⟨0, .rt (T (trim ns)) [some (.lst (zs ns)), some (.lst (zs (trim ns))), p'], ?_, rfl⟩
      simp [g__law_end, startR, hs, e1]
theorem m_end_ok {ns : List Int} (h : ns.length ≤ 1000000) : m__law_end [.lst (zs ns)] = some (.ok (T (trim ns)) [some (.lst (zs ns))]) := by
  show (match intsD (zs ns) with
    | some ns' => if ns'.length ≤ 1000000 then some (Mo.ok (T (trim ns')) [some (.lst (zs ns))]) else none
    | none => none) = _
  rw [intsD_zs]
  exact if_pos h
theorem picks_lc (w : Int) (h1 : 0 < w) (h2 : w < 2 ^ 64) (M : Option Cl) (n : Nat) : ∀ (ds : List D) (x : Rw) (acc : List D), lcF 4 cg__law_poly_1 fYes ce__law_poly_1 [3] n ds [some (.lst x.ds), M, some (.i w), none] acc = some (.ok (.lst (acc ++ zs (Rw.picks w ds.length x).1)) [some (.lst (Rw.picks w ds.length x).2.ds), M, some (.i w), none])
  | [], x, acc => by
    show some (Rz.ok (Cl.lst acc) _) = some (Rz.ok (Cl.lst (acc ++ [])) _)
    rw [List.append_nil]; rfl
  | d :: ds, x, acc => by
    have e1 : m__law_pick [.lst x.ds, .fz (.int w)] = some (.ok (.i (x.pick w).1) [some (.lst (x.pick w).2.ds), some (.i w)]) := by
      unfold m__law_pick
      dsimp only
      rw [of_rw]
      exact if_pos ⟨h1, h2⟩
    rw [lc_step (ρ2 := [some (.lst x.ds), M, some (.i w), some (.fz d)]) (y := .int ((x.pick w).1 - w.fdiv 2)) (ρ4 := [some (.lst (x.pick w).2.ds), M, some (.i w), some (.fz d)]) (ρ5 := [some (.lst (x.pick w).2.ds), M, some (.i w), none]) (by simp [cg__law_poly_1]) (by rfl) (by simp [ce__law_poly_1, e1, e_gFdivS (i := w) (j := 2) (by decide) (by decide)]) (by rfl), picks_lc w h1 h2 M n ds, List.append_assoc]
    rfl
theorem wideAt_mem (k : Int) : wideAt k = 3 ∨ wideAt k = 7 ∨ wideAt k = 2000000001 := by
  unfold wideAt
  split
  · exact .inl rfl
  · split
    · exact .inr (.inl rfl)
    · exact .inr (.inr rfl)
theorem pick_ok {x : Rw} {k : Int} (h1 : 0 < k) (h2 : k < 2 ^ 64) : m__law_pick [.lst x.ds, .fz (.int k)] = some (.ok (.i (x.pick k).1) [some (.lst (x.pick k).2.ds), some (.i k)]) := by
  unfold m__law_pick
  dsimp only
  rw [of_rw]
  exact if_pos ⟨h1, h2⟩
theorem pick_rg (x : Rw) {k : Int} (h : 0 < k) : 0 ≤ (x.pick k).1 ∧ (x.pick k).1 < k := by
  unfold Rw.pick
  split
  · exact fm_pos _ h
  · exact fm_pos _ h
theorem picks_len (w : Int) : ∀ (n : Nat) (x : Rw), (Rw.picks w n x).1.length = n
  | 0, x => rfl
  | n + 1, x => congrArg (· + 1) (picks_len w n _)
theorem h__law_poly : ∀ cs o, m__law_poly cs = some o → ∃ n out, g__law_poly n (startR 4 cs) = some out ∧ fin [true, true] out = some o := fun cs o h => by
  unfold m__law_poly at h
  split at h
  case h_2 => cases h
  rename_i ds most
  cases q : Rw.of ds with
  | none => rw [q] at h; cases h
  | some x =>
    rw [q] at h
    cases rw_of q
    dsimp only at h
    split at h
    case isFalse => cases h
    rename_i hm
    cases h
    have e9 := pick_ok (x := x) (k := 9) (by decide) (by decide)
    have em := pick_ok (x := (x.pick 9).2) (k := most + 2) (by omega) (by omega)
    have r9 := pick_rg x (k := 9) (by decide)
    have rm := pick_rg (x.pick 9).2 (k := most + 2) (by omega)
    have f9 := e_gFdivS (i := (x.pick 9).1) (j := 4) (by decide) (by decide)
    have hd : (x.pick 9).1.fdiv 4 = (x.pick 9).1 / 4 := Int.fdiv_eq_ediv_of_nonneg _ (by decide)
    have hw : atI [PyData.int 3, .int 7, .int 2000000001] (min 2 ((x.pick 9).1.fdiv 4)) = some (.int (wideAt (min 2 ((x.pick 9).1.fdiv 4)))) := by
      rw [hd]
      have : min 2 ((x.pick 9).1 / 4) = 0 ∨ min 2 ((x.pick 9).1 / 4) = 1 ∨ min 2 ((x.pick 9).1 / 4) = 2 := by omega
      rcases this with z | z | z <;> rw [z] <;> rfl
    obtain ⟨w, ew⟩ : ∃ w, w = wideAt (min 2 ((x.pick 9).1.fdiv 4)) := ⟨_, rfl⟩
    have hw0 : 0 < w ∧ w < 2 ^ 64 := by
      rw [ew]
      rcases wideAt_mem (min 2 ((x.pick 9).1.fdiv 4)) with z | z | z <;> rw [z] <;> decide
    rw [← ew] at hw
    obtain ⟨y, ey⟩ : ∃ y, y = (x.pick 9).2.pick (most + 2) := ⟨_, rfl⟩
    rw [← ey] at em rm
    have hs : smI y.1 = true := Nat.ble_eq_true_of_le (by omega)
    have e1 := picks_lc w hw0.1 hw0.2 (some (.i most)) 0 (rngD 0 y.1.toNat) y.2 []
    rw [rngD_len, List.nil_append] at e1
    have lz : (rngD 0 y.1.toNat).length ≤ 1000000 := by rw [rngD_len]; omega
    have ee := m_end_ok (ns := (Rw.picks w y.1.toNat y.2).1) (by rw [picks_len]; omega)
    have ep : x.poly most = (trim (Rw.picks w y.1.toNat y.2).1, (Rw.picks w y.1.toNat y.2).2) := by
      rw [ew, ey]; rfl
    rw [ep]
    refine ⟨0, .rt (T (trim (Rw.picks w y.1.toNat y.2).1)) [some (.lst (Rw.picks w y.1.toNat y.2).2.ds), some (.i most), some (.i w), none], ?_, rfl⟩
    simp [g__law_poly, startR, e9, f9, hw, em, hs, wipR, lz, e1, ee]
end L3

namespace L3
open PySem PySem.Spec L2
open TL PySem.NumText
/-! ### words and whole numbers -/
theorem digB_iff (c : Nat) : digB c = true ↔ 48 ≤ c ∧ c ≤ 57 := by
  unfold digB
  rw [decide_eq_true_iff]
  have e : (Str.ofString "0123456789").cps.toList = [48, 49, 50, 51, 52, 53, 54, 55, 56, 57] := by decide +kernel
  rw [e]
  simp only [List.mem_cons, List.not_mem_nil, or_false]
  omega
theorem all_digits {l : List Nat} (h : l.all digB = true) : AllDigits l := fun c hc => (digB_iff c).mp (List.all_eq_true.mp h c hc)
theorem dv_snoc (l : List Nat) (c : Nat) : digitsVal (l ++ [c]) = digitsVal l * 10 + (c - 48) := by
  unfold digitsVal
  rw [List.foldl_append]; rfl
theorem canon : ∀ (k : Nat) (l : List Nat), l.length ≤ k → AllDigits l → l ≠ [] → (l = [48] ∨ l.head? ≠ some 48) → numL (digitsVal l) = l ∧ (l.head? ≠ some 48 → 1 ≤ digitsVal l)
  | 0, l, hl, _, h0, _ => absurd (List.eq_nil_of_length_eq_zero (by omega)) h0
  | k + 1, l, hl, hd, h0, hc => by
    obtain ⟨r, c, rfl⟩ : ∃ r c, l = r ++ [c] := ⟨l.dropLast, l.getLast h0, (List.dropLast_concat_getLast h0).symm⟩
    have hcd := hd c (by simp)
    have hrd : AllDigits r := fun x hx => hd x (by simp [hx])
    rw [dv_snoc]
    by_cases hr : r = []
    · subst hr
      have e0 : digitsVal [] = 0 := rfl
      rw [e0, Nat.zero_mul, Nat.zero_add]
      refine ⟨?_, fun h => ?_⟩
      · rw [numL_lt (by omega)]
        show [48 + (c - 48)] = [c]
        rw [show 48 + (c - 48) = c by omega]
      · have : c ≠ 48 := fun z => h (by rw [z]; rfl)
        omega
    · have hh : r.head? ≠ some 48 := by
        rcases hc with z | z
        · have := congrArg List.length z
          rw [List.length_append] at this
          have := List.length_pos_iff.mpr hr
          simp only [List.length_cons, List.length_nil] at *
          omega
        · intro q
          apply z
          cases r with
          | nil => exact absurd rfl hr
          | cons x r => exact q
      have lr : r.length ≤ k := by
        rw [List.length_append] at hl
        simp only [List.length_cons, List.length_nil] at hl
        omega
      obtain ⟨i1, i2⟩ := canon k r lr hrd hr (.inr hh)
      have i2 := i2 hh
      refine ⟨?_, fun _ => by omega⟩
      rw [numL_step (by omega), show (digitsVal r * 10 + (c - 48)) / 10 = digitsVal r by omega, show (digitsVal r * 10 + (c - 48)) % 10 = c - 48 by omega, i1, show 48 + (c - 48) = c by omega]
theorem numL_head {n : Nat} (h : (numL n).head? = some 48) : numL n = [48] := by
  by_cases h0 : n = 0
  · rw [h0]; exact numL_lt (by decide)
  · exfalso
    have go : ∀ (k n : Nat), n ≤ k → n ≠ 0 → (numL n).head? ≠ some 48 := fun k => by
      induction k with
      | zero => intro n h1 h2; omega
      | succ k ih =>
        intro n h1 h2 h3
        by_cases hn : n < 10
        · rw [numL_lt hn] at h3
          have := Option.some.inj h3
          omega
        · rw [numL_step (by omega)] at h3
          have := ih (n / 10) (by omega) (by omega)
          cases q : numL (n / 10) with
          | nil => exact numL_ne _ q
          | cons x r =>
            rw [q] at h3 this
            exact this h3
    exact go n n (Nat.le_refl _) h0 h
theorem canon_iff {l : List Nat} (hd : AllDigits l) (h0 : l ≠ []) : numL (digitsVal l) = l ↔ (l = [48] ∨ l.head? ≠ some 48) := by
  constructor
  · intro h
    by_cases z : l.head? = some 48
    · left
      rw [← h] at z ⊢
      exact numL_head z
    · exact .inr z
  · intro h
    exact (canon l.length l (Nat.le_refl _) hd h0 h).1
theorem tl_nat (n : Nat) : tl (txt n) = numL n := tl_num n
theorem tl_negn {n : Nat} (h : 0 < n) : tl (txt (-(n : Int))) = 45 :: numL n := by
  obtain ⟨m, rfl⟩ : ∃ m, n = m + 1 := ⟨n - 1, by omega⟩
  have e : (-((m + 1 : Nat) : Int)) = Int.negSucc m := by rw [Int.negSucc_eq]; omega
  rw [e]
  have e2 : toString (Int.negSucc m) = "-" ++ toString (((m + 1 : Nat) : Int)) := rfl
  unfold txt
  rw [tl_ofString, e2, String.toList_append, List.map_append]
  have e3 : ("-" : String).toList.map Char.toNat = [45] := by decide
  rw [e3]
  have e4 : (toString ((m + 1 : Nat) : Int)).toList.map Char.toNat = numL (m + 1) := by
    rw [← tl_ofString]
    exact tl_num (m + 1)
  rw [e4]; rfl
/-- the value of a word of figures, and its text -/
theorem good_word {w : Str} (h1 : figs (tl w) ≠ []) (h2 : (figs (tl w)).all digB = true) (h3 : (figs (tl w)).length ≤ 10) :
    intText? w = some (valS w) ∧ w.length ≤ 11 ∧ (txt (valS w) = w ↔ (tl w = [48] ∨ (figs (tl w)).head? ≠ some 48)) ∧ (valS w = 0 → (tl w = [48] ∨ (figs (tl w)).head? ≠ some 48) → w = Str.ofString "0") ∧ ((tl w = [48] ∨ (figs (tl w)).head? ≠ some 48) → w = Str.ofString "0" → valS w = 0) ∧ (valS w).natAbs < 10 ^ 10 := by
  have hd := all_digits h2
  have hb : ∀ l : List Nat, AllDigits l → l.length ≤ 10 → digitsVal l < 10 ^ 10 := by
    have go : ∀ (k : Nat) (l : List Nat), l.length ≤ k → AllDigits l → digitsVal l < 10 ^ k := fun k => by
      induction k with
      | zero =>
        intro l hl _
        rw [List.eq_nil_of_length_eq_zero (by omega : l.length = 0)]
        decide
      | succ k ih =>
        intro l hl hd
        by_cases h0 : l = []
        · rw [h0]; exact Nat.pow_pos (by decide)
        · obtain ⟨r, c, rfl⟩ : ∃ r c, l = r ++ [c] := ⟨l.dropLast, l.getLast h0, (List.dropLast_concat_getLast h0).symm⟩
          rw [List.length_append] at hl
          have := ih r (by simp only [List.length_cons, List.length_nil] at hl; omega) fun x hx => hd x (by simp [hx])
          have hc := hd c (by simp)
          rw [dv_snoc, Nat.pow_succ]
          omega
    exact fun l h1 h2 => Nat.lt_of_lt_of_le (go l.length l (Nat.le_refl _) h1) (Nat.pow_le_pow_right (by decide) h2)
  have z0 : tl (Str.ofString "0") = [48] := by rw [tl_ofString]; decide
  have hcases : (∃ r, tl w = 45 :: r ∧ figs (tl w) = r) ∨ ((tl w).head? ≠ some 45 ∧ figs (tl w) = tl w) := by
    cases q : tl w with
    | nil => exact .inr ⟨by simp, rfl⟩
    | cons c r =>
      by_cases hc : c = 45
      · subst hc; exact .inl ⟨r, rfl, rfl⟩
      · refine .inr ⟨fun z => hc (Option.some.inj z), ?_⟩
        unfold figs
        split
        · rename_i r' e
          injection e with e1 e2
          exact absurd e1 hc
        · rfl
  rcases hcases with ⟨r, e1, e2⟩ | ⟨e1, e2⟩
  · rw [e2] at h1 h2 h3 hd
    have lw : w.length = r.length + 1 := by rw [len_tl, e1]; rfl
    have ev : intText? w = some (-((digitsVal r : Nat) : Int)) := intText_neg e1 hd h1 (by omega)
    have vv : valS w = -((digitsVal r : Nat) : Int) := by unfold valS; rw [ev]; rfl
    rw [vv, e2, e1]
    have n48 : ¬ (45 :: r = [48]) := fun z => by cases z
    refine ⟨ev, by omega, ?_, ?_, ?_, ?_⟩
    · by_cases h0 : digitsVal r = 0
      · have hh : r.head? = some 48 := Classical.byContradiction fun z => by
          have := (canon r.length r (Nat.le_refl _) hd h1 (.inr z)).2 z
          omega
        have l : ¬ (txt (-((digitsVal r : Nat) : Int)) = w) := fun z => by
          have := congrArg tl z
          rw [h0] at this
          have t0 : tl (txt (-((0 : Nat) : Int))) = [48] := by
            have := tl_nat 0
            rw [numL_lt (by decide)] at this
            exact this
          rw [t0, e1] at this
          cases this
        exact ⟨fun z => absurd z l, fun z => z.elim (fun q => absurd q n48) fun q => absurd hh q⟩
      · have tn := tl_negn (n := digitsVal r) (by omega)
        have ci := canon_iff hd h1
        constructor
        · intro z
          have := congrArg tl z
          rw [tn, e1] at this
          injection this with _ this
          rcases ci.mp this with q | q
          · exfalso
            rw [q] at h0
            exact h0 rfl
          · exact .inr q
        · intro z
          rcases z with z | z
          · exact absurd z n48
          · refine ext_tl ?_
            rw [tn, e1, ci.mpr (.inr z)]
    · intro z hc
      exfalso
      rcases hc with q | q
      · exact n48 q
      · have := (canon r.length r (Nat.le_refl _) hd h1 (.inr q)).2 q
        omega
    · intro _ z
      exfalso
      have := congrArg tl z
      rw [e1, z0] at this
      cases this
    · have := hb r hd h3
      omega
  · rw [e2] at h1 h2 h3 hd
    have lw : w.length = (tl w).length := len_tl w
    have ev : intText? w = some ((digitsVal (tl w) : Nat) : Int) := intText_digits hd h1 (by omega)
    have vv : valS w = ((digitsVal (tl w) : Nat) : Int) := by unfold valS; rw [ev]; rfl
    rw [vv, e2]
    have ci := canon_iff hd h1
    have tn := tl_nat (digitsVal (tl w))
    refine ⟨ev, by omega, ?_, ?_, ?_, ?_⟩
    · constructor
      · intro z
        have := congrArg tl z
        rw [tn] at this
        exact ci.mp this
      · intro z
        exact ext_tl (by rw [tn, ci.mpr z])
    · intro z hc
      refine ext_tl ?_
      rw [z0]
      rcases hc with q | q
      · exact q
      · exfalso
        have := (canon (tl w).length (tl w) (Nat.le_refl _) hd h1 (.inr q)).2 q
        omega
    · intro _ z
      rw [z, z0]; rfl
    · have := hb (tl w) hd h3
      omega
end L3

namespace L3
open PySem PySem.Spec L2
open TL PySem.NumText
/-! ### texts compared, cut -/
theorem sh_str {a : Str} (h : PyData.strOk a = true) : SeqAt.shaped (.str a) = true := by simp [SeqAt.shaped, PyData.canLay0, PyData.depth, h]
theorem e_gEqS {a b : Str} (ha : PyData.strOk a = true) (hb : PyData.strOk b = true) : gEq [.fz (.str a), .fz (.str b)] = some (.fz (.bool (decide (a = b)))) := by
  show (if (SeqAt.shaped (.str a) && SeqAt.shaped (.str b)) = true then some (Cl.fz (.bool (PyData.eqv (.str a) (.str b)))) else none) = _
  have e : PyData.eqv (.str a) (.str b) = decide (a = b) := by
    simp only [PyData.eqv]
    by_cases h : a = b
    · simp [h]
    · simp [h]
  rw [e, sh_str ha, sh_str hb]; rfl
theorem e_gNeS {a b : Str} (ha : PyData.strOk a = true) (hb : PyData.strOk b = true) : gNe [.fz (.str a), .fz (.str b)] = some (.fz (.bool (!decide (a = b)))) := by
  show (if (SeqAt.shaped (.str a) && SeqAt.shaped (.str b)) = true then some (Cl.fz (.bool (!PyData.eqv (.str a) (.str b)))) else none) = _
  have e : PyData.eqv (.str a) (.str b) = decide (a = b) := by
    simp only [PyData.eqv]
    by_cases h : a = b
    · simp [h]
    · simp [h]
  rw [e, sh_str ha, sh_str hb]; rfl
theorem sok {a : Str} (h : ∀ c ∈ tl a, c < 1114112) : PyData.strOk a = true := by
  unfold PyData.strOk
  rw [Array.all_eq_true']
  intro c hc
  exact decide_eq_true (h c (by simpa [tl] using hc))
theorem sok_of {a : Str} (h : PyData.strOk a = true) : ∀ c ∈ tl a, c < 1114112 := fun c hc => by
  unfold PyData.strOk at h
  rw [Array.all_eq_true'] at h
  exact of_decide_eq_true (h c (by simpa [tl] using hc))
theorem sk0 : PyData.strOk (Str.ofString "0") = true := by decide +kernel
theorem skD : PyData.strOk (Str.ofString "-") = true := by decide +kernel
theorem skE : PyData.strOk (Str.ofString "") = true := by decide +kernel
theorem skP : PyData.strOk (Str.ofString "poly") = true := by decide +kernel
def mkS (l : List Nat) : Str := ⟨l.toArray⟩
theorem tl_mkS (l : List Nat) : tl (mkS l) = l := rfl
theorem cut_head (w : Str) : cutS w none (some 1) = mkS ((tl w).take 1) := by
  unfold cutS mkS
  congr 2
  have h0 : HT.sIx w.length 0 none = 0 := rfl
  rw [h0, List.drop_zero, Nat.sub_zero]
  have h1 : HT.sIx w.length w.length (some 1) = min 1 w.length := by
    unfold HT.sIx
    simp
  rw [h1, len_tl]
  by_cases h : (tl w).length = 0
  · rw [List.eq_nil_of_length_eq_zero h]; rfl
  · rw [show min 1 (tl w).length = 1 by omega]
theorem cut_tail (w : Str) : cutS w (some 1) none = mkS ((tl w).drop 1) := by
  unfold cutS mkS
  congr 2
  have h1 : HT.sIx w.length 0 (some 1) = min 1 w.length := by
    unfold HT.sIx
    simp
  have h0 : HT.sIx w.length w.length none = w.length := rfl
  rw [h0, h1, len_tl]
  by_cases h : (tl w).length = 0
  · rw [List.eq_nil_of_length_eq_zero h]; rfl
  · rw [show min 1 (tl w).length = 1 by omega]
    exact List.take_of_length_le (by rw [List.length_drop]; exact Nat.le_refl _)
theorem dash : tl (Str.ofString "-") = [45] := by rw [tl_ofString]; decide
theorem zeroT : tl (Str.ofString "0") = [48] := by rw [tl_ofString]; decide
theorem emptyT : tl (Str.ofString "") = [] := by rw [tl_ofString]; decide
theorem str_ext {a b : Str} : a = b ↔ tl a = tl b := ⟨fun h => by rw [h], ext_tl⟩
/-- the figures of a word, as a text -/
def figS (w : Str) : Str := if (tl w).head? = some 45 then mkS ((tl w).drop 1) else w
theorem tl_figS (w : Str) : tl (figS w) = figs (tl w) := by
  unfold figS
  cases q : tl w with
  | nil => rw [if_neg (by simp), q]; rfl
  | cons c r =>
    by_cases h : c = 45
    · subst h
      rw [if_pos (show (45 :: r).head? = some 45 from rfl)]
      rfl
    · rw [if_neg (show ¬ (c :: r).head? = some 45 from fun z => h (Option.some.inj z)), q]
      unfold figs
      split
      · rename_i r' e
        injection e with e1 e2
        exact absurd e1 h
      · rfl
theorem figS_le (w : Str) : (figS w).length ≤ w.length := by
  rw [len_tl, len_tl, tl_figS]
  unfold figs
  split
  · rename_i r e
    rw [e]; exact Nat.le_succ _
  · exact Nat.le_refl _
theorem head_dash (w : Str) : decide (mkS ((tl w).take 1) = Str.ofString "-") = decide ((tl w).head? = some 45) := by
  rw [decide_eq_decide, str_ext, dash, tl_mkS]
  cases tl w with
  | nil => simp
  | cons c r => simp
theorem signsD_cons {x : Str} {c : Nat} {r : List Nat} (h : tl x = c :: r) : signsD x = .str ⟨#[c]⟩ :: signsD (mkS r) := by
  unfold signsD
  have h : x.cps.toList = c :: r := h
  rw [h]; rfl
theorem signsD_nil {x : Str} (h : tl x = []) : signsD x = [] := by
  unfold signsD
  have h : x.cps.toList = [] := h
  rw [h]; rfl
theorem gInS_dig (c : Nat) : gInS false [.fz (.str ⟨#[c]⟩), .fz (.str (Str.ofString "0123456789"))] = some (.fz (.bool (digB c))) := rfl
theorem boolsD_by {α : Type} (p : α → Bool) : ∀ l : List α, boolsD (l.map fun x => PyData.bool (p x)) = some (l.map p)
  | [] => rfl
  | x :: l => by
    show (match boolsD (l.map fun x => PyData.bool (p x)) with | some ns => some (p x :: ns) | none => none) = _
    rw [boolsD_by p l]; rfl
theorem gAll_digs (l : List Nat) : gAll [.lst (l.map fun c => .bool (digB c))] = some (.b (l.all digB)) := by
  show ((boolsD (l.map fun c => PyData.bool (digB c))).map fun ns => Cl.fz (.bool (ns.all id))) = _
  rw [boolsD_by, Option.map_some, List.all_map]; rfl
theorem whole_lc (A B : Option Cl) (n : Nat) : ∀ (l : List Nat) (acc : List D), lcF 3 cg_is_whole_1 fYes ce_is_whole_1 [2] n (l.map fun c => .str ⟨#[c]⟩) [A, B, none] acc = some (.ok (.lst (acc ++ l.map fun c => .bool (digB c))) [A, B, none])
  | [], acc => by
    show some (Rz.ok (Cl.lst acc) _) = some (Rz.ok (Cl.lst (acc ++ [])) _)
    rw [List.append_nil]
  | c :: l, acc => by
    rw [List.map_cons, lc_step (ρ2 := [A, B, some (.fz (.str ⟨#[c]⟩))]) (y := .bool (digB c)) (ρ4 := [A, B, some (.fz (.str ⟨#[c]⟩))]) (ρ5 := [A, B, none]) (by simp [cg_is_whole_1]) (by rfl) (by simp [ce_is_whole_1, gInS_dig]) (by rfl), whole_lc A B n l, List.append_assoc]
    rfl
theorem gIx_sign {x : Str} {c : Nat} {r : List Nat} (h : tl x = c :: r) (hl : x.length ≤ 200000) : gIx [.fz (.str x), .fz (.int 0)] = some (.fz (.str ⟨#[c]⟩)) := by
  show (if x.length ≤ 10000000 then (atI x.cps.toList 0).map fun c => Cl.fz (.str ⟨#[c]⟩) else none) = _
  have h : x.cps.toList = c :: r := h
  have ha : atI (c :: r) 0 = some c := atI_nat (j := 0) rfl
  rw [if_pos (by omega), h, ha]; rfl
theorem one_sign (c : Nat) : decide ((⟨#[c]⟩ : Str) = Str.ofString "0") = decide (c = 48) := by
  rw [decide_eq_decide, str_ext, zeroT]
  show [c] = [48] ↔ _
  simp
theorem h_is_whole : ∀ cs o, m_is_whole cs = some o → ∃ n out, g_is_whole n (startR 3 cs) = some out ∧ fin [true] out = some o := fun cs o h => by
  unfold m_is_whole at h
  split at h
  case h_2 => cases h
  rename_i w
  split at h
  case isFalse => cases h
  rename_i hw
  rw [Bool.and_eq_true] at hw
  have hk := hw.2
  have hw := Nat.le_of_ble_eq_true hw.1
  have hk1 : PyData.strOk (mkS ((tl w).take 1)) = true := sok fun c hc => sok_of hk c (List.mem_of_mem_take hc)
  cases h
  have hf := figS_le w
  have lf : w.length ≤ 10000000 := by omega
  have lf2 : (figS w).length ≤ 10000000 := by omega
  have tf := tl_figS w
  have c1 : gSl none (some 1) (.fz (.str w)) = some (.fz (.str (mkS ((tl w).take 1)))) := by
    show (if w.length ≤ 10000000 then some (Cl.fz (.str (cutS w none (some 1)))) else none) = _
    rw [if_pos lf, cut_head]
  have c2 : gSl (some 1) none (.fz (.str w)) = some (.fz (.str (mkS ((tl w).drop 1)))) := by
    show (if w.length ≤ 10000000 then some (Cl.fz (.str (cutS w (some 1) none))) else none) = _
    rw [if_pos lf, cut_tail]
  have g1 := (e_gEqS hk1 skD).trans (by rw [head_dash])
  have e2 := whole_lc (some (.fz (.str w))) (some (.fz (.str (figS w)))) 0 (figs (tl w)) []
  rw [List.nil_append, ← tf] at e2
  have e2 : lcF 3 cg_is_whole_1 fYes ce_is_whole_1 [2] 0 (signsD (figS w)) [some (.fz (.str w)), some (.fz (.str (figS w))), none] [] = _ := e2
  have ga := gAll_digs (tl (figS w))
  have ln : gLenA [.fz (.str (figS w))] = some (.fz (.int (figS w).length)) := by
    show (if (figS w).length ≤ 10000000 then some (Cl.fz (.int (figS w).length)) else none) = _
    rw [if_pos lf2]
  have lz : (signsD (figS w)).length ≤ 1000000 := by
    unfold signsD
    rw [List.length_map, ← len_tl]; omega
  have hst : ∀ R : FS, sSeq (sSet 1 (fIf (fTst (f2 (fOf (fSlU (fPl 0) (fOf (fC (.int 1))))) (fOf (fC (.str "-"))) gEq)) (fSlL (fPl 0) (fOf (fC (.int 1)))) (fFz (fPl 0)))) R 0 [some (.fz (.str w)), none, none] = R 0 [some (.fz (.str w)), some (.fz (.str (figS w))), none] := fun R => by
    unfold figS
    by_cases hd : (tl w).head? = some 45
    · rw [decide_eq_true hd] at g1
      simp [c1, c2, g1, hd]
    · rw [decide_eq_false hd] at g1
      simp [c1, c2, g1, hd]
  refine ⟨0, .rt (.b (wholeB w)) [some (.fz (.str w)), some (.fz (.str (figS w))), none], ?_, rfl⟩
  unfold g_is_whole
  rw [show startR 3 [.fz (.str w)] = [some (.fz (.str w)), none, none] from rfl, hst]
  have lfe : (figS w).length = (tl (figS w)).length := len_tl _
  have hwb : wholeB w = ((decide (1 ≤ (tl (figS w)).length) && decide ((tl (figS w)).length ≤ 10)) && (tl (figS w)).all digB && (decide (tl w = [48]) || !decide ((tl (figS w)).head? = some 48))) := by
    unfold wholeB
    rw [tf]
  rw [hwb]
  generalize hF : figS w = f at *
  by_cases h1 : 1 ≤ (tl f).length
  · by_cases h10 : (tl f).length ≤ 10
    · have i1 : (1 : Int) ≤ f.length := by omega
      have i2 : (f.length : Int) ≤ 10 := by omega
      by_cases hall : (tl f).all digB = true
      · obtain ⟨c, r, hc⟩ : ∃ c r, tl f = c :: r := by
          cases q : tl f with
          | nil => rw [q] at h1; exact absurd h1 (by decide)
          | cons c r => exact ⟨c, r, rfl⟩
        rw [hall] at ga
        have ix := gIx_sign hc (by omega)
        have g0 := e_gEqS hk sk0
        have hcm : c ∈ tl w := by
          have hcf : c ∈ figs (tl w) := by rw [← tf, hc]; exact List.mem_cons_self
          unfold figs at hcf
          split at hcf
          · rename_i r' e
            rw [e]; exact List.mem_cons_of_mem _ hcf
          · exact hcf
        have gn := (e_gNeS (a := ⟨#[c]⟩) (sok fun x hx => by rw [List.mem_singleton.mp hx]; exact sok_of hk c hcm) sk0).trans (by rw [one_sign])
        have hw0 : decide (w = Str.ofString "0") = decide (tl w = [48]) := by rw [decide_eq_decide, str_ext, zeroT]
        rw [hw0] at g0
        rw [decide_eq_true h1, decide_eq_true h10, hall, hc]
        have hh : decide ((c :: r).head? = some 48) = decide (c = 48) := by rw [decide_eq_decide]; simp
        rw [hh]
        by_cases hz : tl w = [48]
        · rw [decide_eq_true hz] at g0 ⊢
          simp [ln, i1, i2, lz, wipR, e2, ga, g0]
        · rw [decide_eq_false hz] at g0 ⊢
          simp [ln, i1, i2, lz, wipR, e2, ga, g0, ix, gn]
      · have hall : (tl f).all digB = false := by rw [← Bool.not_eq_true]; exact hall
        rw [hall] at ga
        rw [hall]
        simp [ln, i1, i2, lz, wipR, e2, ga]
    · have i1 : (1 : Int) ≤ f.length := by omega
      have i2 : ¬ (f.length : Int) ≤ 10 := by omega
      rw [decide_eq_false h10]
      simp [ln, i1, i2]
  · have i1 : ¬ (1 : Int) ≤ f.length := by omega
    rw [decide_eq_false h1]
    simp [ln, i1]
end L3

namespace L3
open PySem PySem.Spec L2
open TL PySem.NumText
/-! ### a line's words -/
theorem mk2 (a b : D) : mkFsD [Str.ofString "line", Str.ofString "word"] [a, b] = [(Str.ofString "word", b), (Str.ofString "line", a)] := rfl
theorem strsD_ss : ∀ ws : List Str, strsD (ss ws) = some ws
  | [] => rfl
  | w :: ws => by
    show (match strsD (ss ws) with | some xs => some (w :: xs) | none => none) = _
    rw [strsD_ss ws]
theorem strsD_of : ∀ {ds : List D} {ws : List Str}, strsD ds = some ws → ds = ss ws
  | [], ws, h => by cases h; rfl
  | d :: ds, ws, h => by
    cases d with
    | str x =>
      have h : (match strsD ds with | some xs => some (x :: xs) | none => none) = some ws := h
      cases q : strsD ds with
      | none => rw [q] at h; cases h
      | some xs =>
        rw [q] at h
        cases h
        rw [strsD_of q]; rfl
    | _ => cases h
theorem strsC_of {c : Cl} {ws : List Str} (h : strsC c = some ws) : c = .lst (ss ws) ∨ c = .fz (.list (ss ws)) := by
  unfold strsC at h
  split at h
  · exact .inl (by rw [strsD_of h])
  · exact .inr (by rw [strsD_of h])
  · cases h
theorem shL {a : Str} (h : PyData.strOk a = true) : SeqAt.shaped (.list [.str a]) = true := by
  simp [SeqAt.shaped, PyData.canLay0, PyData.canLayAll0, PyData.depth, PyData.depthAll, h]
theorem gNe_1 {a b : Str} (ha : PyData.strOk a = true) (hb : PyData.strOk b = true) : gNe [.lst [.str a], .lst [.str b]] = some (.b (!decide (a = b))) := by
  show (if (SeqAt.shaped (.list [.str a]) && SeqAt.shaped (.list [.str b])) = true then some (Cl.fz (.bool (!PyData.eqv (.list [.str a]) (.list [.str b])))) else none) = _
  rw [shL ha, shL hb]
  have e : PyData.eqv (.list [.str a]) (.list [.str b]) = decide (a = b) := by
    simp only [PyData.eqv, PyData.eqvAll]
    by_cases h : a = b
    · simp [h]
    · simp [h]
  rw [e]; rfl
theorem gNe_0 {b : Str} (hb : PyData.strOk b = true) : gNe [.lst [], .lst [.str b]] = some (.b true) := by
  show (if (SeqAt.shaped (.list []) && SeqAt.shaped (.list [.str b])) = true then some (Cl.fz (.bool (!PyData.eqv (.list []) (.list [.str b])))) else none) = _
  rw [shL hb, show SeqAt.shaped (.list []) = true from by simp [SeqAt.shaped, PyData.canLay0, PyData.canLayAll0, PyData.depth, PyData.depthAll]]
  simp [PyData.eqv, PyData.eqvAll]
theorem ss_cons (w : Str) (ws : List Str) : ss (w :: ws) = .str w :: ss ws := rfl
theorem ss_len (ws : List Str) : (ss ws).length = ws.length := List.length_map ..
theorem goodWs_of {ws : List Str} (h : goodWs ws = true) : ∀ w ∈ ws, 1 ≤ w.length ∧ w.length ≤ 200000 ∧ PyData.strOk w = true := fun w hw => by
  have := List.all_eq_true.mp h w hw
  rw [Bool.and_eq_true, Bool.and_eq_true] at this
  exact ⟨Nat.le_of_ble_eq_true this.1.1, Nat.le_of_ble_eq_true this.1.2, this.2⟩
theorem m_whole_ok {w : Str} (h1 : w.length ≤ 200000) (h2 : PyData.strOk w = true) : m_is_whole [.fz (.str w)] = some (.ok (.b (wholeB w)) [some (.fz (.str w))]) := by
  unfold m_is_whole
  dsimp only
  rw [h2, show Nat.ble w.length 200000 = true from Nat.ble_eq_true_of_le h1]; rfl
theorem whole_word {w : Str} (h : wholeB w = true) : figs (tl w) ≠ [] ∧ (figs (tl w)).all digB = true ∧ (figs (tl w)).length ≤ 10 ∧ (tl w = [48] ∨ (figs (tl w)).head? ≠ some 48) := by
  unfold wholeB at h
  simp only [Bool.and_eq_true, Bool.or_eq_true, decide_eq_true_eq, Bool.not_eq_true', decide_eq_false_iff_not] at h
  obtain ⟨⟨⟨a, b⟩, c⟩, d⟩ := h
  exact ⟨fun z => by rw [z] at a; exact absurd a (by decide), c, b, d⟩
theorem whole_int {w : Str} (h : wholeB w = true) : gIntA [.fz (.str w)] = some (.i (valS w)) := by
  obtain ⟨a, b, c, d⟩ := whole_word h
  obtain ⟨e1, e2, _⟩ := good_word a b c
  show (if Nat.ble w.length 640 = true then (intText? w).map fun n => Cl.fz (.int n) else none) = _
  rw [if_pos (Nat.ble_eq_true_of_le (by omega)), e1]; rfl
theorem okW_iff {w : Str} (h : wholeB w = true) : okW w = !decide (1000000000 < (valS w).natAbs) := by
  unfold okW
  rw [h, Bool.true_and]
  by_cases z : (valS w).natAbs ≤ 1000000000
  · rw [decide_eq_true (show -1000000000 ≤ valS w by omega), decide_eq_true (show valS w ≤ 1000000000 by omega), decide_eq_false (by omega)]; rfl
  · rw [decide_eq_true (show 1000000000 < (valS w).natAbs by omega)]
    by_cases z2 : -1000000000 ≤ valS w
    · rw [decide_eq_false (show ¬ valS w ≤ 1000000000 by omega)]; simp
    · rw [decide_eq_false z2]; rfl
theorem poly_loop (c : Cl) (l : Int) (n : Nat) : ∀ (us : List Str) (i : Nat) (f : List Int) (p q : Option Cl), (∀ w ∈ us, 1 ≤ w.length ∧ w.length ≤ 200000 ∧ PyData.strOk w = true) → f.length = i → i + us.length ≤ 300000 →
    (scanW (i + 1) us = none → ∃ p' q', forF gl_poly_in_1 bl_poly_in_1 n (enumD i (ss us)) [some c, some (.i l), some (.lst (zs f)), p, q] = some (.nx [some c, some (.i l), some (.lst (zs (f ++ us.map valS))), p', q'])) ∧
    (∀ k, scanW (i + 1) us = some k → ∃ f' p' q', forF gl_poly_in_1 bl_poly_in_1 n (enumD i (ss us)) [some c, some (.i l), some (.lst (zs f)), p, q] = some (.ex (badL l (k + 1)) [some c, some (.i l), some f', p', q']))
  | [], i, f, p, q, _, _, _ => ⟨(fun _ => ⟨p, q, (by rw [List.map_nil, List.append_nil]; rfl)⟩), (fun k h => by cases h)⟩
  | w :: us, i, f, p, q, hw, hf, hi => by
    obtain ⟨w1, w2, w3⟩ := hw w List.mem_cons_self
    have hi' : i + (us.length + 1) ≤ 300000 := hi
    have ew := m_whole_ok w2 w3
    have st : gl_poly_in_1 (.tuple [.int (i : Nat), .str w]) [some c, some (.i l), some (.lst (zs f)), p, q] = some [some c, some (.i l), some (.lst (zs f)), some (.i i), some (.fz (.str w))] := by simp [gl_poly_in_1]
    have en : enumD i (ss (w :: us)) = .tuple [.int (i : Nat), .str w] :: enumD (i + 1) (ss us) := rfl
    have bad2 : badL l ((i : Int) + 2) = badL l ((i + 1 : Nat) + 1) := by
      congr 1
    by_cases hok : (okW w && !decide (i + 1 = 14)) = true
    · rw [Bool.and_eq_true] at hok
      have h13 : i ≠ 13 := by simpa using hok.2
      have hwh : wholeB w = true := by
        have := hok.1
        unfold okW at this
        rw [Bool.and_eq_true, Bool.and_eq_true] at this
        exact this.1.1
      have hv : ¬ 1000000000 < (valS w).natAbs := by
        have := hok.1
        rw [okW_iff hwh] at this
        simpa using this
      have ei := whole_int hwh
      have sc : scanW (i + 1) (w :: us) = scanW (i + 1 + 1) us := if_pos (by rw [hok.1]; simpa using h13)
      have zf : (zs f).length ≤ 10000000 := by rw [zs_len]; omega
      have ap : gApp (.lst (zs f)) [.int (valS w)] = some (.none, .lst (zs (f ++ [valS w]))) := by
        show (if Nat.ble (zs f).length 10000000 = true then some (PyData.none, Cl.lst (zs f ++ [.int (valS w)])) else none) = _
        rw [if_pos (Nat.ble_eq_true_of_le zf), zs_app]; rfl
      have hv' : ¬ (1000000000 : Int) < ((valS w).natAbs : Int) := by omega
      have h13' : ¬ (i : Int) = 13 := by omega
      rw [hwh] at ew
      obtain ⟨i1, i2⟩ := poly_loop c l n us (i + 1) (f ++ [valS w]) (some (.i i)) (some (.fz (.str w))) (fun v hv => hw v (List.mem_cons_of_mem _ hv)) (by rw [List.length_append, hf]; rfl) (by omega)
      have bs : bl_poly_in_1 n [some c, some (.i l), some (.lst (zs f)), some (.i i), some (.fz (.str w))] = some (.nx [some c, some (.i l), some (.lst (zs (f ++ [valS w]))), some (.i i), some (.fz (.str w))]) := by
        simp [bl_poly_in_1, h13', ew, ei, hv', ap]
      rw [sc, en, for_step st bs]
      refine ⟨fun h => ?_, fun k h => i2 k h⟩
      obtain ⟨p', q', e⟩ := i1 h
      rw [List.append_assoc] at e
      exact ⟨p', q', e⟩
    · have sc : scanW (i + 1) (w :: us) = some (i + 1) := if_neg hok
      refine ⟨(fun h => by rw [sc] at h; cases h), fun k h => ?_⟩
      rw [sc] at h
      cases h
      rw [en]
      refine ⟨.lst (zs f), some (.i i), some (.fz (.str w)), ?_⟩
      rw [← bad2]
      refine for_ex st ?_
      by_cases h13 : i = 13
      · subst h13
        simp [bl_poly_in_1, badL, mk2]
      · have h13' : ¬ (i : Int) = 13 := by omega
        by_cases hwh : wholeB w = true
        · have ei := whole_int hwh
          have hv : (1000000000 : Int) < ((valS w).natAbs : Int) := by
            have : ¬ okW w = true := fun z => hok (by rw [z]; simpa using h13)
            rw [okW_iff hwh] at this
            have : 1000000000 < (valS w).natAbs := by simpa using this
            omega
          rw [hwh] at ew
          simp [bl_poly_in_1, h13', ew, ei, hv, badL, mk2]
        · have hwh : wholeB w = false := by rw [← Bool.not_eq_true]; exact hwh
          rw [hwh] at ew
          simp [bl_poly_in_1, h13', ew, badL, mk2]
theorem scan_ok : ∀ (us : List Str) (k : Nat), scanW k us = none → ∀ w ∈ us, okW w = true
  | [], _, _, w, h => by cases h
  | u :: us, k, h, w, hw => by
    unfold scanW at h
    split at h
    · rename_i hc
      rw [Bool.and_eq_true] at hc
      rcases List.mem_cons.mp hw with e | hw
      · rw [e]; exact hc.1
      · exact scan_ok us (k + 1) h w hw
    · cases h
/-- the last one is 0 -/
theorem last_zero_iff {us : List Str} (h : ∀ w ∈ us, okW w = true) : (us.map valS).getLast? = some 0 ↔ us.getLast? = some (Str.ofString "0") := by
  rw [List.getLast?_map]
  cases q : us.getLast? with
  | none => simp
  | some w =>
    have hw := h w (List.mem_of_getLast? q)
    have hwh : wholeB w = true := by
      unfold okW at hw
      rw [Bool.and_eq_true, Bool.and_eq_true] at hw
      exact hw.1.1
    obtain ⟨a, b, c, d⟩ := whole_word hwh
    obtain ⟨_, _, _, g1, g2, _⟩ := good_word a b c
    show some (valS w) = some 0 ↔ some w = some (Str.ofString "0")
    constructor
    · intro z
      rw [g1 (Option.some.inj z) d]
    · intro z
      rw [g2 d (Option.some.inj z)]
theorem h_poly_in : ∀ cs o, m_poly_in cs = some o → ∃ n out, g_poly_in n (startR 5 cs) = some out ∧ fin [true, true] out = some o := fun cs o h => by
  unfold m_poly_in at h
  split at h
  case h_2 => cases h
  rename_i c l
  split at h
  case h_2 => cases h
  rename_i ws ec
  split at h
  case isFalse => cases h
  rename_i hg
  rw [Bool.and_eq_true] at hg
  have hgw := goodWs_of hg.1
  have hln := Nat.le_of_ble_eq_true hg.2
  cases h
  have hsl1 : gSl none (some 1) c = some (.lst (ss (ws.take 1))) := by
    have e : ∀ ds : List D, cutD ds none (some 1) = ds.take 1 := fun ds => by
      unfold cutD
      have h0 : HT.sIx ds.length 0 none = 0 := rfl
      have h1 : HT.sIx ds.length ds.length (some 1) = min 1 ds.length := by unfold HT.sIx; simp
      rw [h0, h1, List.drop_zero, Nat.sub_zero]
      cases ds <;> simp
    rcases strsC_of ec with z | z <;> rw [z]
    · show some (Cl.lst (cutD (ss ws) none (some 1))) = _
      rw [e]; unfold ss; rw [List.map_take]
    · show some (Cl.lst (cutD (ss ws) none (some 1))) = _
      rw [e]; unfold ss; rw [List.map_take]
  have hsl2 : gSl (some 1) none c = some (.lst (ss (ws.drop 1))) := by
    rcases strsC_of ec with z | z <;> rw [z]
    · show some (Cl.lst (cutD (ss ws) (some 1) none)) = _
      rw [show cutD (ss ws) (some 1) none = (ss ws).drop 1 from cutD_drop (ss ws) 1]; unfold ss; rw [List.map_drop]
    · show some (Cl.lst (cutD (ss ws) (some 1) none)) = _
      rw [show cutD (ss ws) (some 1) none = (ss ws).drop 1 from cutD_drop (ss ws) 1]; unfold ss; rw [List.map_drop]
  have hlen : gLenA [c] = some (.fz (.int ws.length)) := by
    rcases strsC_of ec with z | z <;> rw [z]
    · show some (Cl.fz (.int ((ss ws).length : Nat))) = _
      rw [ss_len]
    · show some (Cl.fz (.int ((ss ws).length : Nat))) = _
      rw [ss_len]
  cases ws with
  | nil =>
    have g := gNe_0 skP
    refine ⟨0, .ex (badL l 1) [some c, some (.i l), none, none, none], ?_, rfl⟩
    simp [g_poly_in, st_poly_in_1, startR, hsl1, ss, g, badL, mk2]
  | cons w us =>
    obtain ⟨w1, w2, w3⟩ := hgw w List.mem_cons_self
    have g := gNe_1 w3 skP
    have hs1 : ss (List.take 1 (w :: us)) = [.str w] := by rw [List.take_succ_cons, List.take_zero]; rfl
    rw [hs1] at hsl1
    rw [List.drop_one, List.tail_cons] at hsl2
    by_cases hp : w = Str.ofString "poly"
    · have hfl : faultL (w :: us) = (match scanW 1 us with
        | some k => k + 1
        | none => if us.getLast? = some (Str.ofString "0") then us.length + 1 else 0) := if_pos hp
      rw [decide_eq_true hp] at g
      have hln' : us.length + 1 ≤ 200001 := hln
      have zl : (enumD 0 (ss us)).length ≤ 1000000 := by rw [enumD_len, ss_len]; omega
      obtain ⟨i1, i2⟩ := poly_loop c l 0 us 0 [] none none (fun v hv => hgw v (List.mem_cons_of_mem _ hv)) rfl (by omega)
      cases q : scanW 1 us with
      | some k =>
        obtain ⟨f', p', q', e⟩ := i2 k q
        have e : forF gl_poly_in_1 bl_poly_in_1 0 (enumD 0 (ss us)) [some c, some (.i l), some (.lst []), none, none] = _ := e
        rw [hfl, q]
        refine ⟨0, .ex (badL l (k + 1)) [some c, some (.i l), some f', p', q'], ?_, rfl⟩
        simp [g_poly_in, st_poly_in_1, st_poly_in_2, st_poly_in_3, startR, hsl1, hsl2, g, asSeq, e]
      | none =>
        obtain ⟨p', q', e⟩ := i1 q
        rw [List.nil_append] at e
        have e : forF gl_poly_in_1 bl_poly_in_1 0 (enumD 0 (ss us)) [some c, some (.i l), some (.lst []), none, none] = _ := e
        have hok := scan_ok us 1 q
        have lz := last_zero_iff hok
        have ga : ∀ f : List Int, gNe [.lst (zs f), .lst []] = some (.b (!decide (f = []))) := fun f => by
          show (if (SeqAt.shaped (.list (zs f)) && SeqAt.shaped (.list (zs []))) = true then some (Cl.fz (.bool (!PyData.eqv (.list (zs f)) (.list (zs []))))) else none) = _
          rw [sh_lst, sh_lst]
          have : PyData.eqv (.list (zs f)) (.list (zs [])) = decide (f = []) := by
            simp only [PyData.eqv]
            exact eqv_zs f []
          rw [this]; rfl
        have gn := ga (us.map valS)
        rw [hfl, q]
        dsimp only
        by_cases h0 : us.getLast? = some (Str.ofString "0")
        · rw [if_pos h0, if_neg (by omega)]
          have hl := lz.mpr h0
          have al : atI (zs (us.map valS)) (-1) = some (.int 0) := by rw [atI_neg1, hl]; rfl
          have hne : us.map valS ≠ [] := fun z => by rw [z] at hl; cases hl
          rw [decide_eq_false hne] at gn
          have hln2 : gLenA [c] = some (.fz (.int ((us.length + 1 : Nat)))) := hlen
          refine ⟨0, .ex (badL l (us.length + 1 : Nat)) [some c, some (.i l), some (.lst (zs (us.map valS))), p', q'], ?_, rfl⟩
          generalize us.map valS = vs at *
          simp [g_poly_in, st_poly_in_1, st_poly_in_2, st_poly_in_3, st_poly_in_4, startR, hsl1, hsl2, g, asSeq, e, gn, al, hln2, badL, mk2]
        · rw [if_neg h0, if_pos rfl]
          have ht : (w :: us).tail.map valS = us.map valS := rfl
          rw [ht]
          refine ⟨0, .rt (T (us.map valS)) [some c, some (.i l), some (.lst (zs (us.map valS))), p', q'], ?_, rfl⟩
          have hl : ¬ (us.map valS).getLast? = some 0 := fun z => h0 (lz.mp z)
          generalize us.map valS = vs at *
          by_cases hne : vs = []
          · rw [decide_eq_true hne] at gn
            simp [g_poly_in, st_poly_in_1, st_poly_in_2, st_poly_in_3, st_poly_in_4, st_poly_in_5, startR, hsl1, hsl2, g, asSeq, e, gn]
          · rw [decide_eq_false hne] at gn
            have al : atI (zs vs) (-1) = some (.int (vs.getLast hne)) := by rw [atI_neg1, List.getLast?_eq_getLast hne]; rfl
            have hv0 : ¬ vs.getLast hne = 0 := fun z => hl (by rw [List.getLast?_eq_getLast hne, z])
            simp [g_poly_in, st_poly_in_1, st_poly_in_2, st_poly_in_3, st_poly_in_4, st_poly_in_5, startR, hsl1, hsl2, g, asSeq, e, gn, al, hv0]
    · have hfl : faultL (w :: us) = 1 := if_neg hp
      rw [hfl]
      rw [decide_eq_false hp] at g
      refine ⟨0, .ex (badL l 1) [some c, some (.i l), none, none, none], ?_, rfl⟩
      simp [g_poly_in, st_poly_in_1, startR, hsl1, g, badL, mk2]
end L3

namespace L3
open PySem PySem.Spec L2
open TL PySem.NumText
/-! ### lengths of pieces and of joined texts -/
def lsum (ws : List Str) : Nat := (ws.map (·.length)).sum
theorem lsum_cons (w : Str) (ws : List Str) : lsum (w :: ws) = w.length + lsum ws := by simp [lsum]
theorem lsum_nil : lsum [] = 0 := rfl
theorem lsum_app (a b : List Str) : lsum (a ++ b) = lsum a + lsum b := by simp [lsum]
theorem lsum_mem : ∀ {ws : List Str} {w : Str}, w ∈ ws → w.length ≤ lsum ws
  | u :: ws, w, h => by
    rw [lsum_cons]
    rcases List.mem_cons.mp h with e | h
    · rw [e]; omega
    · have := lsum_mem h
      omega
theorem lsum_rep (w : Str) : ∀ n : Nat, lsum (List.replicate n w) = n * w.length
  | 0 => by simp [lsum]
  | n + 1 => by rw [List.replicate_succ, lsum_cons, lsum_rep w n, Nat.succ_mul]; omega
theorem app_len (a b : Str) : (a ++ b).length = a.length + b.length := by rw [len_tl, tl_append, List.length_append, ← len_tl, ← len_tl]
theorem jn_len (y : Str) (hy : y.length = 1) : ∀ (w : Str) (ws : List Str), (Str.join y (w :: ws)).length + 1 = lsum (w :: ws) + (w :: ws).length
  | w, [] => by
    show w.length + 1 = _
    rw [lsum_cons, lsum_nil, List.length_singleton]
  | w, v :: ws => by
    show (w ++ y ++ Str.join y (v :: ws)).length + 1 = _
    have := jn_len y hy v ws
    rw [app_len, app_len, hy, lsum_cons, List.length_cons]
    omega
theorem jn_le (y : Str) (hy : y.length = 1) (ws : List Str) : (Str.join y ws).length ≤ lsum ws + ws.length := by
  cases ws with
  | nil => exact Nat.zero_le _
  | cons w ws => have := jn_len y hy w ws; omega
theorem jn_mem (y : Str) : ∀ {ws : List Str} {w : Str}, w ∈ ws → ∀ c ∈ tl w, c ∈ tl (Str.join y ws)
  | [u], w, h, c, hc => by
    rw [List.mem_singleton.mp h] at hc
    exact hc
  | u :: v :: ws, w, h, c, hc => by
    show c ∈ tl (u ++ y ++ Str.join y (v :: ws))
    rw [tl_append, tl_append, List.mem_append, List.mem_append]
    rcases List.mem_cons.mp h with e | h
    · rw [e] at hc; exact .inl (.inl hc)
    · exact .inr (jn_mem y h c hc)
theorem jn_sub (y : Str) : ∀ (ws : List Str) (c : Nat), c ∈ tl (Str.join y ws) → c ∈ tl y ∨ ∃ w ∈ ws, c ∈ tl w
  | [], c, h => by cases h
  | [u], c, h => .inr ⟨u, List.mem_singleton.mpr rfl, h⟩
  | u :: v :: ws, c, h => by
    have h : c ∈ tl (u ++ y ++ Str.join y (v :: ws)) := h
    rw [tl_append, tl_append, List.mem_append, List.mem_append] at h
    rcases h with (h | h) | h
    · exact .inr ⟨u, List.mem_cons_self, h⟩
    · exact .inl h
    · rcases jn_sub y (v :: ws) c h with z | ⟨w, z, z2⟩
      · exact .inl z
      · exact .inr ⟨w, List.mem_cons_of_mem _ z, z2⟩
theorem jn_ok {y : Str} (hy : PyData.strOk y = true) {ws : List Str} (h : ∀ w ∈ ws, PyData.strOk w = true) : PyData.strOk (Txt.join y ws) = true := by
  rw [join_eq]
  refine sok fun c hc => ?_
  rcases jn_sub y ws c hc with z | ⟨w, z, z2⟩
  · exact sok_of hy c z
  · exact sok_of (h w z) c z2
theorem split_sum (x y : Str) (hy : y.length = 1) : lsum (Txt.split x y) + (Txt.split x y).length = x.length + 1 ∨ Txt.split x y = [] := by
  have e := StrLaws.join_split x y
  cases q : Txt.split x y with
  | nil => exact .inr rfl
  | cons w ws =>
    rw [q] at e
    have := jn_len y hy w ws
    rw [e] at this
    exact .inl this.symm
theorem split_okc {x y : Str} (h : PyData.strOk x = true) : ∀ w ∈ Txt.split x y, PyData.strOk w = true := fun w hw => by
  refine sok fun c hc => sok_of h c ?_
  have := jn_mem y hw c hc
  rwa [StrLaws.join_split] at this
open TL PySem.NumText
/-! ### lines and words of a text -/
theorem spl_ne (S : List Nat) : ∀ (l : List Nat) (k : Nat) (acc : List Nat), spl S k acc l ≠ []
  | [], k, acc => by rw [spl_nil]; simp
  | c :: l, 0, acc => by
    cases h : pre S (c :: l) with
    | true => rw [spl_hit h]; simp
    | false => rw [spl_miss h]; exact spl_ne S l 0 _
  | c :: l, k + 1, acc => by
    rw [spl_pass]
    have : (c :: l).drop (k + 1) = l.drop k := rfl
    rw [this, ← spl_pass]
    exact spl_ne S l k acc
theorem kindN (x : Str) : ¬ Builtin.Str.strKind x < Builtin.Str.strKind (Str.ofString "\n") := kind_ok (by decide +kernel)
theorem kindS (x : Str) : ¬ Builtin.Str.strKind x < Builtin.Str.strKind (Str.ofString " ") := kind_ok (by decide +kernel)
theorem nlT : tl (Str.ofString "\n") = [10] := by rw [tl_ofString]; decide
theorem spT : tl (Str.ofString " ") = [32] := by rw [tl_ofString]; decide
theorem splitN (x : Str) : (Txt.split x (Str.ofString "\n")).map tl = spl [10] 0 [] (tl x) := by
  have := split_spl x (Str.ofString "\n") (by rw [nlT]; simp) (kindN x)
  rwa [nlT] at this
theorem splitS (x : Str) : (Txt.split x (Str.ofString " ")).map tl = spl [32] 0 [] (tl x) := by
  have := split_spl x (Str.ofString " ") (by rw [spT]; simp) (kindS x)
  rwa [spT] at this
theorem splitN_ne (x : Str) : Txt.split x (Str.ofString "\n") ≠ [] := fun z => by
  have := splitN x
  rw [z] at this
  exact spl_ne _ _ _ _ this.symm
theorem splitS_ne (x : Str) : Txt.split x (Str.ofString " ") ≠ [] := fun z => by
  have := splitS x
  rw [z] at this
  exact spl_ne _ _ _ _ this.symm
theorem gSplitN {t : Str} (h : t.length ≤ 10000000) : gSplit t [.str (Str.ofString "\n")] = some (.lst (ss (Txt.split t (Str.ofString "\n")))) := by
  show (if (!((Str.ofString "\n").length == 0) && Nat.ble t.length 10000000) = true then some (Cl.lst ((Txt.split t (Str.ofString "\n")).map .str)) else none) = _
  rw [show Nat.ble t.length 10000000 = true from Nat.ble_eq_true_of_le h]; rfl
theorem gSplitS {t : Str} (h : t.length ≤ 10000000) : gSplit t [.str (Str.ofString " ")] = some (.lst (ss (Txt.split t (Str.ofString " ")))) := by
  show (if (!((Str.ofString " ").length == 0) && Nat.ble t.length 10000000) = true then some (Cl.lst ((Txt.split t (Str.ofString " ")).map .str)) else none) = _
  rw [show Nat.ble t.length 10000000 = true from Nat.ble_eq_true_of_le h]; rfl
structure OkLn (l : Str) : Prop where
  len : l.length ≤ 200000
  wd : ∀ w ∈ Txt.split l (Str.ofString " "), w.length ≤ 200000 ∧ PyData.strOk w = true
  cnt : (Txt.split l (Str.ofString " ")).length ≤ 200001
theorem split_le {x y : Str} (hy : y.length = 1) : (∀ w ∈ Txt.split x y, w.length ≤ x.length) ∧ (Txt.split x y).length ≤ x.length + 1 := by
  rcases split_sum x y hy with h | h
  · refine ⟨fun w hw => ?_, by omega⟩
    have := lsum_mem hw
    have : 1 ≤ (Txt.split x y).length := List.length_pos_of_mem hw
    omega
  · rw [h]; exact ⟨fun w hw => absurd hw List.not_mem_nil, Nat.zero_le _⟩
theorem okLn_of {l : Str} (h : l.length ≤ 200000) (h2 : PyData.strOk l = true) : OkLn l := by
  obtain ⟨a, b⟩ := split_le (x := l) (y := Str.ofString " ") rfl
  exact ⟨h, fun w hw => ⟨Nat.le_trans (a w hw) h, split_okc h2 w hw⟩, by omega⟩
structure OkT (t : Str) : Prop where
  len : t.length ≤ 200000
  ln : ∀ l ∈ Txt.split t (Str.ofString "\n"), OkLn l
  cnt : (Txt.split t (Str.ofString "\n")).length ≤ 200001
theorem okT_of {t : Str} (h : okT2 t = true) : OkT t := by
  unfold okT2 at h
  rw [Bool.and_eq_true] at h
  have h1 := Nat.le_of_ble_eq_true h.1
  obtain ⟨a, b⟩ := split_le (x := t) (y := Str.ofString "\n") rfl
  exact ⟨h1, fun l hl => okLn_of (Nat.le_trans (a l hl) h1) (split_okc h.2 l hl), by omega⟩
theorem OkLn.words {l : Str} (h : OkLn l) : goodWs (wordsOf l) = true ∧ (wordsOf l).length ≤ 200001 := by
  refine ⟨List.all_eq_true.mpr fun w hw => ?_, Nat.le_trans (List.length_filter_le _ _) h.cnt⟩
  unfold wordsOf at hw
  rw [List.mem_filter] at hw
  obtain ⟨a, b⟩ := h.wd w hw.1
  have h1 : 1 ≤ w.length := by
    have h2 : w ≠ Str.ofString "" := by simpa using hw.2
    rw [len_tl]
    refine List.length_pos_iff.mpr fun z => h2 (ext_tl (by rw [z, emptyT]))
  rw [b, Nat.ble_eq_true_of_le h1, Nat.ble_eq_true_of_le a]; rfl
theorem words_lc (c0 c1 c2 c4 c5 : Option Cl) (n : Nat) : ∀ (ws : List Str) (acc : List D), (∀ w ∈ ws, PyData.strOk w = true) → lcF 6 cg_read_1 ct_read_1 ce_read_1 [3] n (ss ws) [c0, c1, c2, none, c4, c5] acc = some (.ok (.lst (acc ++ ss (ws.filter fun w => !decide (w = Str.ofString "")))) [c0, c1, c2, none, c4, c5])
  | [], acc, _ => by
    show some (Rz.ok (Cl.lst acc) _) = some (Rz.ok (Cl.lst (acc ++ [])) _)
    rw [List.append_nil]
  | w :: ws, acc, h => by
    have g := e_gNeS (h w List.mem_cons_self) skE
    rw [ss_cons]
    by_cases hw : w = Str.ofString ""
    · rw [decide_eq_true hw] at g
      rw [lc_stepF (ρ2 := [c0, c1, c2, some (.fz (.str w)), c4, c5]) (ρ3 := [c0, c1, c2, some (.fz (.str w)), c4, c5]) (ρ5 := [c0, c1, c2, none, c4, c5]) (by simp [cg_read_1]) (by rfl) (by simp [ct_read_1, g]) (by rfl), words_lc c0 c1 c2 c4 c5 n ws _ fun v hv => h v (List.mem_cons_of_mem _ hv), List.filter_cons_of_neg (by simp [hw])]
    · rw [decide_eq_false hw] at g
      rw [lc_stepT (ρ2 := [c0, c1, c2, some (.fz (.str w)), c4, c5]) (ρ3 := [c0, c1, c2, some (.fz (.str w)), c4, c5]) (y := .str w) (ρ4 := [c0, c1, c2, some (.fz (.str w)), c4, c5]) (ρ5 := [c0, c1, c2, none, c4, c5]) (by simp [cg_read_1]) (by rfl) (by simp [ct_read_1, g]) (by simp [ce_read_1]) (by rfl), words_lc c0 c1 c2 c4 c5 n ws _ fun v hv => h v (List.mem_cons_of_mem _ hv), List.filter_cons_of_pos (by simp [hw]), List.append_assoc]
      rfl
def lnD (ls : List (List Str)) : List D := ls.map fun ws => .list (ss ws)
theorem lines_lc (c0 c1 c4 c5 : Option Cl) (n : Nat) : ∀ (ls : List Str) (acc : List D), (∀ l ∈ ls, OkLn l) → lcF 6 cg_read_2 fYes ce_read_2 [2] n (ss ls) [c0, c1, none, none, c4, c5] acc = some (.ok (.lst (acc ++ lnD (ls.map wordsOf))) [c0, c1, none, none, c4, c5])
  | [], acc, _ => by
    show some (Rz.ok (Cl.lst acc) _) = some (Rz.ok (Cl.lst (acc ++ [])) _)
    rw [List.append_nil]
  | l :: ls, acc, h => by
    have hl := h l List.mem_cons_self
    have g := gSplitS (t := l) (by have := hl.len; omega)
    have e := words_lc c0 c1 (some (.fz (.str l))) c4 c5 n (Txt.split l (Str.ofString " ")) [] fun w hw => (hl.wd w hw).2
    rw [List.nil_append] at e
    have lz : (Txt.split l (Str.ofString " ")).length ≤ 1000000 := by have := hl.cnt; omega
    have lz : (ss (Txt.split l (Str.ofString " "))).length ≤ 1000000 := by rw [ss_len]; exact lz
    rw [ss_cons, lc_step (ρ2 := [c0, c1, some (.fz (.str l)), none, c4, c5]) (y := .list (ss (wordsOf l))) (ρ4 := [c0, c1, some (.fz (.str l)), none, c4, c5]) (ρ5 := [c0, c1, none, none, c4, c5]) (by simp [cg_read_2]) (by rfl) (by simp [ce_read_2, g, asSeq, lz, wipR, e, wordsOf]) (by rfl), lines_lc c0 c1 c4 c5 n ls _ fun v hv => h v (List.mem_cons_of_mem _ hv), List.append_assoc]
    rfl
theorem m_poly_ok {ws : List Str} {l : Int} (h1 : goodWs ws = true) (h2 : ws.length ≤ 200001) : m_poly_in [.fz (.list (ss ws)), .fz (.int l)] = some (if faultL ws = 0 then .ok (T (ws.tail.map valS)) [some (.fz (.list (ss ws))), some (.i l)] else .ex (badL l (faultL ws)) [some (.fz (.list (ss ws))), some (.i l)]) := by
  unfold m_poly_in
  dsimp only
  rw [show strsC (.fz (.list (ss ws))) = some ws from strsD_ss ws]
  dsimp only
  rw [h1, show Nat.ble ws.length 200001 = true from Nat.ble_eq_true_of_le h2]; rfl
theorem h_read : ∀ cs o, m_read cs = some o → ∃ n out, g_read n (startR 6 cs) = some out ∧ fin [true] out = some o := fun cs o h => by
  unfold m_read at h
  split at h
  case h_2 => cases h
  rename_i t
  split at h
  case isFalse => cases h
  rename_i ht
  have ht := okT_of ht
  cases h
  have g := gSplitN (t := t) (by have := ht.len; omega)
  have e := lines_lc (some (.fz (.str t))) none none none 0 (Txt.split t (Str.ofString "\n")) [] ht.ln
  rw [List.nil_append] at e
  have lz : (ss (Txt.split t (Str.ofString "\n"))).length ≤ 1000000 := by rw [ss_len]; have := ht.cnt; omega
  have eL : lnD ((Txt.split t (Str.ofString "\n")).map wordsOf) = lnD (linesOf t) := rfl
  rw [eL] at e
  have hw : ∀ ws ∈ linesOf t, goodWs ws = true ∧ ws.length ≤ 200001 := fun ws hws => by
    obtain ⟨l, hl, rfl⟩ := List.mem_map.mp hws
    exact (ht.ln l hl).words
  have hne : linesOf t ≠ [] := fun z => splitN_ne t (by simpa [linesOf] using z)
  have s1 : ∀ R : FS, sSeq st_read_1 R 0 (startR 6 [.fz (.str t)]) = R 0 [some (.fz (.str t)), some (.lst (lnD (linesOf t))), none, none, none, none] := fun R => by
    simp [st_read_1, startR, g, asSeq, lz, wipR, e]
  refine ⟨0, ?_⟩
  unfold g_read
  rw [s1]
  unfold readR
  generalize linesOf t = L at *
  cases L with
  | nil => exact absurd rfl hne
  | cons a r =>
    obtain ⟨a1, a2⟩ := hw a List.mem_cons_self
    have pa := m_poly_ok (l := 1) a1 a2
    have i0 : atI (lnD (a :: r)) 0 = some (.list (ss a)) := atI_nat (j := 0) rfl
    by_cases fa : faultL a = 0
    · rw [if_pos fa] at pa
      cases r with
      | nil =>
        refine ⟨.ex (badL 2 1) [some (.fz (.str t)), some (.lst (lnD [a])), none, none, some (T (a.tail.map valS)), none], ?_, by dsimp only; rw [if_pos fa]; rfl⟩
        have l1 : ((lnD [a]).length : Int) < 2 := by simp only [lnD, List.length_map, List.length_cons, List.length_nil]; omega
        generalize lnD [a] = LD at *
        simp [st_read_2, st_read_3, i0, pa, l1, badL, mk2]
      | cons b r =>
        obtain ⟨b1, b2⟩ := hw b (List.mem_cons_of_mem _ List.mem_cons_self)
        have pb := m_poly_ok (l := 2) b1 b2
        have i1 : atI (lnD (a :: b :: r)) 1 = some (.list (ss b)) := atI_nat (j := 1) rfl
        have l2 : ¬ (((lnD (a :: b :: r)).length : Int) < 2) := by simp only [lnD, List.length_map, List.length_cons]; omega
        by_cases fb : faultL b = 0
        · rw [if_pos fb] at pb
          cases r with
          | nil =>
            have l3 : ¬ (2 < ((lnD [a, b]).length : Int)) := by simp only [lnD, List.length_map, List.length_cons, List.length_nil]; omega
            refine ⟨.rt (.fz (.tuple [.tuple (zs (a.tail.map valS)), .tuple (zs (b.tail.map valS))])) [some (.fz (.str t)), some (.lst (lnD [a, b])), none, none, some (T (a.tail.map valS)), some (T (b.tail.map valS))], ?_, by dsimp only; rw [if_pos fa, if_pos fb]; rfl⟩
            generalize lnD [a, b] = LD at *
            simp [st_read_2, st_read_3, st_read_4, st_read_5, st_read_6, i0, pa, i1, pb, l2, l3]
          | cons d r =>
            have l3 : (2 < ((lnD (a :: b :: d :: r)).length : Int)) := by simp only [lnD, List.length_map, List.length_cons]; omega
            refine ⟨.ex (badL 3 1) [some (.fz (.str t)), some (.lst (lnD (a :: b :: d :: r))), none, none, some (T (a.tail.map valS)), some (T (b.tail.map valS))], ?_, by dsimp only; rw [if_pos fa, if_pos fb]; rfl⟩
            generalize lnD (a :: b :: d :: r) = LD at *
            simp [st_read_2, st_read_3, st_read_4, st_read_5, i0, pa, i1, pb, l2, l3, badL, mk2]
        · rw [if_neg fb] at pb
          refine ⟨.ex (badL 2 (faultL b)) [some (.fz (.str t)), some (.lst (lnD (a :: b :: r))), none, none, some (T (a.tail.map valS)), none], ?_, by dsimp only; rw [if_pos fa, if_neg fb]; rfl⟩
          generalize lnD (a :: b :: r) = LD at *
          simp [st_read_2, st_read_3, st_read_4, i0, pa, i1, pb, l2]
    · rw [if_neg fa] at pa
      refine ⟨.ex (badL 1 (faultL a)) [some (.fz (.str t)), some (.lst (lnD (a :: r))), none, none, none, none], ?_, by dsimp only; rw [if_neg fa]; rfl⟩
      generalize lnD (a :: r) = LD at *
      simp [st_read_2, i0, pa]
theorem h__law_told_there : ∀ cs o, m__law_told_there cs = some o → ∃ n out, g__law_told_there n (startR 3 cs) = some out ∧ fin [true] out = some o := fun cs o h => by
  unfold m__law_told_there at h
  split at h
  case h_2 => cases h
  rename_i t
  split at h
  case isFalse => cases h
  rename_i ht
  cases h
  have tb : ∀ i j, tblO [("BadLine", true)] (badL i j) = some true := fun _ _ => rfl
  have sf : ∀ i j, seF ["BadLine"] "line" (badL i j) = some (.int i) := fun _ _ => rfl
  have sg : ∀ i j, seF ["BadLine"] "word" (badL i j) = some (.int j) := fun _ _ => rfl
  have tB : ∀ i j, tblB ["BadLine"] (badL i j) = true := fun _ _ => rfl
  unfold toldC
  cases q : readR t with
  | inl p =>
    obtain ⟨x, y⟩ := p
    have e : m_read [.fz (.str t)] = some (.ok (.fz (.tuple [.tuple (zs x), .tuple (zs y)])) [some (.fz (.str t))]) := by
      unfold m_read
      dsimp only
      rw [if_pos ht, q]
    exact ⟨0, .rt (.fz (.tuple [.tuple (zs x), .tuple (zs y)])) [some (.fz (.str t)), none, none], by simp [g__law_told_there, tb__law_told_there_1, startR, e], rfl⟩
  | inr p =>
    obtain ⟨i, j⟩ := p
    have e : m_read [.fz (.str t)] = some (.ex (badL i j) [some (.fz (.str t))]) := by
      unfold m_read
      dsimp only
      rw [if_pos ht, q]
    exact ⟨0, .rt (.lst [.str "line", .int i, .int j]) [some (.fz (.str t)), none, none], by simp [g__law_told_there, tb__law_told_there_1, startR, e, tb, sf, sg, tB], rfl⟩
end L3

namespace L3
open PySem PySem.Spec L2
open TL PySem.NumText
/-! ### the law's own reading -/
theorem ss_lay : ∀ ws : List Str, (∀ w ∈ ws, PyData.strOk w = true) → PyData.canLayAll0 (ss ws) = true ∧ PyData.depthAll (ss ws) ≤ 1
  | [], _ => ⟨by simp [ss, PyData.canLayAll0], by simp [ss, PyData.depthAll]⟩
  | w :: ws, h => by
    obtain ⟨a, b⟩ := ss_lay ws fun v hv => h v (List.mem_cons_of_mem _ hv)
    rw [ss_cons]
    refine ⟨by simp [PyData.canLayAll0, PyData.canLay0, h w List.mem_cons_self, a], ?_⟩
    simp only [PyData.depthAll, PyData.depth]
    omega
theorem sh_ss {ws : List Str} (h : ∀ w ∈ ws, PyData.strOk w = true) : SeqAt.shaped (.list (ss ws)) = true := by
  obtain ⟨a, b⟩ := ss_lay ws h
  unfold SeqAt.shaped
  rw [Bool.and_eq_true]
  refine ⟨by simp [PyData.canLay0, a], decide_eq_true ?_⟩
  simp only [PyData.depth]
  omega
theorem eq_nil_ss {c : Cl} {ws : List Str} (hc : c.data = some (.list (ss ws))) (h : ∀ w ∈ ws, PyData.strOk w = true) : gEq [c, .lst []] = some (.b (decide (ws = []))) := by
  show (match c.data, (Cl.lst []).data with
    | some d, some e => if (SeqAt.shaped d && SeqAt.shaped e) = true then some (Cl.fz (.bool (PyData.eqv d e))) else none
    | _, _ => none) = _
  rw [hc]
  show (if (SeqAt.shaped (.list (ss ws)) && SeqAt.shaped (.list (ss []))) = true then some (Cl.fz (.bool (PyData.eqv (.list (ss ws)) (.list [])))) else none) = _
  rw [sh_ss h, sh_ss (ws := []) fun w hw => by cases hw]
  have e : PyData.eqv (.list (ss ws)) (.list []) = decide (ws = []) := by
    cases ws with
    | nil => simp [ss, PyData.eqv, PyData.eqvAll]
    | cons w ws => simp [ss, PyData.eqv, PyData.eqvAll]
  rw [e]; rfl
theorem strsC_data {c : Cl} {ws : List Str} (h : strsC c = some ws) : c.data = some (.list (ss ws)) := by
  rcases strsC_of h with z | z <;> rw [z] <;> rfl
theorem ix_data {c : Cl} {ds : List D} (h : c.data = some (.list ds)) (i : Int) : gIx [c, .fz (.int i)] = (atI ds i).map .fz := by
  show (match c.data with
    | some (.list ds) => (atI ds i).map Cl.fz
    | some (.tuple ds) => (atI ds i).map Cl.fz
    | some (.str z) => if z.length ≤ 10000000 then (atI z.cps.toList i).map fun c => Cl.fz (.str ⟨#[c]⟩) else none
    | _ => none) = _
  rw [h]
theorem len_data {c : Cl} {ds : List D} (h : c.data = some (.list ds)) : gLenA [c] = some (.fz (.int ds.length)) := by
  cases c with
  | fz d => cases h; rfl
  | lst ds' => cases h; rfl
  | dct _ => cases h
  | _ => cases h
theorem txt_ok (v : Int) : PyData.strOk (txt v) = true := by
  refine sok fun c hc => ?_
  by_cases h : 0 ≤ v
  · obtain ⟨n, rfl⟩ := Int.eq_ofNat_of_zero_le h
    rw [tl_nat] at hc
    have := numL_digits n c hc
    omega
  · obtain ⟨n, hn⟩ : ∃ n : Nat, v = -((n : Nat) : Int) := ⟨v.natAbs, by omega⟩
    rw [hn, tl_negn (by omega)] at hc
    rcases List.mem_cons.mp hc with e | hc
    · omega
    · have := numL_digits n c hc
      omega
theorem fault_lc (c k f g : Option Cl) (n : Nat) : ∀ (l : List Nat) (acc : List D), lcF 5 cg__law_fault_1 fYes ce__law_fault_1 [4] n (l.map fun c => .str ⟨#[c]⟩) [c, k, f, g, none] acc = some (.ok (.lst (acc ++ l.map fun c => .bool (digB c))) [c, k, f, g, none])
  | [], acc => by
    show some (Rz.ok (Cl.lst acc) _) = some (Rz.ok (Cl.lst (acc ++ [])) _)
    rw [List.append_nil]
  | x :: l, acc => by
    rw [List.map_cons, lc_step (ρ2 := [c, k, f, g, some (.fz (.str ⟨#[x]⟩))]) (y := .bool (digB x)) (ρ4 := [c, k, f, g, some (.fz (.str ⟨#[x]⟩))]) (ρ5 := [c, k, f, g, none]) (by simp [cg__law_fault_1]) (by rfl) (by simp [ce__law_fault_1, gInS_dig]) (by rfl), fault_lc c k f g n l, List.append_assoc]
    rfl
theorem fault_turn {c : Cl} {ws : List Str} (hc : c.data = some (.list (ss ws))) (n k : Nat) (w : Str) (hk : ws[k]? = some w) (w1 : 1 ≤ w.length) (w2 : w.length ≤ 200000) (w3 : PyData.strOk w = true) (f g : Option Cl) :
    ((okW w && !decide (k = 14)) = true → ∃ f' g', bl__law_fault_1 n [some c, some (.i k), f, g, none] = some (.nx [some c, some (.i k), f', g', none])) ∧
    (¬ (okW w && !decide (k = 14)) = true → ∃ f' g', bl__law_fault_1 n [some c, some (.i k), f, g, none] = some (.rt (.i ((k : Int) + 1)) [some c, some (.i k), f', g', none])) := by
  have ak : atI (ss ws) (k : Int) = some (.str w) := atI_nat (by unfold ss; rw [List.getElem?_map, hk]; rfl)
  have ix := ix_data hc (k : Int)
  rw [ak] at ix
  have ix : gIx [c, .fz (.int k)] = some (.fz (.str w)) := ix
  obtain ⟨x, r, hx⟩ : ∃ x r, tl w = x :: r := by
    cases q : tl w with
    | nil => rw [len_tl, q] at w1; exact absurd w1 (by decide)
    | cons x r => exact ⟨x, r, rfl⟩
  have i0 := gIx_sign hx w2
  have xk : PyData.strOk ⟨#[x]⟩ = true := sok fun y hy => by
    rw [List.mem_singleton.mp hy]
    exact sok_of w3 x (by rw [hx]; exact List.mem_cons_self)
  have gd := e_gEqS xk skD
  have hd : decide ((⟨#[x]⟩ : Str) = Str.ofString "-") = decide (x = 45) := by
    rw [decide_eq_decide, str_ext, dash]
    show [x] = [45] ↔ _
    simp
  rw [hd] at gd
  have c2 : gSl (some 1) none (.fz (.str w)) = some (.fz (.str (mkS ((tl w).drop 1)))) := by
    show (if w.length ≤ 10000000 then some (Cl.fz (.str (cutS w (some 1) none))) else none) = _
    rw [if_pos (by omega), cut_tail]
  have fs : figS w = if x = 45 then mkS ((tl w).drop 1) else w := by
    unfold figS
    rw [hx]
    by_cases h : x = 45
    · rw [if_pos h, if_pos (show (x :: r).head? = some 45 by rw [h]; rfl)]
    · rw [if_neg h, if_neg (show ¬ (x :: r).head? = some 45 from fun z => h (Option.some.inj z))]
  have tf := tl_figS w
  have fle := figS_le w
  have fk : PyData.strOk (figS w) = true := sok fun y hy => by
    rw [tf] at hy
    unfold figs at hy
    split at hy
    · rename_i r' e
      exact sok_of w3 y (by rw [e]; exact List.mem_cons_of_mem _ hy)
    · exact sok_of w3 y hy
  have ge := e_gNeS fk skE
  have he : decide (figS w = Str.ofString "") = decide (figs (tl w) = []) := by rw [decide_eq_decide, str_ext, emptyT, tf]
  rw [he] at ge
  have e2 := fault_lc (some c) (some (.i k)) (some (.fz (.str (figS w)))) g n (figs (tl w)) []
  rw [List.nil_append, ← tf] at e2
  have e2 : lcF 5 cg__law_fault_1 fYes ce__law_fault_1 [4] n (signsD (figS w)) [some c, some (.i k), some (.fz (.str (figS w))), g, none] [] = _ := e2
  have ga := gAll_digs (tl (figS w))
  have ln : gLenA [.fz (.str (figS w))] = some (.fz (.int (figS w).length)) := by
    show (if (figS w).length ≤ 10000000 then some (Cl.fz (.int (figS w).length)) else none) = _
    rw [if_pos (by omega)]
  have lz : (signsD (figS w)).length ≤ 1000000 := by
    unfold signsD
    rw [List.length_map, ← len_tl]; omega
  have lfe : (figS w).length = (figs (tl w)).length := by rw [len_tl, tf]
  -- the second statement's answer
  have good : (figs (tl w) ≠ [] ∧ (figs (tl w)).all digB = true ∧ (figs (tl w)).length ≤ 10) ∨ ¬ (figs (tl w) ≠ [] ∧ (figs (tl w)).all digB = true ∧ (figs (tl w)).length ≤ 10) := Classical.em _
  have hif : ∀ R : FS, sSeq (sSet 2 (fIf (fTst (f2 (fOf (f2 (fOf (f2 (fPl 0) (fPl 1) gIx)) (fOf (fC (.int 0))) gIx)) (fOf (fC (.str "-"))) gEq)) (fSlL (fOf (f2 (fPl 0) (fPl 1) gIx)) (fOf (fC (.int 1)))) (f2 (fPl 0) (fPl 1) gIx))) R n [some c, some (.i k), f, g, none] = R n [some c, some (.i k), some (.fz (.str (figS w))), g, none] := fun R => by
    rw [fs]
    by_cases h : x = 45
    · rw [decide_eq_true h] at gd
      rw [if_pos h]
      simp [ix, i0, gd, c2]
    · rw [decide_eq_false h] at gd
      rw [if_neg h]
      simp [ix, i0, gd]
  unfold bl__law_fault_1
  rw [hif]
  generalize hF : figS w = F at *
  rw [← tf] at good ge lfe
  rcases good with ⟨g1, g2, g3⟩ | gbad
  · rw [tf] at g1 g2 g3
    obtain ⟨v1, v2, v3, _, _, v6⟩ := good_word g1 g2 g3
    rw [← tf] at g1 g2 g3
    rw [decide_eq_false g1] at ge
    rw [g2] at ga
    have l11 : (F.length : Int) < 11 := by omega
    have ei : gIntA [.fz (.str w)] = some (.i (valS w)) := by
      show (if Nat.ble w.length 640 = true then (intText? w).map fun n => Cl.fz (.int n) else none) = _
      rw [if_pos (Nat.ble_eq_true_of_le (by omega)), v1]; rfl
    have lg : Nat.blt (valS w).natAbs.log2 1920 = true := by
      refine Nat.ble_eq_true_of_le ?_
      by_cases h0 : (valS w).natAbs = 0
      · rw [h0]; decide
      · have : (10 : Nat) ^ 10 < 2 ^ 64 := by decide
        have := (Nat.log2_lt h0).mpr (show (valS w).natAbs < 2 ^ 64 by omega)
        omega
    have es : gStr [.fz (.int (valS w))] = some (.fz (.str (txt (valS w)))) := if_pos lg
    have gt := e_gNeS (txt_ok (valS w)) w3
    have hok : okW w = (decide (txt (valS w) = w) && !decide (1000000000 < (valS w).natAbs)) := by
      by_cases hcn : tl w = [48] ∨ (figs (tl w)).head? ≠ some 48
      · have hw : wholeB w = true := by
          unfold wholeB
          rw [tf] at g1 g2 g3
          have a1 : 1 ≤ (figs (tl w)).length := List.length_pos_iff.mpr g1
          have g2 : (figs w.cps.toList).all digB = true := g2
          rw [decide_eq_true (show 1 ≤ (figs w.cps.toList).length from a1), decide_eq_true (show (figs w.cps.toList).length ≤ 10 from g3), g2]
          rcases hcn with z | z
          · rw [decide_eq_true (show w.cps.toList = [48] from z)]; rfl
          · rw [decide_eq_false (show ¬ (figs w.cps.toList).head? = some 48 from z)]; simp
        rw [okW_iff hw, decide_eq_true (v3.mpr hcn), Bool.true_and]
      · have hw : ¬ wholeB w = true := fun z => hcn (whole_word z).2.2.2
        have hw : wholeB w = false := by rw [← Bool.not_eq_true]; exact hw
        have : okW w = false := by unfold okW; rw [hw]; rfl
        rw [this, decide_eq_false (fun z => hcn (v3.mp z))]; rfl
    rw [hok]
    have hF2 : ∀ (P : Prop) [Decidable P], True := fun _ _ => trivial
    by_cases t1 : txt (valS w) = w
    · rw [decide_eq_true t1] at gt ⊢
      by_cases t2 : 1000000000 < (valS w).natAbs
      · have t2' : (1000000000 : Int) < ((valS w).natAbs : Int) := by omega
        rw [decide_eq_true t2]
        refine ⟨fun z => absurd z (by simp), fun _ => ⟨some (.fz (.str F)), some (.b true), ?_⟩⟩
        simp [ge, lz, wipR, e2, ga, ln, l11, ix, ei, es, gt, t2']
      · have t2' : ¬ (1000000000 : Int) < ((valS w).natAbs : Int) := by omega
        rw [decide_eq_false t2]
        by_cases k14 : k = 14
        · subst k14
          refine ⟨fun z => absurd z (by simp), fun _ => ⟨some (.fz (.str F)), some (.b true), ?_⟩⟩
          have ix : gIx [c, .fz (.int 14)] = some (.fz (.str w)) := ix
          have e2 : lcF 5 cg__law_fault_1 fYes ce__law_fault_1 [4] n (signsD F) [some c, some (.i 14), some (.fz (.str F)), g, none] [] = some (.ok (.lst ((tl F).map fun c => .bool (digB c))) [some c, some (.i 14), some (.fz (.str F)), g, none]) := e2
          simp [ge, lz, wipR, e2, ga, ln, l11, ix, ei, es, gt, t2']
        · have k14' : ¬ (k : Int) = 14 := by omega
          refine ⟨fun _ => ⟨some (.fz (.str F)), some (.b true), ?_⟩, fun z => absurd (show (true && !false && !decide (k = 14)) = true by rw [decide_eq_false k14]; rfl) z⟩
          simp [ge, lz, wipR, e2, ga, ln, l11, ix, ei, es, gt, t2', k14']
    · rw [decide_eq_false t1] at gt ⊢
      refine ⟨fun z => absurd z (by simp), fun _ => ⟨some (.fz (.str F)), some (.b true), ?_⟩⟩
      simp [ge, lz, wipR, e2, ga, ln, l11, ix, ei, es, gt]
  · have hok : okW w = false := by
      by_cases z : wholeB w = true
      · obtain ⟨a, b, d, _⟩ := whole_word z
        rw [← tf] at a b d
        exact absurd ⟨a, b, d⟩ gbad
      · have z : wholeB w = false := by rw [← Bool.not_eq_true]; exact z
        unfold okW; rw [z]; rfl
    rw [hok]
    refine ⟨fun z => absurd z (by simp), fun _ => ⟨some (.fz (.str F)), some (.b false), ?_⟩⟩
    by_cases g1 : tl F = []
    · rw [decide_eq_true g1] at ge
      simp [ge]
    · rw [decide_eq_false g1] at ge
      by_cases g2 : (tl F).all digB = true
      · rw [g2] at ga
        have l11 : ¬ (F.length : Int) < 11 := fun z => gbad ⟨g1, g2, by omega⟩
        simp [ge, lz, wipR, e2, ga, ln, l11]
      · have g2 : (tl F).all digB = false := by rw [← Bool.not_eq_true]; exact g2
        rw [g2] at ga
        simp [ge, lz, wipR, e2, ga]
theorem fault_loop {c : Cl} {ws : List Str} (hc : c.data = some (.list (ss ws))) (hg : ∀ w ∈ ws, 1 ≤ w.length ∧ w.length ≤ 200000 ∧ PyData.strOk w = true) (n : Nat) : ∀ (m k : Nat) (p f g : Option Cl), k + m = ws.length →
    (scanW k (ws.drop k) = none → ∃ p' f' g', forF gl__law_fault_1 bl__law_fault_1 n (rngD k m) [some c, p, f, g, none] = some (.nx [some c, p', f', g', none])) ∧
    (∀ j, scanW k (ws.drop k) = some j → ∃ p' f' g', forF gl__law_fault_1 bl__law_fault_1 n (rngD k m) [some c, p, f, g, none] = some (.rt (.i ((j : Int) + 1)) [some c, p', f', g', none]))
  | 0, k, p, f, g, h => by
    rw [List.drop_of_length_le (by omega)]
    exact ⟨fun _ => ⟨p, f, g, rfl⟩, fun j (z : none = some j) => nomatch z⟩
  | m + 1, k, p, f, g, h => by
    have hk : k < ws.length := by omega
    have ed : ws.drop k = ws[k] :: ws.drop (k + 1) := List.drop_eq_getElem_cons hk
    obtain ⟨w1, w2, w3⟩ := hg ws[k] (List.getElem_mem hk)
    obtain ⟨t1, t2⟩ := fault_turn hc n k ws[k] (List.getElem?_eq_getElem hk) w1 w2 w3 f g
    have st : gl__law_fault_1 (.int (k : Nat)) [some c, p, f, g, none] = some [some c, some (.i k), f, g, none] := by simp [gl__law_fault_1]
    rw [rngD_succ, ed]
    by_cases hok : (okW ws[k] && !decide (k = 14)) = true
    · obtain ⟨f1, g1, e1⟩ := t1 hok
      have sc : scanW k (ws[k] :: ws.drop (k + 1)) = scanW (k + 1) (ws.drop (k + 1)) := if_pos hok
      rw [sc, for_step st e1, show ((k : Int) + 1) = ((k + 1 : Nat) : Int) from by omega]
      exact fault_loop hc hg n m (k + 1) _ f1 g1 (by omega)
    · obtain ⟨f1, g1, e1⟩ := t2 hok
      have sc : scanW k (ws[k] :: ws.drop (k + 1)) = some k := if_neg hok
      rw [sc]
      refine ⟨fun z => (nomatch z), fun j z => ?_⟩
      rw [← Option.some.inj z]
      exact ⟨_, f1, g1, for_rt st e1⟩
theorem h__law_fault : ∀ cs o, m__law_fault cs = some o → ∃ n out, g__law_fault n (startR 5 cs) = some out ∧ fin [true] out = some o := fun cs o h => by
  unfold m__law_fault at h
  split at h
  case h_2 => cases h
  rename_i c
  split at h
  case h_2 => cases h
  rename_i ws ec
  split at h
  case isFalse => cases h
  rename_i hg
  rw [Bool.and_eq_true] at hg
  have hgw := goodWs_of hg.1
  have hln := Nat.le_of_ble_eq_true hg.2
  cases h
  have hc := strsC_data ec
  have hk : ∀ w ∈ ws, PyData.strOk w = true := fun w hw => (hgw w hw).2.2
  have g0 := eq_nil_ss hc hk
  have hlen := len_data hc
  rw [ss_len] at hlen
  cases ws with
  | nil =>
    refine ⟨0, .rt (.i 1) [some c, none, none, none, none], ?_, rfl⟩
    simp [g__law_fault, st__law_fault_1, startR, g0]
  | cons w us =>
    obtain ⟨w1, w2, w3⟩ := hgw w List.mem_cons_self
    have i0 := ix_data hc 0
    rw [show atI (ss (w :: us)) 0 = some (.str w) from atI_nat (j := 0) rfl] at i0
    have i0 : gIx [c, .fz (.int 0)] = some (.fz (.str w)) := i0
    have gp := e_gNeS w3 skP
    rw [decide_eq_false (by simp)] at g0
    by_cases hp : w = Str.ofString "poly"
    · have hfl : faultL (w :: us) = (match scanW 1 us with
        | some k => k + 1
        | none => if us.getLast? = some (Str.ofString "0") then us.length + 1 else 0) := if_pos hp
      rw [decide_eq_true hp] at gp
      have sm : smI ((us.length : Int) + 1) = true := smI_nat (n := us.length + 1) (by have := hln; simp only [List.length_cons] at this; omega)
      have s1 : smI 1 = true := rfl
      have tn : ((us.length : Int) + 1 - 1).toNat = us.length := by omega
      obtain ⟨l1, l2⟩ := fault_loop hc hgw 0 us.length 1 none none none (by rw [List.length_cons]; omega)
      rw [List.drop_one, List.tail_cons] at l1 l2
      have hlen2 : gLenA [c] = some (.fz (.int ((us.length : Int) + 1))) := hlen
      rw [hfl]
      cases q : scanW 1 us with
      | some j =>
        obtain ⟨p', f', g', e⟩ := l2 j q
        have e : forF gl__law_fault_1 bl__law_fault_1 0 (rngD 1 us.length) [some c, none, none, none, none] = _ := e
        refine ⟨0, .rt (.i ((j : Int) + 1)) [some c, p', f', g', none], ?_, rfl⟩
        simp [g__law_fault, st__law_fault_1, st__law_fault_2, startR, g0, i0, gp, hlen2, s1, sm, tn, e]
      | none =>
        obtain ⟨p', f', g', e⟩ := l1 q
        have e : forF gl__law_fault_1 bl__law_fault_1 0 (rngD 1 us.length) [some c, none, none, none, none] = _ := e
        dsimp only
        by_cases hu : us = []
        · subst hu
          have nl : ¬ (1 < ((([] : List Str).length : Int) + 1)) := by decide
          have e : forF gl__law_fault_1 bl__law_fault_1 0 (rngD 1 0) [some c, none, none, none, none] = _ := e
          have hlen2 : gLenA [c] = some (.fz (.int 1)) := hlen2
          refine ⟨0, .rt (.i 0) [some c, p', f', g', none], ?_, rfl⟩
          simp [g__law_fault, st__law_fault_1, st__law_fault_2, st__law_fault_3, startR, g0, i0, gp, hlen2, s1, e]
        · have hul := List.length_pos_iff.mpr hu
          have g1 : (1 : Int) < (us.length : Int) + 1 := by omega
          have lw : (w :: us).getLast? = us.getLast? := by
            cases us with
            | nil => exact absurd rfl hu
            | cons a b => rw [List.getLast?_cons_cons]
          obtain ⟨z, hz⟩ : ∃ z, us.getLast? = some z := ⟨_, List.getLast?_eq_getLast hu⟩
          have zm : z ∈ w :: us := List.mem_of_getLast? (by rw [lw, hz])
          have il := ix_data hc (-1)
          have al : atI (ss (w :: us)) (-1) = some (.str z) := by
            have hne : ss (w :: us) ≠ [] := by simp [ss]
            have e0 : (ss (w :: us)).getLast? = some (.str z) := by
              unfold ss
              rw [List.getLast?_map, lw, hz]; rfl
            have : ∀ ds : List D, ds ≠ [] → atI ds (-1) = ds.getLast? := fun ds hd => by
              obtain ⟨t, l, rfl⟩ : ∃ t l, ds = t ++ [l] := ⟨ds.dropLast, ds.getLast hd, (List.dropLast_concat_getLast hd).symm⟩
              rw [List.getLast?_concat]
              exact atI_last t l
            rw [this _ hne, e0]
          rw [al] at il
          have il : gIx [c, .fz (.int (-1))] = some (.fz (.str z)) := il
          have gz := e_gEqS (hk z zm) sk0
          by_cases hz0 : z = Str.ofString "0"
          · rw [decide_eq_true hz0] at gz
            rw [hz, if_pos (by rw [hz0])]
            refine ⟨0, .rt (.i ((us.length : Int) + 1)) [some c, p', f', g', none], ?_, rfl⟩
            simp [g__law_fault, st__law_fault_1, st__law_fault_2, st__law_fault_3, startR, g0, i0, gp, hlen2, s1, sm, tn, e, g1, il, gz]
          · rw [decide_eq_false hz0] at gz
            rw [hz, if_neg fun y => hz0 (Option.some.inj y)]
            refine ⟨0, .rt (.i 0) [some c, p', f', g', none], ?_, rfl⟩
            simp [g__law_fault, st__law_fault_1, st__law_fault_2, st__law_fault_3, startR, g0, i0, gp, hlen2, s1, sm, tn, e, g1, il, gz]
    · have hfl : faultL (w :: us) = 1 := if_neg hp
      rw [hfl]
      rw [decide_eq_false hp] at gp
      refine ⟨0, .rt (.i 1) [some c, none, none, none, none], ?_, rfl⟩
      simp [g__law_fault, st__law_fault_1, startR, g0, i0, gp]
end L3

namespace L3
open PySem PySem.Spec L2
open TL PySem.NumText
/-! ### the law's answer for a text -/
theorem due_words (c0 c1 c2 c3 c4 c6 : Option Cl) (n : Nat) : ∀ (ws : List Str) (acc : List D), (∀ w ∈ ws, PyData.strOk w = true) → lcF 7 cg__law_due_1 ct__law_due_1 ce__law_due_1 [5] n (ss ws) [c0, c1, c2, c3, c4, none, c6] acc = some (.ok (.lst (acc ++ ss (ws.filter fun w => !decide (w = Str.ofString "")))) [c0, c1, c2, c3, c4, none, c6])
  | [], acc, _ => by
    show some (Rz.ok (Cl.lst acc) _) = some (Rz.ok (Cl.lst (acc ++ [])) _)
    rw [List.append_nil]
  | w :: ws, acc, h => by
    have g := e_gNeS (h w List.mem_cons_self) skE
    rw [ss_cons]
    by_cases hw : w = Str.ofString ""
    · rw [decide_eq_true hw] at g
      rw [lc_stepF (ρ2 := [c0, c1, c2, c3, c4, some (.fz (.str w)), c6]) (ρ3 := [c0, c1, c2, c3, c4, some (.fz (.str w)), c6]) (ρ5 := [c0, c1, c2, c3, c4, none, c6]) (by simp [cg__law_due_1]) (by rfl) (by simp [ct__law_due_1, g]) (by rfl), due_words c0 c1 c2 c3 c4 c6 n ws _ fun v hv => h v (List.mem_cons_of_mem _ hv), List.filter_cons_of_neg (by simp [hw])]
    · rw [decide_eq_false hw] at g
      rw [lc_stepT (ρ2 := [c0, c1, c2, c3, c4, some (.fz (.str w)), c6]) (ρ3 := [c0, c1, c2, c3, c4, some (.fz (.str w)), c6]) (y := .str w) (ρ4 := [c0, c1, c2, c3, c4, some (.fz (.str w)), c6]) (ρ5 := [c0, c1, c2, c3, c4, none, c6]) (by simp [cg__law_due_1]) (by rfl) (by simp [ct__law_due_1, g]) (by simp [ce__law_due_1]) (by rfl), due_words c0 c1 c2 c3 c4 c6 n ws _ fun v hv => h v (List.mem_cons_of_mem _ hv), List.filter_cons_of_pos (by simp [hw]), List.append_assoc]
      rfl
theorem due_ints (c0 c1 c2 c3 c4 c6 : Option Cl) (n : Nat) : ∀ (ws : List Str) (acc : List D), (∀ w ∈ ws, okW w = true) → lcF 7 cg__law_due_2 fYes ce__law_due_2 [5] n (ss ws) [c0, c1, c2, c3, c4, none, c6] acc = some (.ok (.lst (acc ++ zs (ws.map valS))) [c0, c1, c2, c3, c4, none, c6])
  | [], acc, _ => by
    show some (Rz.ok (Cl.lst acc) _) = some (Rz.ok (Cl.lst (acc ++ [])) _)
    rw [List.append_nil]
  | w :: ws, acc, h => by
    have hw := h w List.mem_cons_self
    have hb : wholeB w = true := by
      unfold okW at hw
      rw [Bool.and_eq_true, Bool.and_eq_true] at hw
      exact hw.1.1
    have g := whole_int hb
    rw [ss_cons, lc_step (ρ2 := [c0, c1, c2, c3, c4, some (.fz (.str w)), c6]) (y := .int (valS w)) (ρ4 := [c0, c1, c2, c3, c4, some (.fz (.str w)), c6]) (ρ5 := [c0, c1, c2, c3, c4, none, c6]) (by simp [cg__law_due_2]) (by rfl) (by simp [ce__law_due_2, g]) (by rfl), due_ints c0 c1 c2 c3 c4 c6 n ws _ fun v hv => h v (List.mem_cons_of_mem _ hv), List.append_assoc]
    rfl
theorem m_fault_ok {ws : List Str} (h1 : goodWs ws = true) (h2 : ws.length ≤ 200001) : m__law_fault [.lst (ss ws)] = some (.ok (.i (faultL ws)) [some (.lst (ss ws))]) := by
  unfold m__law_fault
  dsimp only
  rw [show strsC (.lst (ss ws)) = some ws from strsD_ss ws]
  dsimp only
  rw [h1, show Nat.ble ws.length 200001 = true from Nat.ble_eq_true_of_le h2]; rfl
theorem fault0 {ws : List Str} (h : faultL ws = 0) : ∀ w ∈ ws.drop 1, okW w = true := by
  cases ws with
  | nil => cases h
  | cons p us =>
    by_cases hp : p = Str.ofString "poly"
    · cases q : scanW 1 us with
      | none => exact scan_ok us 1 q
      | some k =>
        have : faultL (p :: us) = k + 1 := by
          rw [show faultL (p :: us) = (match scanW 1 us with
            | some k => k + 1
            | none => if us.getLast? = some (Str.ofString "0") then us.length + 1 else 0) from if_pos hp, q]
        omega
    · rw [show faultL (p :: us) = 1 from if_neg hp] at h
      cases h
theorem app_ok {ds : List D} (h : ds.length ≤ 10000000) (d : D) : gApp (.lst ds) [d] = some (.none, .lst (ds ++ [d])) := if_pos (Nat.ble_eq_true_of_le h)
theorem sl_ss1 (ws : List Str) : gSl (some 1) none (.lst (ss ws)) = some (.lst (ss (ws.drop 1))) := by
  show some (Cl.lst (cutD (ss ws) (some 1) none)) = _
  rw [show cutD (ss ws) (some 1) none = (ss ws).drop 1 from cutD_drop (ss ws) 1]; unfold ss; rw [List.map_drop]
theorem due_turn (t : Cl) (ds : List D) (lns : List Str) (k : Nat) (l : Str) (hk : lns[k]? = some l) (hl : OkLn l) (hds : ds.length ≤ 100) (p q : Option Cl) :
    (faultL (wordsOf l) = 0 → bl__law_due_1 0 [some t, some (.lst ds), some (.lst (ss lns)), some (.i k), p, none, q] = some (.nx [some t, some (.lst (ds ++ [.tuple (zs ((wordsOf l).tail.map valS))])), some (.lst (ss lns)), some (.i k), some (.lst (ss (wordsOf l))), none, some (.i 0)])) ∧
    (¬ faultL (wordsOf l) = 0 → ∃ ρ, bl__law_due_1 0 [some t, some (.lst ds), some (.lst (ss lns)), some (.i k), p, none, q] = some (.rt (.lst [.str "line", .int (k + 1), .int (faultL (wordsOf l))]) (some t :: ρ))) := by
  have ix := ix_data (c := .lst (ss lns)) (ds := ss lns) rfl (k : Int)
  rw [show atI (ss lns) (k : Int) = some (.str l) from atI_nat (by unfold ss; rw [List.getElem?_map, hk]; rfl)] at ix
  have ix : gIx [.lst (ss lns), .fz (.int k)] = some (.fz (.str l)) := ix
  have g := gSplitS (t := l) (by have := hl.len; omega)
  have e := due_words (some t) (some (.lst ds)) (some (.lst (ss lns))) (some (.i k)) p q 0 (Txt.split l (Str.ofString " ")) [] fun w hw => (hl.wd w hw).2
  rw [List.nil_append, show (Txt.split l (Str.ofString " ")).filter (fun w => !decide (w = Str.ofString "")) = wordsOf l from rfl] at e
  have lz : (ss (Txt.split l (Str.ofString " "))).length ≤ 1000000 := by rw [ss_len]; have := hl.cnt; omega
  obtain ⟨w1, w2⟩ := hl.words
  have f := m_fault_ok w1 w2
  have e2 := due_ints (some t) (some (.lst ds)) (some (.lst (ss lns))) (some (.i k)) (some (.lst (ss (wordsOf l)))) (some (.i 0)) 0 ((wordsOf l).drop 1) []
  have sl := sl_ss1 (wordsOf l)
  have lz2 : (ss ((wordsOf l).drop 1)).length ≤ 1000000 := by rw [ss_len, List.length_drop]; omega
  have h0 := fault0 (ws := wordsOf l)
  have ga := app_ok (ds := ds) (by omega) (.tuple (zs ((wordsOf l).tail.map valS)))
  rw [List.drop_one] at *
  generalize hW : wordsOf l = W at *
  generalize hF : faultL W = N at *
  generalize hS : ss lns = S at *
  refine ⟨fun z => ?_, fun z => ?_⟩
  · subst z
    have e2 := e2 (h0 rfl)
    rw [List.nil_append] at e2
    have f : m__law_fault [.lst (ss W)] = some (.ok (.i 0) [some (.lst (ss W))]) := f
    simp [bl__law_due_1, sb__law_due_1, sb__law_due_2, sb__law_due_3, sb__law_due_4, ix, g, asSeq, lz, wipR, e, f, sl, lz2, e2, ga, -List.map_tail]
  · have n0 : (0 : Int) < (N : Int) := by omega
    refine ⟨[some (.lst ds), some (.lst S), some (.i k), some (.lst (ss W)), none, some (.i N)], ?_⟩
    simp [bl__law_due_1, sb__law_due_1, sb__law_due_2, sb__law_due_3, ix, g, asSeq, lz, wipR, e, f, n0, show 0 < N from by omega]
theorem h__law_due : ∀ cs o, m__law_due cs = some o → ∃ n out, g__law_due n (startR 7 cs) = some out ∧ fin [true] out = some o := fun cs o h => by
  unfold m__law_due at h
  split at h
  case h_2 => cases h
  rename_i t
  split at h
  case isFalse => cases h
  rename_i ht
  have ht := okT_of ht
  cases h
  have g := gSplitN (t := t) (by have := ht.len; omega)
  have s1 : ∀ R : FS, sSeq st__law_due_1 R 0 (startR 7 [.fz (.str t)]) = R 0 [some (.fz (.str t)), some (.lst []), some (.lst (ss (Txt.split t (Str.ofString "\n")))), none, none, none, none] := fun R => by
    simp [st__law_due_1, startR, g]
  have hne := splitN_ne t
  have hln := ht.ln
  have hcnt := ht.cnt
  have gs : ∀ (k : Nat) (a b c d e f : Option Cl), gl__law_due_1 (.int (k : Nat)) [a, b, c, d, e, none, f] = some [a, b, c, some (.i k), e, none, f] := fun k a b c d e f => by simp [gl__law_due_1]
  refine ⟨0, ?_⟩
  unfold g__law_due
  rw [s1]
  unfold toldC readR linesOf
  generalize Txt.split t (Str.ofString "\n") = L at *
  cases L with
  | nil => exact absurd rfl hne
  | cons a r =>
    obtain ⟨a1, a2⟩ := due_turn (.fz (.str t)) [] (a :: r) 0 a rfl (hln a List.mem_cons_self) (by decide) none none
    have st0 := gs 0 (some (.fz (.str t))) (some (.lst [])) (some (.lst (ss (a :: r)))) none none none
    rw [List.map_cons]
    have mn : smI (min 2 ((ss (a :: r)).length : Int)) = true := Nat.ble_eq_true_of_le (by omega)
    by_cases fa : faultL (wordsOf a) = 0
    · have a1 := a1 fa
      cases r with
      | nil =>
        refine ⟨.rt (.lst [.str "line", .int 2, .int 1]) [some (.fz (.str t)), some (.lst [.tuple (zs ((wordsOf a).tail.map valS))]), some (.lst (ss [a])), some (.i 0), some (.lst (ss (wordsOf a))), none, some (.i 0)], ?_, by dsimp only [List.map_nil]; rw [if_pos fa]; rfl⟩
        have e1 : forF gl__law_due_1 bl__law_due_1 0 (rngD 0 (min 2 ((ss [a]).length : Int)).toNat) [some (.fz (.str t)), some (.lst []), some (.lst (ss [a])), none, none, none, none] = some (.nx [some (.fz (.str t)), some (.lst [.tuple (zs ((wordsOf a).tail.map valS))]), some (.lst (ss [a])), some (.i 0), some (.lst (ss (wordsOf a))), none, some (.i 0)]) := for_step st0 a1
        have n1 : ¬ (((ss [a]).length : Int) = 2) := by rw [ss_len]; simp
        have n2 : min (2 : Int) (((ss [a]).length : Int) - 1) = 0 := by rw [ss_len]; rfl
        generalize ss [a] = S at *
        simp [st__law_due_2, st__law_due_3, e1, mn, n1, n2, show atI [PyData.int 2, .int 2, .int 3] 0 = some (.int 2) from rfl, -List.map_tail]
      | cons b r =>
        obtain ⟨b1, b2⟩ := due_turn (.fz (.str t)) [.tuple (zs ((wordsOf a).tail.map valS))] (a :: b :: r) 1 b rfl (hln b (List.mem_cons_of_mem _ List.mem_cons_self)) (by simp) (some (.lst (ss (wordsOf a)))) (some (.i 0))
        have st1 := gs 1 (some (.fz (.str t))) (some (.lst [.tuple (zs ((wordsOf a).tail.map valS))])) (some (.lst (ss (a :: b :: r)))) (some (.i 0)) (some (.lst (ss (wordsOf a)))) (some (.i 0))
        have tn : (min 2 ((ss (a :: b :: r)).length : Int)).toNat = 2 := by rw [ss_len, List.length_cons, List.length_cons]; omega
        have e1 : forF gl__law_due_1 bl__law_due_1 0 (rngD 0 2) [some (.fz (.str t)), some (.lst []), some (.lst (ss (a :: b :: r))), none, none, none, none] = forF gl__law_due_1 bl__law_due_1 0 [.int ((1 : Nat) : Int)] [some (.fz (.str t)), some (.lst [.tuple (zs ((wordsOf a).tail.map valS))]), some (.lst (ss (a :: b :: r))), some (.i 0), some (.lst (ss (wordsOf a))), none, some (.i 0)] := for_step st0 a1
        by_cases fb : faultL (wordsOf b) = 0
        · have b1 := b1 fb
          have e2 : forF gl__law_due_1 bl__law_due_1 0 (rngD 0 (min 2 ((ss (a :: b :: r)).length : Int)).toNat) [some (.fz (.str t)), some (.lst []), some (.lst (ss (a :: b :: r))), none, none, none, none] = some (.nx [some (.fz (.str t)), some (.lst [.tuple (zs ((wordsOf a).tail.map valS)), .tuple (zs ((wordsOf b).tail.map valS))]), some (.lst (ss (a :: b :: r))), some (.i 1), some (.lst (ss (wordsOf b))), none, some (.i 0)]) := by
            rw [tn, e1]
            exact for_step st1 b1
          cases r with
          | nil =>
            refine ⟨.rt (.fz (.tuple [.tuple (zs ((wordsOf a).tail.map valS)), .tuple (zs ((wordsOf b).tail.map valS))])) [some (.fz (.str t)), some (.lst [.tuple (zs ((wordsOf a).tail.map valS)), .tuple (zs ((wordsOf b).tail.map valS))]), some (.lst (ss [a, b])), some (.i 1), some (.lst (ss (wordsOf b))), none, some (.i 0)], ?_, by simp only [List.map_nil, List.map_cons, fa, fb, ↓reduceIte]; rfl⟩
            have n1 : (((ss [a, b]).length : Int) = 2) := by rw [ss_len]; rfl
            generalize (wordsOf a).tail.map valS = A at *
            generalize (wordsOf b).tail.map valS = B at *
            generalize ss [a, b] = S at *
            have mn : smI (min 2 (S.length : Int)) = true := mn
            have e2 : forF gl__law_due_1 bl__law_due_1 0 (rngD 0 (min 2 (S.length : Int)).toNat) [some (.fz (.str t)), some (.lst []), some (.lst S), none, none, none, none] = some (.nx [some (.fz (.str t)), some (.lst [.tuple (zs A), .tuple (zs B)]), some (.lst S), some (.i 1), some (.lst (ss (wordsOf b))), none, some (.i 0)]) := e2
            have s2 : ∀ R : FS, sSeq st__law_due_2 R 0 [some (.fz (.str t)), some (.lst []), some (.lst S), none, none, none, none] = R 0 [some (.fz (.str t)), some (.lst [.tuple (zs A), .tuple (zs B)]), some (.lst S), some (.i 1), some (.lst (ss (wordsOf b))), none, some (.i 0)] := fun R => by
              simp [st__law_due_2, mn, e2]
            rw [s2]
            simp [st__law_due_3, n1]
          | cons d r =>
            refine ⟨.rt (.lst [.str "line", .int 3, .int 1]) [some (.fz (.str t)), some (.lst [.tuple (zs ((wordsOf a).tail.map valS)), .tuple (zs ((wordsOf b).tail.map valS))]), some (.lst (ss (a :: b :: d :: r))), some (.i 1), some (.lst (ss (wordsOf b))), none, some (.i 0)], ?_, by simp only [List.map_nil, List.map_cons, fa, fb, ↓reduceIte]; rfl⟩
            have n1 : ¬ (((ss (a :: b :: d :: r)).length : Int) = 2) := by rw [ss_len, List.length_cons, List.length_cons, List.length_cons]; omega
            have n2 : min (2 : Int) (((ss (a :: b :: d :: r)).length : Int) - 1) = 2 := by rw [ss_len, List.length_cons, List.length_cons, List.length_cons]; omega
            generalize (wordsOf a).tail.map valS = A at *
            generalize (wordsOf b).tail.map valS = B at *
            generalize ss (a :: b :: d :: r) = S at *
            simp [st__law_due_2, st__law_due_3, e2, mn, n1, n2, show atI [PyData.int 2, .int 2, .int 3] 2 = some (.int 3) from rfl, -List.map_tail]
        · obtain ⟨ρ, b2⟩ := b2 fb
          have e2 : forF gl__law_due_1 bl__law_due_1 0 (rngD 0 (min 2 ((ss (a :: b :: r)).length : Int)).toNat) [some (.fz (.str t)), some (.lst []), some (.lst (ss (a :: b :: r))), none, none, none, none] = some (.rt (.lst [.str "line", .int 2, .int (faultL (wordsOf b))]) (some (.fz (.str t)) :: ρ)) := by
            rw [tn, e1]
            exact for_rt st1 b2
          refine ⟨.rt (.lst [.str "line", .int 2, .int (faultL (wordsOf b))]) (some (.fz (.str t)) :: ρ), ?_, by simp only [List.map_nil, List.map_cons, fa, fb, ↓reduceIte]; rfl⟩
          generalize ss (a :: b :: r) = S at *
          simp [st__law_due_2, e2, mn]
    · obtain ⟨ρ, a2⟩ := a2 fa
      have e2 : forF gl__law_due_1 bl__law_due_1 0 (rngD 0 (min 2 ((ss (a :: r)).length : Int)).toNat) [some (.fz (.str t)), some (.lst []), some (.lst (ss (a :: r))), none, none, none, none] = some (.rt (.lst [.str "line", .int 1, .int (faultL (wordsOf a))]) (some (.fz (.str t)) :: ρ)) := by
        obtain ⟨m, hm⟩ : ∃ m, (min 2 ((ss (a :: r)).length : Int)).toNat = m + 1 := ⟨(min 2 ((ss (a :: r)).length : Int)).toNat - 1, by rw [ss_len, List.length_cons]; omega⟩
        rw [hm, show rngD (0 : Int) (m + 1) = .int ((0 : Nat) : Int) :: rngD 1 m from rngD_succ 0 m]
        exact for_rt st0 a2
      refine ⟨.rt (.lst [.str "line", .int 1, .int (faultL (wordsOf a))]) (some (.fz (.str t)) :: ρ), ?_, by dsimp only; rw [if_neg fa]; rfl⟩
      generalize ss (a :: r) = S at *
      simp [st__law_due_2, e2, mn]
end L3

namespace L3
open PySem PySem.Spec L2
open TL PySem.NumText
/-! ### a line spoilt -/
theorem sl_take (ws : List Str) (k : Nat) : gSl none (some (k : Int)) (.lst (ss ws)) = some (.lst (ss (ws.take k))) := by
  show some (Cl.lst (cutD (ss ws) none (some (k : Int)))) = _
  rw [cutD_take]; unfold ss; rw [List.map_take]
theorem sl_drop (ws : List Str) (k : Nat) : gSl (some (k : Int)) none (.lst (ss ws)) = some (.lst (ss (ws.drop k))) := by
  show some (Cl.lst (cutD (ss ws) (some (k : Int)) none)) = _
  rw [cutD_drop]; unfold ss; rw [List.map_drop]
theorem add_ss {a b : List Str} (h : a.length + b.length ≤ 1000000) : gAdd [.lst (ss a), .lst (ss b)] = some (.lst (ss (a ++ b))) := by
  show (if lsz ((ss a).length + (ss b).length) = true then some (Cl.lst (ss a ++ ss b)) else none) = _
  rw [ss_len, ss_len, if_pos (show lsz (a.length + b.length) = true from decide_eq_true (by omega))]
  unfold ss
  rw [List.map_append]
theorem join_ok' {ws : List Str} (y : Str) (hy : y.length = 1) (h : lsum ws + ws.length ≤ 10000000) : gJoin y [.list (ss ws)] = some (.fz (.str (Txt.join y ws))) := by
  show (match strsD (ss ws) with
    | some ys => if Nat.ble ((ys.map (fun z : Str => z.length)).sum + ys.length * y.length) 10000000 = true then some (Cl.fz (.str (Txt.join y ys))) else none
    | none => none) = _
  rw [strsD_ss]
  dsimp only
  rw [if_pos]
  refine Nat.ble_eq_true_of_le ?_
  rw [hy, Nat.mul_one]
  exact h
theorem rep_ss (w : Str) (k : Int) (h : k = 2 ∨ k = 14) : gMul [.lst [.str w], .fz (.int k)] = some (.lst (ss (List.replicate k.toNat w))) := by
  rcases h with rfl | rfl <;> rfl
theorem lsum_take (ws : List Str) (k : Nat) : lsum (ws.take k) + lsum (ws.drop k) = lsum ws := by rw [← lsum_app, List.take_append_drop]
/-- the words that stand in the end -/
def spoilW (x : Rw) (line : Str) : List Str × Rw :=
  let ws := Txt.split line sp
  let p := x.pick ws.length
  let at_ := p.1.toNat
  let q := p.2.pick 6
  if q.1 = 0 then (ws.take at_ ++ ws.drop (at_ + 1), q.2)
  else if q.1 = 1 then
    let r := q.2.pick 2
    (ws.take at_ ++ List.replicate (if r.1 = 0 then 2 else 14) ((ws[at_]?).getD sp) ++ ws.drop at_, r.2)
  else if q.1 = 2 then (ws.take at_, q.2)
  else
    let r := q.2.pick 20
    (ws.take at_ ++ [(oddS[r.1.toNat]?).getD sp] ++ ws.drop (at_ + (if q.1 < 5 then 1 else 0)), r.2)
theorem spoil_eq (x : Rw) (line : Str) : spoilF x line = (Txt.join sp (spoilW x line).1, (spoilW x line).2) := by
  unfold spoilF spoilW
  dsimp only
  split
  · rfl
  · split
    · rfl
    · split
      · rfl
      · rfl
theorem odd_len : ∀ w ∈ oddS, w.length ≤ 5000 := by
  have : (oddS.all fun w => Nat.ble w.length 5000) = true := by decide +kernel
  exact fun w hw => Nat.le_of_ble_eq_true (List.all_eq_true.mp this w hw)
def odd19 : List Str := ["", "0", "1", "-0", "00", "01", "-", "--1", "1000000000", "1000000001", "-1000000001", "poly", "polys", "x", "1.0", "+1", "\t", "1\t", "1_0"]
theorem odd_eq : oddS = odd19 ++ [mkS (List.replicate 5000 49)] := rfl
theorem odd_ok : ∀ w ∈ oddS, PyData.strOk w = true := by
  have h : (odd19.all fun w => PyData.strOk w) = true := by decide +kernel
  intro w hw
  rw [odd_eq] at hw
  rcases List.mem_append.mp hw with z | z
  · exact List.all_eq_true.mp h w z
  · rw [List.mem_singleton.mp z]
    refine sok fun c hc => ?_
    rw [tl_mkS] at hc
    rw [(List.mem_replicate.mp hc).2]
    decide
theorem odd_get (k : Int) : ((oddS[k.toNat]?).getD sp).length ≤ 5000 ∧ PyData.strOk ((oddS[k.toNat]?).getD sp) = true := by
  cases q : oddS[k.toNat]? with
  | none => exact ⟨by decide, by decide +kernel⟩
  | some w => exact ⟨odd_len w (List.mem_of_getElem? q), odd_ok w (List.mem_of_getElem? q)⟩
theorem sp_ok : PyData.strOk sp = true := by decide +kernel
/-- lengths of what is spoilt -/
theorem spoil_len (x : Rw) (line : Str) : lsum (spoilW x line).1 + (spoilW x line).1.length ≤ 16 * line.length + 5016 := by
  have hs := split_sum line sp rfl
  have hw : lsum (Txt.split line sp) + (Txt.split line sp).length ≤ line.length + 1 := by
    rcases hs with h | h
    · omega
    · rw [h]; exact Nat.zero_le _
  have tk : ∀ k, lsum ((Txt.split line sp).take k) ≤ lsum (Txt.split line sp) := fun k => by have := lsum_take (Txt.split line sp) k; omega
  have dr : ∀ k, lsum ((Txt.split line sp).drop k) ≤ lsum (Txt.split line sp) := fun k => by have := lsum_take (Txt.split line sp) k; omega
  have t2 := fun k => lsum_take (Txt.split line sp) k
  have l1 : ∀ k, ((Txt.split line sp).take k).length ≤ (Txt.split line sp).length := fun k => List.length_take_le' ..
  have l2 : ∀ k, ((Txt.split line sp).drop k).length = (Txt.split line sp).length - k := fun k => List.length_drop ..
  have l3 : ∀ k, ((Txt.split line sp).take k).length + ((Txt.split line sp).drop k).length = (Txt.split line sp).length := fun k => by rw [← List.length_append, List.take_append_drop]
  unfold spoilW
  dsimp only
  generalize (x.pick (Txt.split line sp).length).1.toNat = a
  generalize (x.pick (Txt.split line sp).length).2.pick 6 = q
  split
  · dsimp only
    rw [lsum_app, List.length_append]
    have h1 := t2 a
    have h2 := t2 (a + 1)
    have h3 := l3 a
    have h4 := l2 (a + 1)
    have h5 := l2 a
    have h6 := dr (a + 1)
    have h7 := tk a
    omega
  · split
    · dsimp only
      rw [lsum_app, lsum_app, List.length_append, List.length_append, lsum_rep, List.length_replicate]
      have h1 := t2 a
      have h3 := l3 a
      have hg : (((Txt.split line sp)[a]?).getD sp).length ≤ lsum (Txt.split line sp) + 1 := by
        cases z : (Txt.split line sp)[a]? with
        | none => show sp.length ≤ _; have : sp.length = 1 := rfl; omega
        | some w => have := lsum_mem (List.mem_of_getElem? z); show w.length ≤ _; omega
      have hl : (((Txt.split line sp)[a]?).getD sp).length ≤ line.length + 1 := by
        cases z : (Txt.split line sp)[a]? with
        | none => show sp.length ≤ _; have : sp.length = 1 := rfl; omega
        | some w => have := (split_le (x := line) (y := sp) rfl).1 w (List.mem_of_getElem? z); show w.length ≤ _; omega
      generalize (((Txt.split line sp)[a]?).getD sp).length = g at *
      split <;> omega
    · split
      · dsimp only
        have h7 := tk a
        have h3 := l1 a
        omega
      · dsimp only
        rw [lsum_app, lsum_app, List.length_append, List.length_append, lsum_cons, lsum_nil]
        have ho := (odd_get (q.2.pick 20).1).1
        have h1 := tk a
        have h2 := dr (a + if q.1 < 5 then 1 else 0)
        have h3 := l1 a
        have h4 := l2 (a + if q.1 < 5 then 1 else 0)
        simp only [List.length_cons, List.length_nil] at *
        omega
theorem spoil_strs (x : Rw) {line : Str} (h : PyData.strOk line = true) : ∀ w ∈ (spoilW x line).1, PyData.strOk w = true := by
  have hs := split_okc (y := sp) h
  have tk : ∀ k, ∀ w ∈ (Txt.split line sp).take k, PyData.strOk w = true := fun k w hw => hs w (List.mem_of_mem_take hw)
  have dr : ∀ k, ∀ w ∈ (Txt.split line sp).drop k, PyData.strOk w = true := fun k w hw => hs w (List.mem_of_mem_drop hw)
  unfold spoilW
  dsimp only
  generalize (x.pick (Txt.split line sp).length).1.toNat = a
  generalize (x.pick (Txt.split line sp).length).2.pick 6 = q
  intro w
  split
  · intro hw
    rcases List.mem_append.mp hw with z | z
    · exact tk _ w z
    · exact dr _ w z
  · split
    · intro hw
      rcases List.mem_append.mp hw with z | z
      · rcases List.mem_append.mp z with z | z
        · exact tk _ w z
        · rw [(List.mem_replicate.mp z).2]
          cases y : (Txt.split line sp)[a]? with
          | none => exact sp_ok
          | some v => exact hs v (List.mem_of_getElem? y)
      · exact dr _ w z
    · split
      · intro hw
        exact tk _ w hw
      · intro hw
        rcases List.mem_append.mp hw with z | z
        · rcases List.mem_append.mp z with z | z
          · exact tk _ w z
          · rw [List.mem_singleton.mp z]
            exact (odd_get _).2
        · exact dr _ w z
theorem spoil_ok (x : Rw) {line : Str} (h : PyData.strOk line = true) : (spoilF x line).1.length ≤ 16 * line.length + 5016 ∧ PyData.strOk (spoilF x line).1 = true := by
  rw [spoil_eq]
  refine ⟨?_, jn_ok sp_ok (spoil_strs x h)⟩
  show (Txt.join sp (spoilW x line).1).length ≤ _
  rw [join_eq]
  exact Nat.le_trans (jn_le sp rfl _) (spoil_len x line)
theorem h__law_spoilt : ∀ cs o, m__law_spoilt cs = some o → ∃ n out, g__law_spoilt n (startR 6 cs) = some out ∧ fin [true, true] out = some o := fun cs o h => by
  unfold m__law_spoilt at h
  split at h
  case h_2 => cases h
  rename_i ds line
  cases q : Rw.of ds with
  | none => rw [q] at h; cases h
  | some x =>
    rw [q] at h
    cases rw_of q
    dsimp only at h
    split at h
    case isFalse => cases h
    rename_i hl
    have hl := Nat.le_of_ble_eq_true hl
    cases h
    have g := gSplitS (t := line) (by omega)
    obtain ⟨_, cnt⟩ := split_le (x := line) (y := sp) rfl
    have hne := splitS_ne line
    have hlen := spoil_len x line
    rw [spoil_eq]
    have hpos : 0 < (Txt.split line sp).length := List.length_pos_iff.mpr hne
    have s1 : ∀ R : FS, sSeq st__law_spoilt_1 R 0 (startR 6 [.lst x.ds, .fz (.str line)]) = R 0 [some (.lst x.ds), some (.fz (.str line)), some (.lst (ss (Txt.split line sp))), none, none, none] := fun R => by
      simp [st__law_spoilt_1, startR, g, sp]
    unfold spoilW at hlen ⊢
    dsimp only at hlen ⊢
    generalize Txt.split line sp = W at *
    have p1 := pick_ok (x := x) (k := W.length) (by omega) (by omega)
    have r1 := pick_rg x (k := W.length) (by omega)
    have p2 := pick_ok (x := (x.pick W.length).2) (k := 6) (by decide) (by decide)
    have r2 := pick_rg (x.pick W.length).2 (k := 6) (by decide)
    obtain ⟨a, ha⟩ : ∃ a : Nat, (x.pick W.length).1 = a := ⟨_, (Int.toNat_of_nonneg r1.1).symm⟩
    rw [ha] at p1 r1 hlen ⊢
    rw [Int.toNat_natCast] at hlen ⊢
    generalize (x.pick W.length).2 = x1 at *
    generalize hx2 : (x1.pick 6).2 = x2 at *
    generalize ht : (x1.pick 6).1 = t at *
    have hln : gLenA [.lst (ss W)] = some (.fz (.int (W.length : Int))) := by
      show some (Cl.fz (.int ((ss W).length : Int))) = _
      rw [ss_len]
    have aW : a < W.length := by omega
    have s2 : ∀ R : FS, sSeq st__law_spoilt_2 R 0 [some (.lst x.ds), some (.fz (.str line)), some (.lst (ss W)), none, none, none] = R 0 [some (.lst x2.ds), some (.fz (.str line)), some (.lst (ss W)), some (.i a), some (.i t), none] := fun R => by
      have sl : (ss W).length = W.length := ss_len W
      simp [st__law_spoilt_2, hln, p1, p2, sl]
    have o1 : ∀ R : FS, sSeq st__law_spoilt_3 R 0 [some (.lst x2.ds), some (.fz (.str line)), some (.lst (ss W)), some (.i a), some (.i t), none] = R 0 [some (.lst x2.ds), some (.fz (.str line)), some (.lst (ss W)), some (.i a), some (.i t), some (.lst (ss (odd19.take 12)))] := fun R => by
      simp [st__law_spoilt_3]
      rfl
    have o2 : ∀ R : FS, sSeq st__law_spoilt_4 R 0 [some (.lst x2.ds), some (.fz (.str line)), some (.lst (ss W)), some (.i a), some (.i t), some (.lst (ss (odd19.take 12)))] = R 0 [some (.lst x2.ds), some (.fz (.str line)), some (.lst (ss W)), some (.i a), some (.i t), some (.lst (ss oddS))] := fun R => by
      have gr : gRepS [.fz (.str (Str.ofString "1")), .fz (.int 5000)] = some (.fz (.str (mkS (List.replicate 5000 49)))) := rfl
      have gd : gAdd [.lst (ss (odd19.take 12)), .lst (ss (odd19.drop 12 ++ [mkS (List.replicate 5000 49)]))] = some (.lst (ss oddS)) := add_ss (by decide)
      have gd : gAdd [.lst (ss (odd19.take 12)), .lst [.str (Str.ofString "polys"), .str (Str.ofString "x"), .str (Str.ofString "1.0"), .str (Str.ofString "+1"), .str (Str.ofString "\t"), .str (Str.ofString "1\t"), .str (Str.ofString "1_0"), .str (mkS (List.replicate 5000 49))]] = some (.lst (ss oddS)) := gd
      generalize mkS (List.replicate 5000 49) = big at *
      generalize ss (odd19.take 12) = lo at *
      generalize ss oddS = od at *
      simp [st__law_spoilt_4, gr, gd]
    have sk := sl_take W a
    have sd := sl_drop W a
    have sd1 : gSl (some ((a : Int) + 1)) none (.lst (ss W)) = some (.lst (ss (W.drop (a + 1)))) := sl_drop W (a + 1)
    have k1 : (W.take a).length ≤ W.length := List.length_take_le' ..
    have k2 : (W.drop a).length ≤ W.length := by rw [List.length_drop]; omega
    have k3 : (W.drop (a + 1)).length ≤ W.length := by rw [List.length_drop]; omega
    have wa : W[a]? = some W[a] := List.getElem?_eq_getElem aW
    have ix : gIx [.lst (ss W), .fz (.int a)] = some (.fz (.str W[a])) := by
      have := ix_data (c := .lst (ss W)) (ds := ss W) rfl (a : Int)
      rwa [show atI (ss W) (a : Int) = some (.str W[a]) from atI_nat (by unfold ss; rw [List.getElem?_map, wa]; rfl)] at this
    rw [wa] at hlen ⊢
    rw [show (some W[a]).getD sp = W[a] from rfl] at hlen ⊢
    generalize W[a] = wd at *
    refine ⟨0, ?_⟩
    unfold g__law_spoilt
    rw [s1, s2, o1, o2]
    have lo : oddS.length = 20 := rfl
    have hodd : ∀ k : Int, 0 ≤ k → k < 20 → gIx [.lst (ss oddS), .fz (.int k)] = some (.fz (.str ((oddS[k.toNat]?).getD sp))) := fun k h0 h1 => by
      obtain ⟨j, rfl⟩ := Int.eq_ofNat_of_zero_le h0
      rw [Int.toNat_natCast]
      have hj : j < oddS.length := by rw [lo]; omega
      have := ix_data (c := .lst (ss oddS)) (ds := ss oddS) rfl (j : Int)
      rw [show atI (ss oddS) (j : Int) = some (.str oddS[j]) from atI_nat (by unfold ss; rw [List.getElem?_map, List.getElem?_eq_getElem hj]; rfl)] at this
      rw [List.getElem?_eq_getElem hj]
      exact this
    generalize ss oddS = OD at *
    by_cases t0 : t = 0
    · rw [if_pos t0] at hlen ⊢
      dsimp only at hlen ⊢
      have ad := add_ss (a := W.take a) (b := W.drop (a + 1)) (by omega)
      have jn := join_ok' (ws := W.take a ++ W.drop (a + 1)) (Str.ofString " ") rfl (by omega)
      refine ⟨.rt (.fz (.str (Txt.join (Str.ofString " ") (W.take a ++ W.drop (a + 1))))) [some (.lst x2.ds), some (.fz (.str line)), some (.lst (ss W)), some (.i a), some (.i t), some (.lst OD)], ?_, rfl⟩
      subst t0
      simp [st__law_spoilt_5, sk, sd1, ad, jn]
    · rw [if_neg t0] at hlen ⊢
      have n5 : ∀ R : FS, sSeq st__law_spoilt_5 R 0 [some (.lst x2.ds), some (.fz (.str line)), some (.lst (ss W)), some (.i a), some (.i t), some (.lst OD)] = R 0 [some (.lst x2.ds), some (.fz (.str line)), some (.lst (ss W)), some (.i a), some (.i t), some (.lst OD)] := fun R => by
        simp [st__law_spoilt_5, t0]
      rw [n5]
      by_cases t1 : t = 1
      · rw [if_pos t1] at hlen ⊢
        dsimp only at hlen ⊢
        have p3 := pick_ok (x := x2) (k := 2) (by decide) (by decide)
        have r3 := pick_rg x2 (k := 2) (by decide)
        generalize (x2.pick 2).2 = x3 at *
        generalize (x2.pick 2).1 = u at *
        have iu : gIx [.lst [.int 2, .int 14], .fz (.int u)] = some (.fz (.int (if u = 0 then 2 else 14))) := by
          have : u = 0 ∨ u = 1 := by omega
          rcases this with rfl | rfl <;> rfl
        have rp := rep_ss wd (if u = 0 then 2 else 14) (by split <;> simp)
        have tn : (if u = 0 then (2 : Int) else 14).toNat = if u = 0 then 2 else 14 := by split <;> rfl
        rw [tn] at rp
        generalize (if u = 0 then (2 : Int) else 14) = c at *
        have hc : (if u = 0 then 2 else 14) ≤ 14 := by split <;> omega
        generalize (if u = 0 then 2 else 14) = d at *
        have lr : (List.replicate d wd).length = d := List.length_replicate
        have ad := add_ss (a := W.take a) (b := List.replicate d wd) (by omega)
        have ad2 := add_ss (a := W.take a ++ List.replicate d wd) (b := W.drop a) (by rw [List.length_append]; omega)
        have jn := join_ok' (ws := W.take a ++ List.replicate d wd ++ W.drop a) (Str.ofString " ") rfl (by omega)
        refine ⟨.rt (.fz (.str (Txt.join (Str.ofString " ") (W.take a ++ List.replicate d wd ++ W.drop a)))) [some (.lst x3.ds), some (.fz (.str line)), some (.lst (ss W)), some (.i a), some (.i t), some (.lst OD)], ?_, rfl⟩
        subst t1
        simp [st__law_spoilt_6, sk, sd, ix, p3, iu, rp, ad, ad2, jn, -List.append_assoc]
      · rw [if_neg t1] at hlen ⊢
        have n6 : ∀ R : FS, sSeq st__law_spoilt_6 R 0 [some (.lst x2.ds), some (.fz (.str line)), some (.lst (ss W)), some (.i a), some (.i t), some (.lst OD)] = R 0 [some (.lst x2.ds), some (.fz (.str line)), some (.lst (ss W)), some (.i a), some (.i t), some (.lst OD)] := fun R => by
          simp [st__law_spoilt_6, t1]
        rw [n6]
        by_cases t2 : t = 2
        · rw [if_pos t2] at hlen ⊢
          dsimp only at hlen ⊢
          have jn := join_ok' (ws := W.take a) (Str.ofString " ") rfl (by omega)
          refine ⟨.rt (.fz (.str (Txt.join (Str.ofString " ") (W.take a)))) [some (.lst x2.ds), some (.fz (.str line)), some (.lst (ss W)), some (.i a), some (.i t), some (.lst OD)], ?_, rfl⟩
          subst t2
          simp [st__law_spoilt_7, sk, jn]
        · rw [if_neg t2] at hlen ⊢
          have n7 : ∀ R : FS, sSeq st__law_spoilt_7 R 0 [some (.lst x2.ds), some (.fz (.str line)), some (.lst (ss W)), some (.i a), some (.i t), some (.lst OD)] = R 0 [some (.lst x2.ds), some (.fz (.str line)), some (.lst (ss W)), some (.i a), some (.i t), some (.lst OD)] := fun R => by
            simp [st__law_spoilt_7, t2]
          rw [n7]
          dsimp only at hlen ⊢
          have p3 := pick_ok (x := x2) (k := 20) (by decide) (by decide)
          have r3 := pick_rg x2 (k := 20) (by decide)
          generalize (x2.pick 20).2 = x3 at *
          generalize (x2.pick 20).1 = u at *
          have iu := hodd u (by omega) (by omega)
          generalize (oddS[u.toNat]?).getD sp = od at *
          have ad := add_ss (a := W.take a) (b := [od]) (by rw [List.length_singleton]; omega)
          have ad : gAdd [.lst (ss (W.take a)), .lst [.str od]] = some (.lst (ss (W.take a ++ [od]))) := ad
          by_cases t5 : t < 5
          · rw [if_pos t5] at hlen ⊢
            have ad2 := add_ss (a := W.take a ++ [od]) (b := W.drop (a + 1)) (by rw [List.length_append, List.length_singleton]; omega)
            have jn := join_ok' (ws := W.take a ++ [od] ++ W.drop (a + 1)) (Str.ofString " ") rfl (by omega)
            refine ⟨.rt (.fz (.str (Txt.join (Str.ofString " ") (W.take a ++ [od] ++ W.drop (a + 1))))) [some (.lst x3.ds), some (.fz (.str line)), some (.lst (ss W)), some (.i a), some (.i t), some (.lst OD)], ?_, rfl⟩
            simp [st__law_spoilt_8, sk, sd1, p3, iu, t5, ad, ad2, jn, gInt, -List.append_assoc]
          · rw [if_neg t5, Nat.add_zero] at hlen ⊢
            have ad2 := add_ss (a := W.take a ++ [od]) (b := W.drop a) (by rw [List.length_append, List.length_singleton]; omega)
            have jn := join_ok' (ws := W.take a ++ [od] ++ W.drop a) (Str.ofString " ") rfl (by omega)
            refine ⟨.rt (.fz (.str (Txt.join (Str.ofString " ") (W.take a ++ [od] ++ W.drop a)))) [some (.lst x3.ds), some (.fz (.str line)), some (.lst (ss W)), some (.i a), some (.i t), some (.lst OD)], ?_, rfl⟩
            simp [st__law_spoilt_8, sk, sd, p3, iu, t5, ad, ad2, jn, gInt, -List.append_assoc]
end L3

namespace L3
open PySem PySem.Spec L2
theorem trim_mem : ∀ (xs : List Int) (x : Int), x ∈ trim xs → x ∈ xs := fun xs x h => by
  rw [← trim_take xs] at h
  exact List.mem_of_mem_take h
theorem trim_last : ∀ xs : List Int, (trim xs).getLast? ≠ some 0
  | [] => by simp [trim]
  | x :: xs => by
    have ih := trim_last xs
    unfold trim
    split
    · split
      · simp
      · rename_i h
        simp [h]
    · rename_i y ys e
      rw [e] at ih
      rw [List.getLast?_cons_cons]
      exact ih
theorem picks_rg (w : Int) (h : 0 < w) : ∀ (n : Nat) (x : Rw), ∀ y ∈ (Rw.picks w n x).1, -(w.fdiv 2) ≤ y ∧ y < w - w.fdiv 2
  | 0, x, y, hy => by cases hy
  | n + 1, x, y, hy => by
    rcases List.mem_cons.mp (show y ∈ ((x.pick w).1 - w.fdiv 2) :: (Rw.picks w n (x.pick w).2).1 from hy) with e | hy
    · have := pick_rg x h
      omega
    · exact picks_rg w h n _ y hy
open TL PySem.NumText
/-! ### the law of the spoilt texts -/
def V8 (S r t L k o a u : Option Cl) : En := [S, r, t, L, k, o, a, u]
structure Lns (ws : List Str) (T N : Nat) : Prop where
  sum : lsum ws ≤ T
  len : ws.length ≤ N
  pos : 1 ≤ ws.length
  ok : ∀ w ∈ ws, PyData.strOk w = true
theorem txt_len {v : Int} (h : v.natAbs < 10 ^ 10) : (txt v).length ≤ 11 := by
  rw [len_tl]
  by_cases h0 : 0 ≤ v
  · obtain ⟨n, rfl⟩ := Int.eq_ofNat_of_zero_le h0
    rw [tl_nat]
    have := numL_len (n := n) (k := 10) (by decide) (by omega)
    omega
  · obtain ⟨n, hn⟩ : ∃ n : Nat, v = -((n : Nat) : Int) := ⟨v.natAbs, by omega⟩
    rw [hn, tl_negn (by omega), List.length_cons]
    have := numL_len (n := n) (k := 10) (by decide) (by omega)
    omega
theorem gStr_ok {v : Int} (h : v.natAbs < 10 ^ 10) : gStr [.fz (.int v)] = some (.fz (.str (txt v))) := if_pos (by
  refine Nat.ble_eq_true_of_le ?_
  by_cases h0 : v.natAbs = 0
  · rw [h0]; decide
  · have : (10 : Nat) ^ 10 < 2 ^ 64 := by decide
    have := (Nat.log2_lt h0).mpr (show v.natAbs < 2 ^ 64 by omega)
    omega)
theorem law_lc (S r t L k a u : Option Cl) (n : Nat) : ∀ (xs : List Int) (acc : List D), (∀ x ∈ xs, x.natAbs < 10 ^ 10) → lcF 8 cg_law_1 fYes ce_law_1 [5] n (zs xs) (V8 S r t L k none a u) acc = some (.ok (.lst (acc ++ ss (xs.map txt))) (V8 S r t L k none a u))
  | [], acc, _ => by
    show some (Rz.ok (Cl.lst acc) _) = some (Rz.ok (Cl.lst (acc ++ [])) _)
    rw [List.append_nil]
  | x :: xs, acc, h => by
    have g := gStr_ok (h x List.mem_cons_self)
    rw [show zs (x :: xs) = .int x :: zs xs from rfl, lc_step (ρ2 := V8 S r t L k (some (.i x)) a u) (y := .str (txt x)) (ρ4 := V8 S r t L k (some (.i x)) a u) (ρ5 := V8 S r t L k none a u) (by simp [cg_law_1, V8]) (by rfl) (by simp [ce_law_1, V8, g]) (by rfl), law_lc S r t L k a u n xs _ fun y hy => h y (List.mem_cons_of_mem _ hy), List.append_assoc]
    rfl
theorem poly5 (x : Rw) : (x.poly 5).1.length ≤ 6 ∧ ∀ y ∈ (x.poly 5).1, y.natAbs < 10 ^ 10 := by
  have hw := wideAt_mem (min 2 ((x.pick 9).1.fdiv 4))
  have ry := pick_rg (x.pick 9).2 (k := 7) (by decide)
  unfold Rw.poly
  dsimp only
  obtain ⟨w, ew⟩ : ∃ w, w = wideAt (min 2 ((x.pick 9).1.fdiv 4)) := ⟨_, rfl⟩
  rw [← ew] at hw ⊢
  have hw0 : 0 < w := by omega
  refine ⟨?_, fun y hy => ?_⟩
  · refine Nat.le_trans (trim_len _) ?_
    rw [picks_len]
    have e : (5 : Int) + 2 = 7 := rfl
    rw [e]
    omega
  · have := picks_rg w hw0 _ _ y (trim_mem _ _ hy)
    rcases hw with z | z | z <;> rw [z] at this
    · have e : Int.fdiv 3 2 = 1 := rfl
      rw [e] at this; omega
    · have e : Int.fdiv 7 2 = 3 := rfl
      rw [e] at this; omega
    · have e : Int.fdiv 2000000001 2 = 1000000000 := rfl
      rw [e] at this; omega
theorem poly_m (x : Rw) : m__law_poly [.lst x.ds, .fz (.int 5)] = some (.ok (T (x.poly 5).1) [some (.lst (x.poly 5).2.ds), some (.i 5)]) := by
  unfold m__law_poly
  dsimp only
  rw [of_rw]
  exact if_pos (by decide)
theorem add_turn (S t k a u : Option Cl) (n : Nat) (x : Rw) (ws : List Str) (hl : ws.length ≤ 10) : ∃ w : Str, w.length ≤ 77 ∧ PyData.strOk w = true ∧
    bl_law_1 n (V8 S (some (.lst x.ds)) t (some (.lst (ss ws))) k none a u) = some (.nx (V8 S (some (.lst (x.poly 5).2.ds)) t (some (.lst (ss (ws ++ [w])))) k none a u)) := by
  obtain ⟨p1, p2⟩ := poly5 x
  have pm := poly_m x
  generalize (x.poly 5).2 = x' at *
  generalize (x.poly 5).1 = P at *
  have e := law_lc S (some (.lst x'.ds)) t (some (.lst (ss ws))) k a u n P [] p2
  rw [List.nil_append] at e
  unfold V8 at *
  have lm : lsum (P.map txt) ≤ P.length * 11 := by
    clear e pm p1
    induction P with
    | nil => exact Nat.zero_le _
    | cons y P ih =>
      rw [List.map_cons, lsum_cons, List.length_cons, Nat.succ_mul]
      have := ih fun z hz => p2 z (List.mem_cons_of_mem _ hz)
      have := txt_len (p2 y List.mem_cons_self)
      omega
  have l4 : (Str.ofString "poly").length = 4 := rfl
  have ln : (P.map txt).length = P.length := List.length_map ..
  have jn := join_ok' (ws := Str.ofString "poly" :: P.map txt) (Str.ofString " ") rfl (by rw [lsum_cons, List.length_cons, ln]; omega)
  have ad := add_ss (a := [Str.ofString "poly"]) (b := P.map txt) (by rw [ln, List.length_singleton]; omega)
  have ad : gAdd [.lst [.str (Str.ofString "poly")], .lst (ss (P.map txt))] = some (.lst (ss (Str.ofString "poly" :: P.map txt))) := ad
  refine ⟨Txt.join (Str.ofString " ") (Str.ofString "poly" :: P.map txt), ?_, ?_, ?_⟩
  · rw [join_eq]
    have := jn_le (Str.ofString " ") rfl (Str.ofString "poly" :: P.map txt)
    rw [lsum_cons, List.length_cons, ln] at this
    omega
  · refine jn_ok sp_ok fun w hw => ?_
    rcases List.mem_cons.mp hw with z | z
    · rw [z]; exact skP
    · obtain ⟨y, _, rfl⟩ := List.mem_map.mp z
      exact txt_ok y
  · have ap := app_ok (ds := ss ws) (by rw [ss_len]; omega) (.str (Txt.join (Str.ofString " ") (Str.ofString "poly" :: P.map txt)))
    have ea : ss ws ++ [PyData.str (Txt.join (Str.ofString " ") (Str.ofString "poly" :: P.map txt))] = ss (ws ++ [Txt.join (Str.ofString " ") (Str.ofString "poly" :: P.map txt)]) := by unfold ss; rw [List.map_append]; rfl
    rw [ea] at ap
    have lz : P.length ≤ 1000000 := by omega
    generalize Str.ofString "poly" :: P.map txt = Q at *
    generalize Txt.join (Str.ofString " ") Q = w at *
    generalize ss (ws ++ [w]) = R at *
    simp [bl_law_1, pm, asSeq, lz, wipR, e, ad, jn, ap]
theorem pick_ex' (x : Rw) {k : Int} (h1 : 0 < k) (h2 : k < 2 ^ 64) : ∃ (v : Int) (x' : Rw), 0 ≤ v ∧ v < k ∧ m__law_pick [.lst x.ds, .fz (.int k)] = some (.ok (.i v) [some (.lst x'.ds), some (.i k)]) :=
  ⟨_, _, (pick_rg x h1).1, (pick_rg x h1).2, pick_ok h1 h2⟩
theorem spoil_m (x : Rw) {line : Str} (h : line.length ≤ 10000) : m__law_spoilt [.lst x.ds, .fz (.str line)] = some (.ok (.fz (.str (spoilF x line).1)) [some (.lst (spoilF x line).2.ds), some (.fz (.str line))]) := by
  unfold m__law_spoilt
  dsimp only
  rw [of_rw]
  exact if_pos (Nat.ble_eq_true_of_le h)
theorem spoil_turn (S t k a u : Option Cl) (n : Nat) (x : Rw) (ws : List Str) (T : Nat) (hT : T ≤ 10000) (hw : Lns ws T 4) : ∃ (x' : Rw) (ws' : List Str) (a' u' : Option Cl), Lns ws' (16 * T + 5016) (ws.length + 1) ∧
    bl_law_2 n (V8 S (some (.lst x.ds)) t (some (.lst (ss ws))) k none a u) = some (.nx (V8 S (some (.lst x'.ds)) t (some (.lst (ss ws'))) k none a' u')) := by
  obtain ⟨hs, hl, hp, hok⟩ := hw
  obtain ⟨v, x1, v0, v1, e1⟩ := pick_ex' x (k := ws.length) (by omega) (by omega)
  obtain ⟨q, x2, q0, q1, e2⟩ := pick_ex' x1 (k := 8) (by decide) (by decide)
  obtain ⟨j, rfl⟩ := Int.eq_ofNat_of_zero_le v0
  have jl : j < ws.length := by omega
  have hln : (ss ws).length = ws.length := ss_len ws
  have e1 : m__law_pick [.lst x.ds, .fz (.int (ss ws).length)] = some (.ok (.i j) [some (.lst x1.ds), some (.i (ss ws).length)]) := by rw [hln]; exact e1
  have hlen : gLenA [.lst (ss ws)] = some (.fz (.int ((ss ws).length : Int))) := rfl
  have sk := sl_take ws j
  have sd := sl_drop ws j
  have sd1 : gSl (some ((j : Int) + 1)) none (.lst (ss ws)) = some (.lst (ss (ws.drop (j + 1)))) := sl_drop ws (j + 1)
  have wa : ws[j]? = some ws[j] := List.getElem?_eq_getElem jl
  have ix : gIx [.lst (ss ws), .fz (.int j)] = some (.fz (.str ws[j])) := by
    have := ix_data (c := .lst (ss ws)) (ds := ss ws) rfl (j : Int)
    rwa [show atI (ss ws) (j : Int) = some (.str ws[j]) from atI_nat (by unfold ss; rw [List.getElem?_map, wa]; rfl)] at this
  have k1 : (ws.take j).length = j := by rw [List.length_take]; omega
  have k2 : (ws.drop j).length = ws.length - j := List.length_drop ..
  have k3 : (ws.drop (j + 1)).length = ws.length - (j + 1) := List.length_drop ..
  have u1 := lsum_take ws j
  have u2 := lsum_take ws (j + 1)
  have wj := lsum_mem (List.getElem_mem jl)
  have okj := hok ws[j] (List.getElem_mem jl)
  unfold V8
  by_cases c0 : q = 0 ∧ 1 < ws.length
  · obtain ⟨rfl, c1⟩ := c0
    have ad := add_ss (a := ws.take j) (b := ws.drop (j + 1)) (by omega)
    have g1 : (1 : Int) < ((ss ws).length : Int) := by omega
    refine ⟨x2, ws.take j ++ ws.drop (j + 1), some (.i j), some (.i 0), ⟨?_, ?_, ?_, fun w hw => ?_⟩, ?_⟩
    · rw [lsum_app]; omega
    · rw [List.length_append]; omega
    · rw [List.length_append]; omega
    · rcases List.mem_append.mp hw with z | z
      · exact hok w (List.mem_of_mem_take z)
      · exact hok w (List.mem_of_mem_drop z)
    · generalize ss ws = W at *
      simp [bl_law_2, hlen, e1, e2, g1, sk, sd1, ad]
  · by_cases c1 : q = 1
    · subst c1
      have ad := add_ss (a := ws.take j) (b := [ws[j]]) (by rw [List.length_singleton]; omega)
      have ad : gAdd [.lst (ss (ws.take j)), .lst [.str ws[j]]] = some (.lst (ss (ws.take j ++ [ws[j]]))) := ad
      have ad2 := add_ss (a := ws.take j ++ [ws[j]]) (b := ws.drop j) (by rw [List.length_append, List.length_singleton]; omega)
      refine ⟨x2, ws.take j ++ [ws[j]] ++ ws.drop j, some (.i j), some (.i 1), ⟨?_, ?_, ?_, fun w hw => ?_⟩, ?_⟩
      · rw [lsum_app, lsum_app, lsum_cons, lsum_nil]; omega
      · rw [List.length_append, List.length_append, List.length_singleton]; omega
      · rw [List.length_append, List.length_append, List.length_singleton]; omega
      · rcases List.mem_append.mp hw with z | z
        · rcases List.mem_append.mp z with z | z
          · exact hok w (List.mem_of_mem_take z)
          · rw [List.mem_singleton.mp z]; exact okj
        · exact hok w (List.mem_of_mem_drop z)
      · generalize ws[j] = wd at *
        generalize ss ws = W at *
        simp [bl_law_2, hlen, e1, e2, sk, sd, ix, ad, ad2, -List.append_assoc]
    · obtain ⟨o1, o2⟩ := spoil_ok x2 okj
      have sm := spoil_m x2 (line := ws[j]) (by omega)
      have hx : ixN (ss ws).length (j : Int) = some j := by
        unfold ixN
        rw [hln]
        simp [jl]
      have st : (ss ws).set j (.str (spoilF x2 ws[j]).1) = ss (ws.set j (spoilF x2 ws[j]).1) := by unfold ss; rw [List.map_set]
      generalize (spoilF x2 ws[j]).2 = x3 at *
      generalize (spoilF x2 ws[j]).1 = wn at *
      have es : lsum (ws.set j wn) + ws[j].length = lsum ws + wn.length := by
        have := congrArg lsum (List.drop_eq_getElem_cons jl)
        rw [lsum_cons] at this
        rw [List.set_eq_take_append_cons_drop, if_pos jl, lsum_app, lsum_cons]
        omega
      refine ⟨x3, ws.set j wn, some (.i j), some (.i q), ⟨?_, ?_, ?_, fun w hw => ?_⟩, ?_⟩
      · omega
      · rw [List.length_set]; omega
      · rw [List.length_set]; omega
      · rcases List.mem_or_eq_of_mem_set hw with z | z
        · exact hok w z
        · rw [z]; exact o2
      · by_cases q0 : q = 0
        · subst q0
          have g1 : ¬ ((1 : Int) < ((ss ws).length : Int)) := by
            have : ¬ (1 < ws.length) := fun z => c0 ⟨rfl, z⟩
            omega
          generalize ws[j] = wd at *
          generalize ss ws = W at *
          simp [bl_law_2, hlen, e1, e2, g1, ix, sm, setIx, hx, st]
        · generalize ws[j] = wd at *
          generalize ss ws = W at *
          simp [bl_law_2, hlen, e1, e2, q0, c1, ix, sm, setIx, hx, st]
theorem Lns.mono {ws : List Str} {T N T' N' : Nat} (h : Lns ws T N) (h1 : T ≤ T') (h2 : N ≤ N') : Lns ws T' N' := ⟨Nat.le_trans h.sum h1, Nat.le_trans h.len h2, h.pos, h.ok⟩
theorem spoil_loop (S t : Option Cl) (n : Nat) (x : Rw) (ws : List Str) (hw : Lns ws 154 2) : ∀ (ds : List D), ds.length ≤ 2 → ∀ k a u : Option Cl, ∃ (x' : Rw) (ws' : List Str) (k' a' u' : Option Cl), Lns ws' 130000 4 ∧
    forF gl_law_2 bl_law_2 n ds (V8 S (some (.lst x.ds)) t (some (.lst (ss ws))) k none a u) = some (.nx (V8 S (some (.lst x'.ds)) t (some (.lst (ss ws'))) k' none a' u'))
  | [], _, k, a, u => ⟨x, ws, k, a, u, hw.mono (by decide) (by decide), rfl⟩
  | [d], _, k, a, u => by
    obtain ⟨x1, w1, a1, u1, h1, e1⟩ := spoil_turn S t (some (.fz d)) a u n x ws 154 (by decide) (hw.mono (by decide) (by decide))
    refine ⟨x1, w1, some (.fz d), a1, u1, h1.mono (by decide) (by have := hw.len; omega), ?_⟩
    rw [for_step (by simp [gl_law_2, V8]) e1]
    rfl
  | [d, d2], _, k, a, u => by
    obtain ⟨x1, w1, a1, u1, h1, e1⟩ := spoil_turn S t (some (.fz d)) a u n x ws 154 (by decide) (hw.mono (by decide) (by decide))
    have hl := hw.len
    have hl1 := h1.len
    obtain ⟨x2, w2, a2, u2, h2, e2⟩ := spoil_turn S t (some (.fz d2)) a1 u1 n x1 w1 (16 * 154 + 5016) (by decide) (h1.mono (by decide) (by omega))
    refine ⟨x2, w2, some (.fz d2), a2, u2, h2.mono (by decide) (by omega), ?_⟩
    rw [for_step (by simp [gl_law_2, V8]) e1, for_step (by simp [gl_law_2, V8]) e2]
    rfl
  | _ :: _ :: _ :: _, h, _, _, _ => absurd h (by simp only [List.length_cons]; omega)
theorem ne_self {c : Cl} {d : D} (hc : c.data = some d) (hs : SeqAt.shaped d = true) : gNe [c, c] = some (.b false) := by
  show (match c.data, c.data with
    | some d, some e => if (SeqAt.shaped d && SeqAt.shaped e) = true then some (Cl.fz (.bool (!PyData.eqv d e))) else none
    | _, _ => none) = _
  rw [hc]
  show (if (SeqAt.shaped d && SeqAt.shaped d) = true then some (Cl.fz (.bool (!PyData.eqv d d))) else none) = _
  rw [hs]
  have : PyData.canLay0 d = true := by
    unfold SeqAt.shaped at hs
    rw [Bool.and_eq_true] at hs
    exact hs.1
  rw [SeqAt.eqv_refl d this]
  rfl
theorem told_self (t : Str) : gNe [toldC t, toldC t] = some (.b false) := by
  unfold toldC
  cases readR t with
  | inl p =>
    obtain ⟨x, y⟩ := p
    refine ne_self (d := .tuple [.tuple (zs x), .tuple (zs y)]) rfl ?_
    simp [SeqAt.shaped, PyData.canLay0, PyData.canLayAll0, PyData.depth, PyData.depthAll, lay_zs, dep_zs]
  | inr p =>
    obtain ⟨i, j⟩ := p
    refine ne_self (d := .list [.str "line", .int i, .int j]) rfl ?_
    have : PyData.strOk (Str.ofString "line") = true := by decide +kernel
    simp [SeqAt.shaped, PyData.canLay0, PyData.canLayAll0, PyData.depth, PyData.depthAll, this]
theorem okT2_join {ws : List Str} (h : Lns ws 130000 4) : okT2 (Txt.join (Str.ofString "\n") ws) = true := by
  unfold okT2
  have l := jn_le (Str.ofString "\n") rfl ws
  have h1 := h.sum
  have h2 := h.len
  rw [jn_ok (by decide +kernel) h.ok, show Nat.ble (Txt.join (Str.ofString "\n") ws).length 200000 = true from Nat.ble_eq_true_of_le (by rw [join_eq]; omega)]
  rfl
theorem told_m {t : Str} (h : okT2 t = true) : m__law_told_there [.fz (.str t)] = some (.ok (toldC t) [some (.fz (.str t))]) := by
  unfold m__law_told_there
  exact if_pos h
theorem due_m {t : Str} (h : okT2 t = true) : m__law_due [.fz (.str t)] = some (.ok (toldC t) [some (.fz (.str t))]) := by
  unfold m__law_due
  exact if_pos h
theorem turn13 (S t L k a u : Option Cl) (x : Rw) : ∃ (x' : Rw) (L' k' a' u' : Option Cl), bl_law_3 0 (V8 S (some (.lst x.ds)) t L k none a u) = some (.nx (V8 S (some (.lst x'.ds)) t L' k' none a' u')) := by
  obtain ⟨w1, l1, o1, e1⟩ := add_turn S t (some (.i 0)) a u 0 x [] (by simp)
  generalize (x.poly 5).2 = x1 at *
  rw [List.nil_append] at e1
  obtain ⟨w2, l2, o2, e2⟩ := add_turn S t (some (.i 1)) a u 0 x1 [w1] (by simp)
  generalize (x1.poly 5).2 = x2 at *
  have e2 : bl_law_1 0 (V8 S (some (.lst x1.ds)) t (some (.lst (ss [w1]))) (some (.i 1)) none a u) = some (.nx (V8 S (some (.lst x2.ds)) t (some (.lst (ss [w1, w2]))) (some (.i 1)) none a u)) := e2
  have hw : Lns [w1, w2] 154 2 := ⟨by rw [lsum_cons, lsum_cons, lsum_nil]; omega, Nat.le_refl _, by simp, fun w hw => by
    rcases List.mem_cons.mp hw with z | z
    · rw [z]; exact o1
    · rw [List.mem_singleton.mp z]; exact o2⟩
  have f1 : forF gl_law_1 bl_law_1 0 (rngD 0 2) (V8 S (some (.lst x.ds)) t (some (.lst [])) k none a u) = some (.nx (V8 S (some (.lst x2.ds)) t (some (.lst (ss [w1, w2]))) (some (.i 1)) none a u)) := by
    rw [show rngD (0 : Int) 2 = [.int 0, .int 1] from rfl, for_step (ρ1 := V8 S (some (.lst x.ds)) t (some (.lst [])) (some (.i 0)) none a u) (by simp [gl_law_1, V8]) e1, for_step (ρ1 := V8 S (some (.lst x1.ds)) t (some (.lst (ss [w1]))) (some (.i 1)) none a u) (by simp [gl_law_1, V8]) e2]
    rfl
  obtain ⟨v, x3, v0, v1, e3⟩ := pick_ex' x2 (k := 3) (by decide) (by decide)
  have vl : (rngD (0 : Int) v.toNat).length ≤ 2 := by rw [rngD_len]; omega
  obtain ⟨x4, ws, k', a', u', h4, e4⟩ := spoil_loop S t 0 x3 [w1, w2] hw (rngD 0 v.toNat) vl (some (.i 1)) a u
  have sv : smI v = true := Nat.ble_eq_true_of_le (by omega)
  have ok := okT2_join h4
  have tm := told_m ok
  have dm := due_m ok
  have ts := told_self (Txt.join (Str.ofString "\n") ws)
  have jn := join_ok' (ws := ws) (Str.ofString "\n") rfl (by have := h4.sum; have := h4.len; omega)
  refine ⟨x4, some (.fz (.list (ss ws))), k', a', u', ?_⟩
  have q1 : sb_law_1 0 (V8 S (some (.lst x.ds)) t L k none a u) = some (.nx (V8 S (some (.lst x.ds)) t (some (.lst [])) k none a u)) := by simp [sb_law_1, V8]
  have q2 : sb_law_2 0 (V8 S (some (.lst x.ds)) t (some (.lst [])) k none a u) = some (.nx (V8 S (some (.lst x2.ds)) t (some (.lst (ss [w1, w2]))) (some (.i 1)) none a u)) := by
    have s2 : smI 2 = true := rfl
    have t2 : (2 : Int).toNat = 2 := rfl
    simp [sb_law_2, s2, t2, f1]
  have q3 : sb_law_3 0 (V8 S (some (.lst x2.ds)) t (some (.lst (ss [w1, w2]))) (some (.i 1)) none a u) = some (.nx (V8 S (some (.lst x4.ds)) t (some (.lst (ss ws))) k' none a' u')) := by
    unfold V8 at e4 ⊢
    generalize ss [w1, w2] = R at *
    simp [sb_law_3, e3, sv, e4]
  have q4 : sb_law_4 0 (V8 S (some (.lst x4.ds)) t (some (.lst (ss ws))) k' none a' u') = some (.nx (V8 S (some (.lst x4.ds)) t (some (.fz (.list (ss ws)))) k' none a' u')) := by
    unfold V8
    generalize Txt.join (Str.ofString "\n") ws = tx at *
    generalize toldC tx = c at *
    generalize ss ws = R at *
    simp [sb_law_4, jn, tm, dm, ts]
  unfold bl_law_3
  rw [e_sSeq, q1]
  dsimp only
  rw [e_sSeq, q2]
  dsimp only
  rw [e_sSeq, q3]
  dsimp only
  exact q4
theorem turns13 (S : Option Cl) : ∀ (ds : List D) (x : Rw) (t L k a u : Option Cl), ∃ (x' : Rw) (t' L' k' a' u' : Option Cl), forF gl_law_3 bl_law_3 0 ds (V8 S (some (.lst x.ds)) t L k none a u) = some (.nx (V8 S (some (.lst x'.ds)) t' L' k' none a' u'))
  | [], x, t, L, k, a, u => ⟨x, t, L, k, a, u, rfl⟩
  | d :: ds, x, t, L, k, a, u => by
    obtain ⟨x1, L1, k1, a1, u1, e1⟩ := turn13 S (some (.fz d)) L k a u x
    obtain ⟨x2, t2, L2, k2, a2, u2, e2⟩ := turns13 S ds x1 (some (.fz d)) L1 k1 a1 u1
    refine ⟨x2, t2, L2, k2, a2, u2, ?_⟩
    rw [for_step (by simp [gl_law_3, V8]) e1, e2]
theorem told_empty : toldC (Str.ofString "") = .lst [.str "line", .int 1, .int 1] := by
  have h1 : Txt.split (Str.ofString "") (Str.ofString "\n") = [Str.ofString ""] := map_tl_inj (by
    rw [splitN, emptyT]
    show [[]] = [tl (Str.ofString "")]
    rw [emptyT])
  have h2 : Txt.split (Str.ofString "") (Str.ofString " ") = [Str.ofString ""] := map_tl_inj (by
    rw [splitS, emptyT]
    show [[]] = [tl (Str.ofString "")]
    rw [emptyT])
  have h3 : wordsOf (Str.ofString "") = [] := by
    unfold wordsOf
    rw [h2]
    simp
  have h4 : linesOf (Str.ofString "") = [[]] := by
    unfold linesOf
    rw [h1, List.map_cons, h3]; rfl
  unfold toldC readR
  rw [h4]; rfl
def coB (a : Option Cl) (b : Cl) : Bool := match a with
  | some c => ceq c b
  | none => false
theorem co_of {a : Option Cl} {b : Cl} (h : coB a b = true) : a = some b := by
  unfold coB at h
  cases a with
  | none => cases h
  | some c => rw [ceq_of c b h]
theorem h_law : ∀ cs o, m_law cs = some o → ∃ n out, g_law n (startR 8 cs) = some out ∧ fin [true] out = some o := fun cs o h => by
  unfold m_law at h
  split at h
  case h_2 => cases h
  rename_i ds
  cases q : intsD ds with
  | none => rw [q] at h; cases h
  | some ns =>
    rw [q] at h
    cases h
    have e1 : m__law_draws [.fz (.list ds)] = some (.ok (.lst (Rw.ds ⟨ns, 0, 0, 7⟩)) [some (.fz (.list ds))]) := by
      unfold m__law_draws
      dsimp only
      rw [q]
    obtain ⟨x', t', L', k', a', u', e2⟩ := turns13 (some (.fz (.list ds))) (rngD 0 8) ⟨ns, 0, 0, 7⟩ none none none none none
    have s2 : smI 8 = true := rfl
    have t2 : (8 : Int).toNat = 8 := rfl
    have tm := told_m (t := Str.ofString "") (by decide +kernel)
    rw [told_empty] at tm
    have g0 : gEq [.lst [.str "line", .int 1, .int 1], .lst [.str "line", .int 1, .int 1]] = some (.b true) := co_of (by decide +kernel)
    unfold V8 at e2
    refine ⟨0, .rt (.b true) [some (.fz (.list ds)), some (.lst x'.ds), t', L', k', none, a', u'], ?_, rfl⟩
    simp [g_law, st_law_1, st_law_2, st_law_3, startR, e1, s2, t2, e2, tm, g0]
theorem m_law_true (ns : List Int) : ∃ outs, m_law [.fz (.list (zs ns))] = some (.ok (.b true) outs) := by
  unfold m_law
  dsimp only
  rw [intsD_zs]
  exact ⟨_, rfl⟩
end L3

namespace L3
open PySem PySem.Spec L2 PyProof.Rows

def topS (i : Nat) : Stmt := PySem.Challenge.pw_fewroots_k13_texts_refused.main.body.getD i (.Pass ⟨0, 0, 0, 0⟩)
abbrev s_is_whole : Stmt := topS 9
theorem sc_is_whole : FnScope ["word", "figures", "sign"] ["word"] (defScope s_is_whole) := ⟨rfl, rfl, rfl, by decide +kernel, rfl, by decide +kernel, by decide +kernel⟩
abbrev s_poly_in : Stmt := topS 10
theorem sc_poly_in : FnScope ["words", "line", "found", "at", "word"] ["words", "line"] (defScope s_poly_in) := ⟨rfl, rfl, rfl, by decide +kernel, rfl, by decide +kernel, by decide +kernel⟩
abbrev s_read : Stmt := topS 11
theorem sc_read : FnScope ["text", "lines", "line", "word", "one", "other"] ["text"] (defScope s_read) := ⟨rfl, rfl, rfl, by decide +kernel, rfl, by decide +kernel, by decide +kernel⟩
abbrev s__law_draws : Stmt := topS 13
theorem sc__law_draws : FnScope ["_law_script"] ["_law_script"] (defScope s__law_draws) := ⟨rfl, rfl, rfl, by decide +kernel, rfl, by decide +kernel, by decide +kernel⟩
abbrev s__law_pick : Stmt := topS 14
theorem sc__law_pick : FnScope ["_law_row", "_law_many", "_law_cell", "_law_found"] ["_law_row", "_law_many"] (defScope s__law_pick) := ⟨rfl, rfl, rfl, by decide +kernel, rfl, by decide +kernel, by decide +kernel⟩
abbrev s__law_end : Stmt := topS 15
theorem sc__law_end : FnScope ["_law_numbers", "_law_found", "_law_k"] ["_law_numbers"] (defScope s__law_end) := ⟨rfl, rfl, rfl, by decide +kernel, rfl, by decide +kernel, by decide +kernel⟩
abbrev s__law_poly : Stmt := topS 16
theorem sc__law_poly : FnScope ["_law_row", "_law_most", "_law_wide", "_law_k"] ["_law_row", "_law_most"] (defScope s__law_poly) := ⟨rfl, rfl, rfl, by decide +kernel, rfl, by decide +kernel, by decide +kernel⟩
abbrev s__law_fault : Stmt := topS 17
theorem sc__law_fault : FnScope ["_law_words", "_law_k", "_law_figures", "_law_good", "_law_sign"] ["_law_words"] (defScope s__law_fault) := ⟨rfl, rfl, rfl, by decide +kernel, rfl, by decide +kernel, by decide +kernel⟩
abbrev s__law_due : Stmt := topS 18
theorem sc__law_due : FnScope ["_law_text", "_law_found", "_law_lines", "_law_k", "_law_words", "_law_word", "_law_fault_here"] ["_law_text"] (defScope s__law_due) := ⟨rfl, rfl, rfl, by decide +kernel, rfl, by decide +kernel, by decide +kernel⟩
abbrev s__law_told_there : Stmt := topS 19
theorem sc__law_told_there : FnScope ["_law_text", "_law_told_there_here", "e"] ["_law_text"] (defScope s__law_told_there) := ⟨rfl, rfl, rfl, by decide +kernel, rfl, by decide +kernel, by decide +kernel⟩
abbrev s__law_spoilt : Stmt := topS 20
theorem sc__law_spoilt : FnScope ["_law_row", "_law_line", "_law_words", "_law_at", "_law_turn_of", "_law_odd"] ["_law_row", "_law_line"] (defScope s__law_spoilt) := ⟨rfl, rfl, rfl, by decide +kernel, rfl, by decide +kernel, by decide +kernel⟩
abbrev s_law : Stmt := topS 21
theorem sc_law : FnScope ["_law_script", "_law_row", "_law_turn", "_law_lines", "_law_k", "_law_one", "_law_at", "_law_turn_of"] ["_law_script"] (defScope s_law) := ⟨rfl, rfl, rfl, by decide +kernel, rfl, by decide +kernel, by decide +kernel⟩
structure Ad where
  f_is_whole : Addr
  d_is_whole : FuncData
  f_poly_in : Addr
  d_poly_in : FuncData
  f_read : Addr
  d_read : FuncData
  f__law_draws : Addr
  d__law_draws : FuncData
  f__law_pick : Addr
  d__law_pick : FuncData
  f__law_end : Addr
  d__law_end : FuncData
  f__law_poly : Addr
  d__law_poly : FuncData
  f__law_fault : Addr
  d__law_fault : FuncData
  f__law_due : Addr
  d__law_due : FuncData
  f__law_told_there : Addr
  d__law_told_there : FuncData
  f__law_spoilt : Addr
  d__law_spoilt : FuncData
  f_law : Addr
  d_law : FuncData
  C_BadLine : Addr
  C_RootError : Addr
  fi_BadLine : Addr
  di_BadLine : FuncData
  t_DIGITS : Tok
  t_FAR : Tok
  t_MOST_FIGURES : Tok
  t_MOST_TERMS : Tok
  t_POLY : Tok
  un : Unit
structure Evd (P : Program) (w : World) (K : PySem.W.Frag) (mg : Str → Option Value) (base : Heap) (A0 : Ad) : Prop where
  F_is_whole : Fun K "is_whole" "is_whole" s_is_whole A0.f_is_whole A0.d_is_whole
  b_is_whole : Binds K A0.d_is_whole ["word"] []
  m_is_whole : mg "is_whole" = some (.ref A0.f_is_whole)
  F_poly_in : Fun K "poly_in" "poly_in" s_poly_in A0.f_poly_in A0.d_poly_in
  b_poly_in : Binds K A0.d_poly_in ["words", "line"] []
  m_poly_in : mg "poly_in" = some (.ref A0.f_poly_in)
  F_read : Fun K "read" "read" s_read A0.f_read A0.d_read
  b_read : Binds K A0.d_read ["text"] []
  m_read : mg "read" = some (.ref A0.f_read)
  F__law_draws : Fun K "_law_draws" "_law_draws" s__law_draws A0.f__law_draws A0.d__law_draws
  b__law_draws : Binds K A0.d__law_draws ["_law_script"] []
  m__law_draws : mg "_law_draws" = some (.ref A0.f__law_draws)
  F__law_pick : Fun K "_law_pick" "_law_pick" s__law_pick A0.f__law_pick A0.d__law_pick
  b__law_pick : Binds K A0.d__law_pick ["_law_row", "_law_many"] []
  m__law_pick : mg "_law_pick" = some (.ref A0.f__law_pick)
  F__law_end : Fun K "_law_end" "_law_end" s__law_end A0.f__law_end A0.d__law_end
  b__law_end : Binds K A0.d__law_end ["_law_numbers"] []
  m__law_end : mg "_law_end" = some (.ref A0.f__law_end)
  F__law_poly : Fun K "_law_poly" "_law_poly" s__law_poly A0.f__law_poly A0.d__law_poly
  b__law_poly : Binds K A0.d__law_poly ["_law_row", "_law_most"] []
  m__law_poly : mg "_law_poly" = some (.ref A0.f__law_poly)
  F__law_fault : Fun K "_law_fault" "_law_fault" s__law_fault A0.f__law_fault A0.d__law_fault
  b__law_fault : Binds K A0.d__law_fault ["_law_words"] []
  m__law_fault : mg "_law_fault" = some (.ref A0.f__law_fault)
  F__law_due : Fun K "_law_due" "_law_due" s__law_due A0.f__law_due A0.d__law_due
  b__law_due : Binds K A0.d__law_due ["_law_text"] []
  m__law_due : mg "_law_due" = some (.ref A0.f__law_due)
  F__law_told_there : Fun K "_law_told_there" "_law_told_there" s__law_told_there A0.f__law_told_there A0.d__law_told_there
  b__law_told_there : Binds K A0.d__law_told_there ["_law_text"] []
  m__law_told_there : mg "_law_told_there" = some (.ref A0.f__law_told_there)
  F__law_spoilt : Fun K "_law_spoilt" "_law_spoilt" s__law_spoilt A0.f__law_spoilt A0.d__law_spoilt
  b__law_spoilt : Binds K A0.d__law_spoilt ["_law_row", "_law_line"] []
  m__law_spoilt : mg "_law_spoilt" = some (.ref A0.f__law_spoilt)
  F_law : Fun K "law" "law" s_law A0.f_law A0.d_law
  b_law : Binds K A0.d_law ["_law_script"] []
  m_law : mg "law" = some (.ref A0.f_law)
  c_DIGITS : mg "DIGITS" = some (.str "0123456789" A0.t_DIGITS)
  c_FAR : mg "FAR" = some (.int 1000000000 A0.t_FAR)
  c_MOST_FIGURES : mg "MOST_FIGURES" = some (.int 10 A0.t_MOST_FIGURES)
  c_MOST_TERMS : mg "MOST_TERMS" = some (.int 13 A0.t_MOST_TERMS)
  c_POLY : mg "POLY" = some (.str "poly" A0.t_POLY)
  z_abs : mg "abs" = none
  z_all : mg "all" = none
  z_enumerate : mg "enumerate" = none
  z_int : mg "int" = none
  z_isinstance : mg "isinstance" = none
  z_len : mg "len" = none
  z_list : mg "list" = none
  z_min : mg "min" = none
  z_range : mg "range" = none
  z_str : mg "str" = none
  z_tuple : mg "tuple" = none
  m_BadLine : mg "BadLine" = some (.ref A0.C_BadLine)
  e_BadLine : EcK K A0.C_BadLine
  i_BadLine : EcI P w K mg base 1 A0.C_BadLine A0.fi_BadLine A0.di_BadLine ["line", "word"]
  m_RootError : mg "RootError" = some (.ref A0.C_RootError)
  x_BadLine_BadLine : PySem.W.exmOne K (.ref A0.C_BadLine) (.ref A0.C_BadLine) = some true
  k_BadLine_RootError : PySem.W.kitOne K (.ref A0.C_BadLine) (.ref A0.C_RootError) = some true
  xf_BadLine : XfC K A0.C_BadLine
  nf_BadLine_line : PySem.W.findIn K (.ref A0.C_BadLine) "line" = some none
  nf_BadLine_word : PySem.W.findIn K (.ref A0.C_BadLine) "word" = some none
  un : True
section
variable {P : Program} {w : World} {K : PySem.W.Frag} {mg : Str → Option Value} {base : Heap} {A0 : Ad}
theorem w_is_whole (Ev : Evd P w K mg base A0) (cdv : Value) (A : Around) (outer : List Env) (s : Shared) (H : Hp) (E : XK) (hr : Room 0 (A.deeper (envOfC "is_whole" (defScope s_is_whole) s.heap.objs.size A0.f_is_whole cdv))) :
    XSs ⟨K, mg⟩ (fun _ : Unit => cxOf (L2.CX P w) P w K mg base ["word", "figures", "sign"] "is_whole" (defScope s_is_whole) A0.f_is_whole cdv A outer s H E) (fun cls d _ H => E cls d H) [0] (defBody s_is_whole) g_is_whole :=
  (xss_cons (xs_set (by decide) (fun t h j => ps_set sc_is_whole.nd rfl (by first | exact .inl rfl | exact .inr rfl) (h j) rfl (by first | exact .inl rfl | exact .inr rfl)) (xe_if (xt_cmp (fun _ => op_eqD hr.units) prm_eq (xb_of (xe_slU (fun _ => rfl) (xb_var fun _ => pv 0) (xb_of xe_int))) (xb_of xe_str) (nomark _)) (xe_slL (fun _ => rfl) (xb_var fun _ => pv 0) (xb_of xe_int)) (xe_fz (xb_var fun _ => pv 0)))) (xss_cons (xs_if (xt_w (xw_or (xt_not (xt_ch (fun _ => op_le) (fun _ => op_le) prm_i prm_i (xb_of xe_int) (xb_of (xe_callB (fun _ => call_lenB) prm_lenA (fun _ => rfl) (fun _ => Ev.z_len) (by decide +kernel) (xbs_cons (xb_var fun _ => pv 1) xbs_nil (fun _ => rfl)) (by decide) rfl (fun _ => rfl) (fun _ => rfl))) (xb_of (xe_glob (v := .int 10) (fun _ => rfl) (fun _ => Ev.c_MOST_FIGURES) ⟨_, rfl⟩ (fun _ => .int _) rfl)) rfl)) (xw_or1 (xt_not (xt_val (xe_callB (fun _ => cr_all rfl) prm_all (fun _ => rfl) (fun _ => Ev.z_all) (by decide +kernel) (xbs_cons (xb_of (xe_lc0 (own := [("sign", 2)]) (N := 3) (fun _ => rfl) (fun _ => sc_is_whole.nd) (xi_str (xb_var fun _ => pv 1)) (fun _ => blkB_ok rfl) (xg_name (by decide) (fun _ => pg_name sc_is_whole.nd rfl (by first | exact .inl rfl | exact .inr rfl) (by first | exact .inl rfl | exact .inr rfl))) (xb_of (xe_cmp (fun _ => op_inS) prm_inS (xb_var fun _ => pv 2) (xb_of (xe_glob (v := .str "0123456789") (fun _ => rfl) (fun _ => Ev.c_DIGITS) ⟨_, rfl⟩ (fun _ => .str _) rfl)) rfl)) (fun _ _ => rfl))) xbs_nil (fun _ => rfl)) (by decide) rfl (fun _ => rfl) (fun _ => rfl)) (fun _ _ => rfl)))))) (xss_one (xs_ret xe_bool)) xss_nil) (xss_one (xs_ret (xe_or (xe_cmp (fun _ => op_eqD hr.units) prm_eq (xb_var fun _ => pv 0) (xb_of xe_str) (nomark _)) (xe_one (xe_cmp (fun _ => op_neD hr.units) prm_ne (xb_of (xe_ix (fun _ => ix_seq) prm_ix (xb_var fun _ => pv 1) (xb_of xe_int) (fun _ _ => rfl))) (xb_of xe_str) (nomark _))))))))
theorem o_is_whole (Ev : Evd P w K mg base A0) (h : ∀ cs o, m_is_whole cs = some o → ∃ n out, g_is_whole n (startR 3 cs) = some out ∧ fin [true] out = some o) : FnOk P w K mg base (L2.CX P w) 1 A0.f_is_whole A0.d_is_whole ["word"] (spM ⟨K, mg⟩ 1 m_is_whole) :=
  def_ok (fl := [true]) (Pk := [0]) Ev.F_is_whole sc_is_whole rfl (flB_ok rfl) (by decide) (fun cdv A outer s H E hr => w_is_whole Ev cdv A outer s H E hr) h
theorem w_poly_in (Ev : Evd P w K mg base A0) (k_is_whole : FnOk P w K mg base (L2.CX P w) 1 A0.f_is_whole A0.d_is_whole ["word"] (spM ⟨K, mg⟩ 1 m_is_whole)) (cdv : Value) (A : Around) (outer : List Env) (s : Shared) (H : Hp) (E : XK) (hr : Room 2 (A.deeper (envOfC "poly_in" (defScope s_poly_in) s.heap.objs.size A0.f_poly_in cdv))) :
    XSs ⟨K, mg⟩ (fun _ : Unit => cxOf (L2.CX P w) P w K mg base ["words", "line", "found", "at", "word"] "poly_in" (defScope s_poly_in) A0.f_poly_in cdv A outer s H E) (fun cls d _ H => E cls d H) [0, 1] (defBody s_poly_in) g_poly_in :=
  (xss_cons (xs_if (xt_cmp (fun _ => op_neD hr.units) prm_ne (xb_of (xe_slU (fun _ => rfl) (xb_var fun _ => pv 0) (xb_of xe_int))) (xb_of (xe_lst (xbs_cons (xb_of (xe_glob (v := .str "poly") (fun _ => rfl) (fun _ => Ev.c_POLY) ⟨_, rfl⟩ (fun _ => .str _) rfl)) xbs_nil (fun _ => rfl)))) (nomark _)) (xss_one (xs_raiseI (fun _ => rfl) (fun _ => rfl) (fun _ => rfl) (fun _ => takes_of rfl rfl rfl rfl) (fun _ => Ev.i_BadLine) (fun _ => hr.mono (by decide)) Ev.m_BadLine (fun _ => rfl) rfl (xbs_cons (xb_var fun _ => pv 1) (xbs_cons (xb_of xe_int) xbs_nil (fun _ => rfl)) (fun _ => rfl)) (fun _ => rfl) (fun _ => rfl))) xss_nil) (xss_cons (xs_set (by decide) (fun t h j => ps_set sc_poly_in.nd rfl (by first | exact .inl rfl | exact .inr rfl) (h j) rfl (by first | exact .inl rfl | exact .inr rfl)) (xe_lst xbs_nil)) (xss_cons (xs_for (fun _ => passes_of (K := fun e s'' => L2.CX P w outer H s E e s'') (E₁ := fun e' s'' => L2.CX P w outer H s E e' s'') rfl) (fun _ => rfl) (xi_enum (fun _ => rfl) (fun _ => rfl) (fun _ => Ev.z_enumerate) (xb_of (xe_slL (fun _ => rfl) (xb_var fun _ => pv 0) (xb_of xe_int))) (fun _ => rfl)) (xg_tup (fun _ => rfl) (fun _ => rfl) (xgs_cons (xg_name (by decide) (fun _ => pg_name sc_poly_in.nd rfl (by first | exact .inl rfl | exact .inr rfl) (by first | exact .inl rfl | exact .inr rfl))) (xgs_cons (xg_name (by decide) (fun _ => pg_name sc_poly_in.nd rfl (by first | exact .inl rfl | exact .inr rfl) (by first | exact .inl rfl | exact .inr rfl))) xgs_nil (fun _ => rfl)) (fun _ => rfl)) (fun _ => rfl) (fun _ => rfl)) (xss_cons (xs_if (xt_w (xw_or (xt_cmp (fun _ => op_eqD hr.units) prm_eq (xb_var fun _ => pv 3) (xb_of (xe_glob (v := .int 13) (fun _ => rfl) (fun _ => Ev.c_MOST_TERMS) ⟨_, rfl⟩ (fun _ => .int _) rfl)) (nomark _)) (xw_or (xt_not (xt_val (xe_call (fun _ => k_is_whole) (fun _ => hr.mono (by decide)) (fun _ => rfl) (fun _ => Ev.m_is_whole) (fun _ => Ev.F_is_whole.kp) (fun _ => Ev.b_is_whole) (fun _ => takes_of rfl rfl rfl rfl) (xbs_cons (xb_var fun _ => pv 4) xbs_nil (fun _ => rfl)) (len_cons (fun _ _ _ _ => len_nil)) rfl (fun _ => rfl) (fun _ => rfl)) (fun _ _ => rfl))) (xw_or1 (xt_cmp (fun _ => op_gt) prm_i (xb_of (xe_callB (fun _ => call_abs) prm_abs (fun _ => rfl) (fun _ => Ev.z_abs) (by decide +kernel) (xbs_cons (xb_of (xe_callTy (fun _ => call_intA) prm_intA (fun _ => rfl) (fun _ => Ev.z_int) (by decide +kernel) (xbs_cons (xb_var fun _ => pv 4) xbs_nil (fun _ => rfl)) (by decide) rfl (fun _ => rfl) (fun _ => rfl))) xbs_nil (fun _ => rfl)) (by decide) rfl (fun _ => rfl) (fun _ => rfl))) (xb_of (xe_glob (v := .int 1000000000) (fun _ => rfl) (fun _ => Ev.c_FAR) ⟨_, rfl⟩ (fun _ => .int _) rfl)) (nomark _)))))) (xss_one (xs_raiseI (fun _ => rfl) (fun _ => rfl) (fun _ => rfl) (fun _ => takes_of rfl rfl rfl rfl) (fun _ => Ev.i_BadLine) (fun _ => hr.mono (by decide)) Ev.m_BadLine (fun _ => rfl) rfl (xbs_cons (xb_var fun _ => pv 1) (xbs_cons (xb_of (xe_bin (fun _ => op_addA) prm_add (xb_var fun _ => pv 3) (xb_of xe_int))) xbs_nil (fun _ => rfl)) (fun _ => rfl)) (fun _ => rfl) (fun _ => rfl))) xss_nil) (xss_one (xs_expr (xb_of (xe_mth (fun _ => rfl) (fun t h j => pe_bm PySem.F.plainAttrs_list PySem.F.slot_list_append PySem.F.type_list_append mt_append (pv 2) (h j)) sm_app (xbs_cons (xb_of (xe_callTy (fun _ => call_intA) prm_intA (fun _ => rfl) (fun _ => Ev.z_int) (by decide +kernel) (xbs_cons (xb_var fun _ => pv 4) xbs_nil (fun _ => rfl)) (by decide) rfl (fun _ => rfl) (fun _ => rfl))) xbs_nil (fun _ => rfl)))) (fun _ => rfl)))) (fun _ _ => rfl)) (xss_cons (xs_if (xt_w (xw_and (xt_cmp (fun _ => op_neD hr.units) prm_ne (xb_var fun _ => pv 2) (xb_of (xe_lst xbs_nil)) (nomark _)) (xw_and1 (xt_cmp (fun _ => op_eqD hr.units) prm_eq (xb_of (xe_ix (fun _ => ix_seq) prm_ix (xb_var fun _ => pv 2) (xb_of (xe_un (fun _ => un_neg) prm_neg (xb_of xe_int))) (fun _ _ => rfl))) (xb_of xe_int) (nomark _))))) (xss_one (xs_raiseI (fun _ => rfl) (fun _ => rfl) (fun _ => rfl) (fun _ => takes_of rfl rfl rfl rfl) (fun _ => Ev.i_BadLine) (fun _ => hr.mono (by decide)) Ev.m_BadLine (fun _ => rfl) rfl (xbs_cons (xb_var fun _ => pv 1) (xbs_cons (xb_of (xe_callB (fun _ => call_lenB) prm_lenA (fun _ => rfl) (fun _ => Ev.z_len) (by decide +kernel) (xbs_cons (xb_var fun _ => pv 0) xbs_nil (fun _ => rfl)) (by decide) rfl (fun _ => rfl) (fun _ => rfl))) xbs_nil (fun _ => rfl)) (fun _ => rfl)) (fun _ => rfl) (fun _ => rfl))) xss_nil) (xss_one (xs_ret (xe_callTy (fun _ => call_tuple_of) prm_tuple (fun _ => rfl) (fun _ => Ev.z_tuple) (by decide +kernel) (xbs_cons (xb_var fun _ => pv 2) xbs_nil (fun _ => rfl)) (by decide) rfl (fun _ => rfl) (fun _ => rfl))))))))
theorem o_poly_in (Ev : Evd P w K mg base A0) (k_is_whole : FnOk P w K mg base (L2.CX P w) 1 A0.f_is_whole A0.d_is_whole ["word"] (spM ⟨K, mg⟩ 1 m_is_whole)) (h : ∀ cs o, m_poly_in cs = some o → ∃ n out, g_poly_in n (startR 5 cs) = some out ∧ fin [true, true] out = some o) : FnOk P w K mg base (L2.CX P w) 3 A0.f_poly_in A0.d_poly_in ["words", "line"] (spM ⟨K, mg⟩ 2 m_poly_in) :=
  def_ok (fl := [true, true]) (Pk := [0, 1]) Ev.F_poly_in sc_poly_in rfl (flB_ok rfl) (by decide) (fun cdv A outer s H E hr => w_poly_in Ev k_is_whole cdv A outer s H E hr) h
theorem w_read (Ev : Evd P w K mg base A0) (k_poly_in : FnOk P w K mg base (L2.CX P w) 3 A0.f_poly_in A0.d_poly_in ["words", "line"] (spM ⟨K, mg⟩ 2 m_poly_in)) (cdv : Value) (A : Around) (outer : List Env) (s : Shared) (H : Hp) (E : XK) (hr : Room 3 (A.deeper (envOfC "read" (defScope s_read) s.heap.objs.size A0.f_read cdv))) :
    XSs ⟨K, mg⟩ (fun _ : Unit => cxOf (L2.CX P w) P w K mg base ["text", "lines", "line", "word", "one", "other"] "read" (defScope s_read) A0.f_read cdv A outer s H E) (fun cls d _ H => E cls d H) [0] (defBody s_read) g_read :=
  (xss_cons (xs_setLc0 (own := [("line", 2)]) (N := 6) (by decide) (fun _ => rfl) (fun _ => sc_read.nd) (fun _ => rfl) (fun _ => rfl) (fun _ => rfl) (xi_seq (fun _ => rfl) (xb_of (xe_mvS (fun _ => rfl) (fun to t a h j => pe_bm PySem.F.plainAttrs_str PySem.F.slot_str_split PySem.F.type_str_split mt_split (a j) (h j)) smv_split (xb_var fun _ => pv 0) (xbs_cons (xb_of xe_str) xbs_nil (fun _ => rfl))))) (fun _ => blkB_ok rfl) (xg_name (by decide) (fun _ => pg_name sc_read.nd rfl (by first | exact .inl rfl | exact .inr rfl) (by first | exact .inl rfl | exact .inr rfl))) (xb_of (xe_lc1 (own := [("word", 3)]) (N := 6) (fun _ => rfl) (fun _ => sc_read.nd) (xi_seq (fun _ => rfl) (xb_of (xe_mvS (fun _ => rfl) (fun to t a h j => pe_bm PySem.F.plainAttrs_str PySem.F.slot_str_split PySem.F.type_str_split mt_split (a j) (h j)) smv_split (xb_var fun _ => pv 2) (xbs_cons (xb_of xe_str) xbs_nil (fun _ => rfl))))) (fun _ => blkB_ok rfl) (xg_name (by decide) (fun _ => pg_name sc_read.nd rfl (by first | exact .inl rfl | exact .inr rfl) (by first | exact .inl rfl | exact .inr rfl))) (xt_cmp (fun _ => op_neD hr.units) prm_ne (xb_var fun _ => pv 3) (xb_of xe_str) (nomark _)) (xb_var fun _ => pv 3) (fun _ _ => rfl))) (fun _ _ => rfl)) (xss_cons (xs_set (by decide) (fun t h j => ps_set sc_read.nd rfl (by first | exact .inl rfl | exact .inr rfl) (h j) rfl (by first | exact .inl rfl | exact .inr rfl)) (xe_call (fun _ => k_poly_in) (fun _ => hr.mono (by decide)) (fun _ => rfl) (fun _ => Ev.m_poly_in) (fun _ => Ev.F_poly_in.kp) (fun _ => Ev.b_poly_in) (fun _ => takes_of rfl rfl rfl rfl) (xbs_cons (xb_of (xe_ix (fun _ => ix_seq) prm_ix (xb_var fun _ => pv 1) (xb_of xe_int) (fun _ _ => rfl))) (xbs_cons (xb_of xe_int) xbs_nil (fun _ => rfl)) (fun _ => rfl)) (len_cons (len_cons (fun _ _ _ _ => len_nil))) rfl (fun _ => rfl) (fun _ => rfl))) (xss_cons (xs_if (xt_cmp (fun _ => op_lt) prm_i (xb_of (xe_callB (fun _ => call_lenB) prm_lenA (fun _ => rfl) (fun _ => Ev.z_len) (by decide +kernel) (xbs_cons (xb_var fun _ => pv 1) xbs_nil (fun _ => rfl)) (by decide) rfl (fun _ => rfl) (fun _ => rfl))) (xb_of xe_int) (nomark _)) (xss_one (xs_raiseI (fun _ => rfl) (fun _ => rfl) (fun _ => rfl) (fun _ => takes_of rfl rfl rfl rfl) (fun _ => Ev.i_BadLine) (fun _ => hr.mono (by decide)) Ev.m_BadLine (fun _ => rfl) rfl (xbs_cons (xb_of xe_int) (xbs_cons (xb_of xe_int) xbs_nil (fun _ => rfl)) (fun _ => rfl)) (fun _ => rfl) (fun _ => rfl))) xss_nil) (xss_cons (xs_set (by decide) (fun t h j => ps_set sc_read.nd rfl (by first | exact .inl rfl | exact .inr rfl) (h j) rfl (by first | exact .inl rfl | exact .inr rfl)) (xe_call (fun _ => k_poly_in) (fun _ => hr.mono (by decide)) (fun _ => rfl) (fun _ => Ev.m_poly_in) (fun _ => Ev.F_poly_in.kp) (fun _ => Ev.b_poly_in) (fun _ => takes_of rfl rfl rfl rfl) (xbs_cons (xb_of (xe_ix (fun _ => ix_seq) prm_ix (xb_var fun _ => pv 1) (xb_of xe_int) (fun _ _ => rfl))) (xbs_cons (xb_of xe_int) xbs_nil (fun _ => rfl)) (fun _ => rfl)) (len_cons (len_cons (fun _ _ _ _ => len_nil))) rfl (fun _ => rfl) (fun _ => rfl))) (xss_cons (xs_if (xt_cmp (fun _ => op_gt) prm_i (xb_of (xe_callB (fun _ => call_lenB) prm_lenA (fun _ => rfl) (fun _ => Ev.z_len) (by decide +kernel) (xbs_cons (xb_var fun _ => pv 1) xbs_nil (fun _ => rfl)) (by decide) rfl (fun _ => rfl) (fun _ => rfl))) (xb_of xe_int) (nomark _)) (xss_one (xs_raiseI (fun _ => rfl) (fun _ => rfl) (fun _ => rfl) (fun _ => takes_of rfl rfl rfl rfl) (fun _ => Ev.i_BadLine) (fun _ => hr.mono (by decide)) Ev.m_BadLine (fun _ => rfl) rfl (xbs_cons (xb_of xe_int) (xbs_cons (xb_of xe_int) xbs_nil (fun _ => rfl)) (fun _ => rfl)) (fun _ => rfl) (fun _ => rfl))) xss_nil) (xss_one (xs_ret (xe_tup (xbs_cons (xb_var fun _ => pv 4) (xbs_cons (xb_var fun _ => pv 5) xbs_nil (fun _ => rfl)) (fun _ => rfl))))))))))
theorem o_read (Ev : Evd P w K mg base A0) (k_poly_in : FnOk P w K mg base (L2.CX P w) 3 A0.f_poly_in A0.d_poly_in ["words", "line"] (spM ⟨K, mg⟩ 2 m_poly_in)) (h : ∀ cs o, m_read cs = some o → ∃ n out, g_read n (startR 6 cs) = some out ∧ fin [true] out = some o) : FnOk P w K mg base (L2.CX P w) 4 A0.f_read A0.d_read ["text"] (spM ⟨K, mg⟩ 1 m_read) :=
  def_ok (fl := [true]) (Pk := [0]) Ev.F_read sc_read rfl (flB_ok rfl) (by decide) (fun cdv A outer s H E hr => w_read Ev k_poly_in cdv A outer s H E hr) h
theorem w__law_draws (Ev : Evd P w K mg base A0) (cdv : Value) (A : Around) (outer : List Env) (s : Shared) (H : Hp) (E : XK) (hr : Room 0 (A.deeper (envOfC "_law_draws" (defScope s__law_draws) s.heap.objs.size A0.f__law_draws cdv))) :
    XSs ⟨K, mg⟩ (fun _ : Unit => cxOf (L2.CX P w) P w K mg base ["_law_script"] "_law_draws" (defScope s__law_draws) A0.f__law_draws cdv A outer s H E) (fun cls d _ H => E cls d H) [0] (defBody s__law_draws) g__law_draws :=
  (xss_one (xs_ret (xe_lst (xbs_cons (xb_of (xe_callTy (fun _ => call_list_of) prm_list (fun _ => rfl) (fun _ => Ev.z_list) (by decide +kernel) (xbs_cons (xb_var fun _ => pv 0) xbs_nil (fun _ => rfl)) (by decide) rfl (fun _ => rfl) (fun _ => rfl))) (xbs_cons (xb_of xe_int) (xbs_cons (xb_of xe_int) (xbs_cons (xb_of xe_int) xbs_nil (fun _ => rfl)) (fun _ => rfl)) (fun _ => rfl)) (fun _ => rfl)))))
theorem o__law_draws (Ev : Evd P w K mg base A0) (h : ∀ cs o, m__law_draws cs = some o → ∃ n out, g__law_draws n (startR 1 cs) = some out ∧ fin [true] out = some o) : FnOk P w K mg base (L2.CX P w) 1 A0.f__law_draws A0.d__law_draws ["_law_script"] (spM ⟨K, mg⟩ 1 m__law_draws) :=
  def_ok (fl := [true]) (Pk := [0]) Ev.F__law_draws sc__law_draws rfl (flB_ok rfl) (by decide) (fun cdv A outer s H E hr => w__law_draws Ev cdv A outer s H E hr) h
theorem w__law_pick (Ev : Evd P w K mg base A0) (cdv : Value) (A : Around) (outer : List Env) (s : Shared) (H : Hp) (E : XK) (hr : Room 0 (A.deeper (envOfC "_law_pick" (defScope s__law_pick) s.heap.objs.size A0.f__law_pick cdv))) :
    XSs ⟨K, mg⟩ (fun _ : Unit => cxOf (L2.CX P w) P w K mg base ["_law_row", "_law_many", "_law_cell", "_law_found"] "_law_pick" (defScope s__law_pick) A0.f__law_pick cdv A outer s H E) (fun cls d _ H => E cls d H) [0, 1] (defBody s__law_pick) g__law_pick :=
  (xss_cons (xs_if (xt_cmp (fun _ => op_eqD hr.units) prm_eq (xb_of (xe_ix (fun _ => ix_seq) prm_ix (xb_var fun _ => pv 0) (xb_of xe_int) (fun _ _ => rfl))) (xb_of xe_int) (nomark _)) (xss_one (xs_if (xt_cmp (fun _ => op_lt) prm_i (xb_of (xe_ix (fun _ => ix_seq) prm_ix (xb_var fun _ => pv 0) (xb_of xe_int) (fun _ _ => rfl))) (xb_of (xe_callB (fun _ => call_lenB) prm_lenA (fun _ => rfl) (fun _ => Ev.z_len) (by decide +kernel) (xbs_cons (xb_of (xe_ix (fun _ => ix_seq) prm_ix (xb_var fun _ => pv 0) (xb_of xe_int) (fun _ _ => rfl))) xbs_nil (fun _ => rfl)) (by decide) rfl (fun _ => rfl) (fun _ => rfl))) (nomark _)) (xss_cons (xs_set (by decide) (fun t h j => ps_set sc__law_pick.nd rfl (by first | exact .inl rfl | exact .inr rfl) (h j) rfl (by first | exact .inl rfl | exact .inr rfl)) (xe_ix (fun _ => ix_seq) prm_ix (xb_of (xe_ix (fun _ => ix_seq) prm_ix (xb_var fun _ => pv 0) (xb_of xe_int) (fun _ _ => rfl))) (xb_of (xe_ix (fun _ => ix_seq) prm_ix (xb_var fun _ => pv 0) (xb_of xe_int) (fun _ _ => rfl))) (fun _ _ => rfl))) (xss_cons (xs_setIx (fun _ => pv 0) (xb_of xe_int) (xb_of (xe_bin (fun _ => op_addA) prm_add (xb_of (xe_ix (fun _ => ix_seq) prm_ix (xb_var fun _ => pv 0) (xb_of xe_int) (fun _ _ => rfl))) (xb_of xe_int))) (fun _ => rfl) (fun _ => rfl) (fun _ => rfl) (fun _ _ => rfl)) (xss_one (xs_if (xt_cmp (fun _ => op_ge) prm_i (xb_var fun _ => pv 2) (xb_of (xe_bin (fun _ => op_pow) prm_pow (xb_of xe_int) (xb_of xe_int))) (nomark _)) (xss_one (xs_setIx (fun _ => pv 0) (xb_of xe_int) (xb_var fun _ => pv 2) (fun _ => rfl) (fun _ => rfl) (fun _ => rfl) (fun _ _ => rfl))) (xss_one (xs_setIx (fun _ => pv 0) (xb_of xe_int) (xb_of (xe_bin (fun _ => op_modN) prm_mod (xb_of (xe_callTy (fun _ => call_int1) prm_int (fun _ => rfl) (fun _ => Ev.z_int) (by decide +kernel) (xbs_cons (xb_of (xe_bin (fun _ => op_addA) prm_add (xb_of (xe_bin (fun _ => op_addA) prm_add (xb_of (xe_bin (fun _ => op_mulA) prm_mul (xb_of (xe_ix (fun _ => ix_seq) prm_ix (xb_var fun _ => pv 0) (xb_of xe_int) (fun _ _ => rfl))) (xb_of xe_int))) (xb_of (xe_bin (fun _ => op_mulA) prm_mul (xb_var fun _ => pv 2) (xb_of xe_int))))) (xb_of xe_int))) xbs_nil (fun _ => rfl)) (by decide) rfl (fun _ => rfl) (fun _ => rfl))) (xb_of xe_int))) (fun _ => rfl) (fun _ => rfl) (fun _ => rfl) (fun _ _ => rfl))))))) (xss_one (xs_setIx (fun _ => pv 0) (xb_of xe_int) (xb_of (xe_bin (fun _ => op_modN) prm_mod (xb_of (xe_callTy (fun _ => call_int1) prm_int (fun _ => rfl) (fun _ => Ev.z_int) (by decide +kernel) (xbs_cons (xb_of (xe_bin (fun _ => op_addA) prm_add (xb_of (xe_bin (fun _ => op_mulA) prm_mul (xb_of (xe_ix (fun _ => ix_seq) prm_ix (xb_var fun _ => pv 0) (xb_of xe_int) (fun _ _ => rfl))) (xb_of xe_int))) (xb_of xe_int))) xbs_nil (fun _ => rfl)) (by decide) rfl (fun _ => rfl) (fun _ => rfl))) (xb_of xe_int))) (fun _ => rfl) (fun _ => rfl) (fun _ => rfl) (fun _ _ => rfl))))) xss_nil) (xss_cons (xs_if (xt_cmp (fun _ => op_gt) prm_i (xb_of (xe_ix (fun _ => ix_seq) prm_ix (xb_var fun _ => pv 0) (xb_of xe_int) (fun _ _ => rfl))) (xb_of xe_int) (nomark _)) (xss_cons (xs_set (by decide) (fun t h j => ps_set sc__law_pick.nd rfl (by first | exact .inl rfl | exact .inr rfl) (h j) rfl (by first | exact .inl rfl | exact .inr rfl)) (xe_bin (fun _ => op_modN) prm_mod (xb_of (xe_callTy (fun _ => call_int1) prm_int (fun _ => rfl) (fun _ => Ev.z_int) (by decide +kernel) (xbs_cons (xb_of (xe_ix (fun _ => ix_seq) prm_ix (xb_var fun _ => pv 0) (xb_of xe_int) (fun _ _ => rfl))) xbs_nil (fun _ => rfl)) (by decide) rfl (fun _ => rfl) (fun _ => rfl))) (xb_var fun _ => pv 1))) (xss_cons (xs_setIx (fun _ => pv 0) (xb_of xe_int) (xb_of (xe_bin (fun _ => op_fdivB) prm_fdiv (xb_of (xe_ix (fun _ => ix_seq) prm_ix (xb_var fun _ => pv 0) (xb_of xe_int) (fun _ _ => rfl))) (xb_var fun _ => pv 1))) (fun _ => rfl) (fun _ => rfl) (fun _ => rfl) (fun _ _ => rfl)) (xss_one (xs_ret (xe_mv fun _ => pv 3))))) xss_nil) (xss_one (xs_ret (xe_bin (fun _ => op_modN) prm_mod (xb_of (xe_bin (fun _ => op_modN) prm_mod (xb_of (xe_callTy (fun _ => call_int1) prm_int (fun _ => rfl) (fun _ => Ev.z_int) (by decide +kernel) (xbs_cons (xb_of (xe_bin (fun _ => op_mulA) prm_mul (xb_of (xe_ix (fun _ => ix_seq) prm_ix (xb_var fun _ => pv 0) (xb_of xe_int) (fun _ _ => rfl))) (xb_of xe_int))) xbs_nil (fun _ => rfl)) (by decide) rfl (fun _ => rfl) (fun _ => rfl))) (xb_of xe_int))) (xb_var fun _ => pv 1))))))
theorem o__law_pick (Ev : Evd P w K mg base A0) (h : ∀ cs o, m__law_pick cs = some o → ∃ n out, g__law_pick n (startR 4 cs) = some out ∧ fin [true, true] out = some o) : FnOk P w K mg base (L2.CX P w) 1 A0.f__law_pick A0.d__law_pick ["_law_row", "_law_many"] (spM ⟨K, mg⟩ 2 m__law_pick) :=
  def_ok (fl := [true, true]) (Pk := [0, 1]) Ev.F__law_pick sc__law_pick rfl (flB_ok rfl) (by decide) (fun cdv A outer s H E hr => w__law_pick Ev cdv A outer s H E hr) h
theorem w__law_end (Ev : Evd P w K mg base A0) (cdv : Value) (A : Around) (outer : List Env) (s : Shared) (H : Hp) (E : XK) (hr : Room 0 (A.deeper (envOfC "_law_end" (defScope s__law_end) s.heap.objs.size A0.f__law_end cdv))) :
    XSs ⟨K, mg⟩ (fun _ : Unit => cxOf (L2.CX P w) P w K mg base ["_law_numbers", "_law_found", "_law_k"] "_law_end" (defScope s__law_end) A0.f__law_end cdv A outer s H E) (fun cls d _ H => E cls d H) [0] (defBody s__law_end) g__law_end :=
  (xss_cons (xs_set (by decide) (fun t h j => ps_set sc__law_end.nd rfl (by first | exact .inl rfl | exact .inr rfl) (h j) rfl (by first | exact .inl rfl | exact .inr rfl)) (xe_callTy (fun _ => call_list_of) prm_list (fun _ => rfl) (fun _ => Ev.z_list) (by decide +kernel) (xbs_cons (xb_var fun _ => pv 0) xbs_nil (fun _ => rfl)) (by decide) rfl (fun _ => rfl) (fun _ => rfl))) (xss_cons (xs_for (fun _ => passes_of (K := fun e s'' => L2.CX P w outer H s E e s'') (E₁ := fun e' s'' => L2.CX P w outer H s E e' s'') rfl) (fun _ => rfl) (xi_rng1 (fun _ => rfl) (fun _ => Ev.z_range) (xb_of (xe_callB (fun _ => call_lenB) prm_lenA (fun _ => rfl) (fun _ => Ev.z_len) (by decide +kernel) (xbs_cons (xb_var fun _ => pv 0) xbs_nil (fun _ => rfl)) (by decide) rfl (fun _ => rfl) (fun _ => rfl))) (fun _ => rfl)) (xg_name (by decide) (fun _ => pg_name sc__law_end.nd rfl (by first | exact .inl rfl | exact .inr rfl) (by first | exact .inl rfl | exact .inr rfl))) (xss_cons (xs_if (xt_cmp (fun _ => op_eqD hr.units) prm_eq (xb_of (xe_ix (fun _ => ix_seq) prm_ix (xb_var fun _ => pv 1) (xb_of (xe_un (fun _ => un_neg) prm_neg (xb_of xe_int))) (fun _ _ => rfl))) (xb_of xe_int) (nomark _)) (xss_one (xs_set (by decide) (fun t h j => ps_set sc__law_end.nd rfl (by first | exact .inl rfl | exact .inr rfl) (h j) rfl (by first | exact .inl rfl | exact .inr rfl)) (xe_slU (fun _ => rfl) (xb_var fun _ => pv 1) (xb_of (xe_un (fun _ => un_neg) prm_neg (xb_of xe_int)))))) xss_nil) (xss_one (xs_if (xt_cmp (fun _ => op_eqD hr.units) prm_eq (xb_var fun _ => pv 1) (xb_of (xe_lst xbs_nil)) (nomark _)) (xss_one (xs_ret (xe_tup xbs_nil))) xss_nil))) (fun _ _ => rfl)) (xss_one (xs_ret (xe_callTy (fun _ => call_tuple_of) prm_tuple (fun _ => rfl) (fun _ => Ev.z_tuple) (by decide +kernel) (xbs_cons (xb_var fun _ => pv 1) xbs_nil (fun _ => rfl)) (by decide) rfl (fun _ => rfl) (fun _ => rfl))))))
theorem o__law_end (Ev : Evd P w K mg base A0) (h : ∀ cs o, m__law_end cs = some o → ∃ n out, g__law_end n (startR 3 cs) = some out ∧ fin [true] out = some o) : FnOk P w K mg base (L2.CX P w) 1 A0.f__law_end A0.d__law_end ["_law_numbers"] (spM ⟨K, mg⟩ 1 m__law_end) :=
  def_ok (fl := [true]) (Pk := [0]) Ev.F__law_end sc__law_end rfl (flB_ok rfl) (by decide) (fun cdv A outer s H E hr => w__law_end Ev cdv A outer s H E hr) h
theorem w__law_poly (Ev : Evd P w K mg base A0) (k__law_pick : FnOk P w K mg base (L2.CX P w) 1 A0.f__law_pick A0.d__law_pick ["_law_row", "_law_many"] (spM ⟨K, mg⟩ 2 m__law_pick)) (k__law_end : FnOk P w K mg base (L2.CX P w) 1 A0.f__law_end A0.d__law_end ["_law_numbers"] (spM ⟨K, mg⟩ 1 m__law_end)) (cdv : Value) (A : Around) (outer : List Env) (s : Shared) (H : Hp) (E : XK) (hr : Room 1 (A.deeper (envOfC "_law_poly" (defScope s__law_poly) s.heap.objs.size A0.f__law_poly cdv))) :
    XSs ⟨K, mg⟩ (fun _ : Unit => cxOf (L2.CX P w) P w K mg base ["_law_row", "_law_most", "_law_wide", "_law_k"] "_law_poly" (defScope s__law_poly) A0.f__law_poly cdv A outer s H E) (fun cls d _ H => E cls d H) [0, 1] (defBody s__law_poly) g__law_poly :=
  (xss_cons (xs_set (by decide) (fun t h j => ps_set sc__law_poly.nd rfl (by first | exact .inl rfl | exact .inr rfl) (h j) rfl (by first | exact .inl rfl | exact .inr rfl)) (xe_ix (fun _ => ix_seq) prm_ix (xb_of (xe_lst (xbs_cons (xb_of xe_int) (xbs_cons (xb_of xe_int) (xbs_cons (xb_of xe_int) xbs_nil (fun _ => rfl)) (fun _ => rfl)) (fun _ => rfl)))) (xb_of (xe_callB (fun _ => call_min2 rfl) prm_min2 (fun _ => rfl) (fun _ => Ev.z_min) (by decide +kernel) (xbs_cons (xb_of xe_int) (xbs_cons (xb_of (xe_bin (fun _ => op_fdivB) prm_fdiv (xb_of (xe_call (fun _ => k__law_pick) (fun _ => hr.mono (by decide)) (fun _ => rfl) (fun _ => Ev.m__law_pick) (fun _ => Ev.F__law_pick.kp) (fun _ => Ev.b__law_pick) (fun _ => takes_of rfl rfl rfl rfl) (xbs_cons (xb_var fun _ => pv 0) (xbs_cons (xb_of xe_int) xbs_nil (fun _ => rfl)) (fun _ => rfl)) (len_cons (len_cons (fun _ _ _ _ => len_nil))) rfl (fun _ => rfl) (fun _ => rfl))) (xb_of xe_int))) xbs_nil (fun _ => rfl)) (fun _ => rfl)) (by decide) rfl (fun _ => rfl) (fun _ => rfl))) (fun _ _ => rfl))) (xss_one (xs_ret (xe_call (fun _ => k__law_end) (fun _ => hr.mono (by decide)) (fun _ => rfl) (fun _ => Ev.m__law_end) (fun _ => Ev.F__law_end.kp) (fun _ => Ev.b__law_end) (fun _ => takes_of rfl rfl rfl rfl) (xbs_cons (xb_of (xe_lc0 (own := [("_law_k", 3)]) (N := 4) (fun _ => rfl) (fun _ => sc__law_poly.nd) (xi_rng1 (fun _ => rfl) (fun _ => Ev.z_range) (xb_of (xe_call (fun _ => k__law_pick) (fun _ => hr.mono (by decide)) (fun _ => rfl) (fun _ => Ev.m__law_pick) (fun _ => Ev.F__law_pick.kp) (fun _ => Ev.b__law_pick) (fun _ => takes_of rfl rfl rfl rfl) (xbs_cons (xb_var fun _ => pv 0) (xbs_cons (xb_of (xe_bin (fun _ => op_addA) prm_add (xb_var fun _ => pv 1) (xb_of xe_int))) xbs_nil (fun _ => rfl)) (fun _ => rfl)) (len_cons (len_cons (fun _ _ _ _ => len_nil))) rfl (fun _ => rfl) (fun _ => rfl))) (fun _ => rfl)) (fun _ => blkB_ok rfl) (xg_name (by decide) (fun _ => pg_name sc__law_poly.nd rfl (by first | exact .inl rfl | exact .inr rfl) (by first | exact .inl rfl | exact .inr rfl))) (xb_of (xe_bin (fun _ => op_sub) prm_sub (xb_of (xe_call (fun _ => k__law_pick) (fun _ => hr.mono (by decide)) (fun _ => rfl) (fun _ => Ev.m__law_pick) (fun _ => Ev.F__law_pick.kp) (fun _ => Ev.b__law_pick) (fun _ => takes0) (xbs_cons (xb_var fun _ => pv 0) (xbs_cons (xb_var fun _ => pv 2) xbs_nil (fun _ => rfl)) (fun _ => rfl)) (len_cons (len_cons (fun _ _ _ _ => len_nil))) rfl (fun _ => rfl) (fun _ => rfl))) (xb_of (xe_bin (fun _ => op_fdivB) prm_fdiv (xb_var fun _ => pv 2) (xb_of xe_int))))) (fun _ _ => rfl))) xbs_nil (fun _ => rfl)) (len_cons (fun _ _ _ _ => len_nil)) rfl (fun _ => rfl) (fun _ => rfl)))))
theorem o__law_poly (Ev : Evd P w K mg base A0) (k__law_pick : FnOk P w K mg base (L2.CX P w) 1 A0.f__law_pick A0.d__law_pick ["_law_row", "_law_many"] (spM ⟨K, mg⟩ 2 m__law_pick)) (k__law_end : FnOk P w K mg base (L2.CX P w) 1 A0.f__law_end A0.d__law_end ["_law_numbers"] (spM ⟨K, mg⟩ 1 m__law_end)) (h : ∀ cs o, m__law_poly cs = some o → ∃ n out, g__law_poly n (startR 4 cs) = some out ∧ fin [true, true] out = some o) : FnOk P w K mg base (L2.CX P w) 2 A0.f__law_poly A0.d__law_poly ["_law_row", "_law_most"] (spM ⟨K, mg⟩ 2 m__law_poly) :=
  def_ok (fl := [true, true]) (Pk := [0, 1]) Ev.F__law_poly sc__law_poly rfl (flB_ok rfl) (by decide) (fun cdv A outer s H E hr => w__law_poly Ev k__law_pick k__law_end cdv A outer s H E hr) h
theorem w__law_fault (Ev : Evd P w K mg base A0) (cdv : Value) (A : Around) (outer : List Env) (s : Shared) (H : Hp) (E : XK) (hr : Room 0 (A.deeper (envOfC "_law_fault" (defScope s__law_fault) s.heap.objs.size A0.f__law_fault cdv))) :
    XSs ⟨K, mg⟩ (fun _ : Unit => cxOf (L2.CX P w) P w K mg base ["_law_words", "_law_k", "_law_figures", "_law_good", "_law_sign"] "_law_fault" (defScope s__law_fault) A0.f__law_fault cdv A outer s H E) (fun cls d _ H => E cls d H) [0] (defBody s__law_fault) g__law_fault :=
  (xss_cons (xs_if (xt_w (xw_or (xt_cmp (fun _ => op_eqD hr.units) prm_eq (xb_var fun _ => pv 0) (xb_of (xe_lst xbs_nil)) (nomark _)) (xw_or1 (xt_cmp (fun _ => op_neD hr.units) prm_ne (xb_of (xe_ix (fun _ => ix_seq) prm_ix (xb_var fun _ => pv 0) (xb_of xe_int) (fun _ _ => rfl))) (xb_of xe_str) (nomark _))))) (xss_one (xs_ret xe_int)) xss_nil) (xss_cons (xs_for (fun _ => passes_of (K := fun e s'' => L2.CX P w outer H s E e s'') (E₁ := fun e' s'' => L2.CX P w outer H s E e' s'') rfl) (fun _ => rfl) (xi_rng2 (fun _ => rfl) (fun _ => Ev.z_range) (xb_of xe_int) (xb_of (xe_callB (fun _ => call_lenB) prm_lenA (fun _ => rfl) (fun _ => Ev.z_len) (by decide +kernel) (xbs_cons (xb_var fun _ => pv 0) xbs_nil (fun _ => rfl)) (by decide) rfl (fun _ => rfl) (fun _ => rfl))) (fun _ => rfl) (fun _ => rfl)) (xg_name (by decide) (fun _ => pg_name sc__law_fault.nd rfl (by first | exact .inl rfl | exact .inr rfl) (by first | exact .inl rfl | exact .inr rfl))) (xss_cons (xs_set (by decide) (fun t h j => ps_set sc__law_fault.nd rfl (by first | exact .inl rfl | exact .inr rfl) (h j) rfl (by first | exact .inl rfl | exact .inr rfl)) (xe_if (xt_cmp (fun _ => op_eqD hr.units) prm_eq (xb_of (xe_ix (fun _ => ix_seq) prm_ix (xb_of (xe_ix (fun _ => ix_seq) prm_ix (xb_var fun _ => pv 0) (xb_var fun _ => pv 1) (fun _ _ => rfl))) (xb_of xe_int) (fun _ _ => rfl))) (xb_of xe_str) (nomark _)) (xe_slL (fun _ => rfl) (xb_of (xe_ix (fun _ => ix_seq) prm_ix (xb_var fun _ => pv 0) (xb_var fun _ => pv 1) (fun _ _ => rfl))) (xb_of xe_int)) (xe_ix (fun _ => ix_seq) prm_ix (xb_var fun _ => pv 0) (xb_var fun _ => pv 1) (fun _ _ => rfl)))) (xss_cons (xs_set (by decide) (fun t h j => ps_set sc__law_fault.nd rfl (by first | exact .inl rfl | exact .inr rfl) (h j) rfl (by first | exact .inl rfl | exact .inr rfl)) (xe_and (xe_cmp (fun _ => op_neD hr.units) prm_ne (xb_var fun _ => pv 2) (xb_of xe_str) (nomark _)) (xe_and (xe_callB (fun _ => cr_all rfl) prm_all (fun _ => rfl) (fun _ => Ev.z_all) (by decide +kernel) (xbs_cons (xb_of (xe_lc0 (own := [("_law_sign", 4)]) (N := 5) (fun _ => rfl) (fun _ => sc__law_fault.nd) (xi_str (xb_var fun _ => pv 2)) (fun _ => blkB_ok rfl) (xg_name (by decide) (fun _ => pg_name sc__law_fault.nd rfl (by first | exact .inl rfl | exact .inr rfl) (by first | exact .inl rfl | exact .inr rfl))) (xb_of (xe_cmp (fun _ => op_inS) prm_inS (xb_var fun _ => pv 4) (xb_of xe_str) rfl)) (fun _ _ => rfl))) xbs_nil (fun _ => rfl)) (by decide) rfl (fun _ => rfl) (fun _ => rfl)) (xe_one (xe_cmp (fun _ => op_lt) prm_i (xb_of (xe_callB (fun _ => call_lenB) prm_lenA (fun _ => rfl) (fun _ => Ev.z_len) (by decide +kernel) (xbs_cons (xb_var fun _ => pv 2) xbs_nil (fun _ => rfl)) (by decide) rfl (fun _ => rfl) (fun _ => rfl))) (xb_of xe_int) (nomark _)))))) (xss_one (xs_if (xt_w (xw_or (xt_not (xt_val (xe_fz (xb_var fun _ => pv 3)) (fun _ _ => rfl))) (xw_or (xt_cmp (fun _ => op_neD hr.units) prm_ne (xb_of (xe_callTy (fun _ => call_str_int) prm_str (fun _ => rfl) (fun _ => Ev.z_str) (by decide +kernel) (xbs_cons (xb_of (xe_callTy (fun _ => call_intA) prm_intA (fun _ => rfl) (fun _ => Ev.z_int) (by decide +kernel) (xbs_cons (xb_of (xe_ix (fun _ => ix_seq) prm_ix (xb_var fun _ => pv 0) (xb_var fun _ => pv 1) (fun _ _ => rfl))) xbs_nil (fun _ => rfl)) (by decide) rfl (fun _ => rfl) (fun _ => rfl))) xbs_nil (fun _ => rfl)) (by decide) rfl (fun _ => rfl) (fun _ => rfl))) (xb_of (xe_ix (fun _ => ix_seq) prm_ix (xb_var fun _ => pv 0) (xb_var fun _ => pv 1) (fun _ _ => rfl))) (nomark _)) (xw_or (xt_cmp (fun _ => op_gt) prm_i (xb_of (xe_callB (fun _ => call_abs) prm_abs (fun _ => rfl) (fun _ => Ev.z_abs) (by decide +kernel) (xbs_cons (xb_of (xe_callTy (fun _ => call_intA) prm_intA (fun _ => rfl) (fun _ => Ev.z_int) (by decide +kernel) (xbs_cons (xb_of (xe_ix (fun _ => ix_seq) prm_ix (xb_var fun _ => pv 0) (xb_var fun _ => pv 1) (fun _ _ => rfl))) xbs_nil (fun _ => rfl)) (by decide) rfl (fun _ => rfl) (fun _ => rfl))) xbs_nil (fun _ => rfl)) (by decide) rfl (fun _ => rfl) (fun _ => rfl))) (xb_of xe_int) (nomark _)) (xw_or1 (xt_cmp (fun _ => op_eqD hr.units) prm_eq (xb_var fun _ => pv 1) (xb_of xe_int) (nomark _))))))) (xss_one (xs_ret (xe_bin (fun _ => op_addA) prm_add (xb_var fun _ => pv 1) (xb_of xe_int)))) xss_nil)))) (fun _ _ => rfl)) (xss_one (xs_ret (xe_if (xt_w (xw_and (xt_cmp (fun _ => op_gt) prm_i (xb_of (xe_callB (fun _ => call_lenB) prm_lenA (fun _ => rfl) (fun _ => Ev.z_len) (by decide +kernel) (xbs_cons (xb_var fun _ => pv 0) xbs_nil (fun _ => rfl)) (by decide) rfl (fun _ => rfl) (fun _ => rfl))) (xb_of xe_int) (nomark _)) (xw_and1 (xt_cmp (fun _ => op_eqD hr.units) prm_eq (xb_of (xe_ix (fun _ => ix_seq) prm_ix (xb_var fun _ => pv 0) (xb_of (xe_un (fun _ => un_neg) prm_neg (xb_of xe_int))) (fun _ _ => rfl))) (xb_of xe_str) (nomark _))))) (xe_callB (fun _ => call_lenB) prm_lenA (fun _ => rfl) (fun _ => Ev.z_len) (by decide +kernel) (xbs_cons (xb_var fun _ => pv 0) xbs_nil (fun _ => rfl)) (by decide) rfl (fun _ => rfl) (fun _ => rfl)) xe_int)))))
theorem o__law_fault (Ev : Evd P w K mg base A0) (h : ∀ cs o, m__law_fault cs = some o → ∃ n out, g__law_fault n (startR 5 cs) = some out ∧ fin [true] out = some o) : FnOk P w K mg base (L2.CX P w) 1 A0.f__law_fault A0.d__law_fault ["_law_words"] (spM ⟨K, mg⟩ 1 m__law_fault) :=
  def_ok (fl := [true]) (Pk := [0]) Ev.F__law_fault sc__law_fault rfl (flB_ok rfl) (by decide) (fun cdv A outer s H E hr => w__law_fault Ev cdv A outer s H E hr) h
theorem w__law_due (Ev : Evd P w K mg base A0) (k__law_fault : FnOk P w K mg base (L2.CX P w) 1 A0.f__law_fault A0.d__law_fault ["_law_words"] (spM ⟨K, mg⟩ 1 m__law_fault)) (cdv : Value) (A : Around) (outer : List Env) (s : Shared) (H : Hp) (E : XK) (hr : Room 1 (A.deeper (envOfC "_law_due" (defScope s__law_due) s.heap.objs.size A0.f__law_due cdv))) :
    XSs ⟨K, mg⟩ (fun _ : Unit => cxOf (L2.CX P w) P w K mg base ["_law_text", "_law_found", "_law_lines", "_law_k", "_law_words", "_law_word", "_law_fault_here"] "_law_due" (defScope s__law_due) A0.f__law_due cdv A outer s H E) (fun cls d _ H => E cls d H) [0] (defBody s__law_due) g__law_due :=
  (xss_cons (xs_parA (by decide) (by decide) (fun _ => rfl) (by first | exact .inl (fun t u h1 h2 k => ps_par rfl sc__law_due.nd rfl rfl (by decide) rfl rfl (pa_cons (h1 k) (pa_cons (h2 k) pa_nil)) rfl) | exact .inr (fun t u h1 h2 k => ps_asg (pe_tup (pa_cons (h1 k) (pa_cons (h2 k) pa_nil))) (pg_tup rfl (pgs_cons (pg_name sc__law_due.nd rfl (by first | exact .inl rfl | exact .inr rfl) (by first | exact .inl rfl | exact .inr rfl)) (pgs_cons (pg_name sc__law_due.nd rfl (by first | exact .inl rfl | exact .inr rfl) (by first | exact .inl rfl | exact .inr rfl)) pgs_nil))))) (xe_lst xbs_nil) (xe_mvS (fun _ => rfl) (fun to t a h j => pe_bm PySem.F.plainAttrs_str PySem.F.slot_str_split PySem.F.type_str_split mt_split (a j) (h j)) smv_split (xb_var fun _ => pv 0) (xbs_cons (xb_of xe_str) xbs_nil (fun _ => rfl)))) (xss_cons (xs_for (fun _ => passes_of (K := fun e s'' => L2.CX P w outer H s E e s'') (E₁ := fun e' s'' => L2.CX P w outer H s E e' s'') rfl) (fun _ => rfl) (xi_rng1 (fun _ => rfl) (fun _ => Ev.z_range) (xb_of (xe_callB (fun _ => call_min2 rfl) prm_min2 (fun _ => rfl) (fun _ => Ev.z_min) (by decide +kernel) (xbs_cons (xb_of xe_int) (xbs_cons (xb_of (xe_callB (fun _ => call_lenB) prm_lenA (fun _ => rfl) (fun _ => Ev.z_len) (by decide +kernel) (xbs_cons (xb_var fun _ => pv 2) xbs_nil (fun _ => rfl)) (by decide) rfl (fun _ => rfl) (fun _ => rfl))) xbs_nil (fun _ => rfl)) (fun _ => rfl)) (by decide) rfl (fun _ => rfl) (fun _ => rfl))) (fun _ => rfl)) (xg_name (by decide) (fun _ => pg_name sc__law_due.nd rfl (by first | exact .inl rfl | exact .inr rfl) (by first | exact .inl rfl | exact .inr rfl))) (xss_cons (xs_setLc1 (own := [("_law_word", 5)]) (N := 7) (by decide) (fun _ => rfl) (fun _ => sc__law_due.nd) (fun _ => rfl) (fun _ => rfl) (fun _ => rfl) (xi_seq (fun _ => rfl) (xb_of (xe_mvS (fun _ => rfl) (fun to t a h j => pe_bm PySem.F.plainAttrs_str PySem.F.slot_str_split PySem.F.type_str_split mt_split (a j) (h j)) smv_split (xb_of (xe_ix (fun _ => ix_seq) prm_ix (xb_var fun _ => pv 2) (xb_var fun _ => pv 3) (fun _ _ => rfl))) (xbs_cons (xb_of xe_str) xbs_nil (fun _ => rfl))))) (fun _ => blkB_ok rfl) (xg_name (by decide) (fun _ => pg_name sc__law_due.nd rfl (by first | exact .inl rfl | exact .inr rfl) (by first | exact .inl rfl | exact .inr rfl))) (xt_cmp (fun _ => op_neD hr.units) prm_ne (xb_var fun _ => pv 5) (xb_of xe_str) (nomark _)) (xb_var fun _ => pv 5) (fun _ _ => rfl)) (xss_cons (xs_set (by decide) (fun t h j => ps_set sc__law_due.nd rfl (by first | exact .inl rfl | exact .inr rfl) (h j) rfl (by first | exact .inl rfl | exact .inr rfl)) (xe_call (fun _ => k__law_fault) (fun _ => hr.mono (by decide)) (fun _ => rfl) (fun _ => Ev.m__law_fault) (fun _ => Ev.F__law_fault.kp) (fun _ => Ev.b__law_fault) (fun _ => takes_of rfl rfl rfl rfl) (xbs_cons (xb_var fun _ => pv 4) xbs_nil (fun _ => rfl)) (len_cons (fun _ _ _ _ => len_nil)) rfl (fun _ => rfl) (fun _ => rfl))) (xss_cons (xs_if (xt_cmp (fun _ => op_gt) prm_i (xb_var fun _ => pv 6) (xb_of xe_int) (nomark _)) (xss_one (xs_ret (xe_lst (xbs_cons (xb_of xe_str) (xbs_cons (xb_of (xe_bin (fun _ => op_addA) prm_add (xb_var fun _ => pv 3) (xb_of xe_int))) (xbs_cons (xb_var fun _ => pv 6) xbs_nil (fun _ => rfl)) (fun _ => rfl)) (fun _ => rfl))))) xss_nil) (xss_one (xs_expr (xb_of (xe_mth (fun _ => rfl) (fun t h j => pe_bm PySem.F.plainAttrs_list PySem.F.slot_list_append PySem.F.type_list_append mt_append (pv 1) (h j)) sm_app (xbs_cons (xb_of (xe_callTy (fun _ => call_tuple_of) prm_tuple (fun _ => rfl) (fun _ => Ev.z_tuple) (by decide +kernel) (xbs_cons (xb_of (xe_lc0 (own := [("_law_word", 5)]) (N := 7) (fun _ => rfl) (fun _ => sc__law_due.nd) (xi_seq (fun _ => rfl) (xb_of (xe_slL (fun _ => rfl) (xb_var fun _ => pv 4) (xb_of xe_int)))) (fun _ => blkB_ok rfl) (xg_name (by decide) (fun _ => pg_name sc__law_due.nd rfl (by first | exact .inl rfl | exact .inr rfl) (by first | exact .inl rfl | exact .inr rfl))) (xb_of (xe_callTy (fun _ => call_intA) prm_intA (fun _ => rfl) (fun _ => Ev.z_int) (by decide +kernel) (xbs_cons (xb_var fun _ => pv 5) xbs_nil (fun _ => rfl)) (by decide) rfl (fun _ => rfl) (fun _ => rfl))) (fun _ _ => rfl))) xbs_nil (fun _ => rfl)) (by decide) rfl (fun _ => rfl) (fun _ => rfl))) xbs_nil (fun _ => rfl)))) (fun _ => rfl)))))) (fun _ _ => rfl)) (xss_one (xs_ret (xe_if (xt_cmp (fun _ => op_eqD hr.units) prm_eq (xb_of (xe_callB (fun _ => call_lenB) prm_lenA (fun _ => rfl) (fun _ => Ev.z_len) (by decide +kernel) (xbs_cons (xb_var fun _ => pv 2) xbs_nil (fun _ => rfl)) (by decide) rfl (fun _ => rfl) (fun _ => rfl))) (xb_of xe_int) (nomark _)) (xe_callTy (fun _ => call_tuple_of) prm_tuple (fun _ => rfl) (fun _ => Ev.z_tuple) (by decide +kernel) (xbs_cons (xb_var fun _ => pv 1) xbs_nil (fun _ => rfl)) (by decide) rfl (fun _ => rfl) (fun _ => rfl)) (xe_lst (xbs_cons (xb_of xe_str) (xbs_cons (xb_of (xe_ix (fun _ => ix_seq) prm_ix (xb_of (xe_lst (xbs_cons (xb_of xe_int) (xbs_cons (xb_of xe_int) (xbs_cons (xb_of xe_int) xbs_nil (fun _ => rfl)) (fun _ => rfl)) (fun _ => rfl)))) (xb_of (xe_callB (fun _ => call_min2 rfl) prm_min2 (fun _ => rfl) (fun _ => Ev.z_min) (by decide +kernel) (xbs_cons (xb_of xe_int) (xbs_cons (xb_of (xe_bin (fun _ => op_sub) prm_sub (xb_of (xe_callB (fun _ => call_lenB) prm_lenA (fun _ => rfl) (fun _ => Ev.z_len) (by decide +kernel) (xbs_cons (xb_var fun _ => pv 2) xbs_nil (fun _ => rfl)) (by decide) rfl (fun _ => rfl) (fun _ => rfl))) (xb_of xe_int))) xbs_nil (fun _ => rfl)) (fun _ => rfl)) (by decide) rfl (fun _ => rfl) (fun _ => rfl))) (fun _ _ => rfl))) (xbs_cons (xb_of xe_int) xbs_nil (fun _ => rfl)) (fun _ => rfl)) (fun _ => rfl))))))))
theorem o__law_due (Ev : Evd P w K mg base A0) (k__law_fault : FnOk P w K mg base (L2.CX P w) 1 A0.f__law_fault A0.d__law_fault ["_law_words"] (spM ⟨K, mg⟩ 1 m__law_fault)) (h : ∀ cs o, m__law_due cs = some o → ∃ n out, g__law_due n (startR 7 cs) = some out ∧ fin [true] out = some o) : FnOk P w K mg base (L2.CX P w) 2 A0.f__law_due A0.d__law_due ["_law_text"] (spM ⟨K, mg⟩ 1 m__law_due) :=
  def_ok (fl := [true]) (Pk := [0]) Ev.F__law_due sc__law_due rfl (flB_ok rfl) (by decide) (fun cdv A outer s H E hr => w__law_due Ev k__law_fault cdv A outer s H E hr) h
theorem w__law_told_there (Ev : Evd P w K mg base A0) (k_read : FnOk P w K mg base (L2.CX P w) 4 A0.f_read A0.d_read ["text"] (spM ⟨K, mg⟩ 1 m_read)) (cdv : Value) (A : Around) (outer : List Env) (s : Shared) (H : Hp) (E : XK) (hr : Room 4 (A.deeper (envOfC "_law_told_there" (defScope s__law_told_there) s.heap.objs.size A0.f__law_told_there cdv))) :
    XSs ⟨K, mg⟩ (fun _ : Unit => cxOf (L2.CX P w) P w K mg base ["_law_text", "_law_told_there_here", "e"] "_law_told_there" (defScope s__law_told_there) A0.f__law_told_there cdv A outer s H E) (fun cls d _ H => E cls d H) [0] (defBody s__law_told_there) g__law_told_there :=
  (xss_cons (xs_set (by decide) (fun t h j => ps_set sc__law_told_there.nd rfl (by first | exact .inl rfl | exact .inr rfl) (h j) rfl (by first | exact .inl rfl | exact .inr rfl)) xe_none) (xss_cons (xs_try (fun _ => rfl) (fun _ => rfl) (fun _ => rfl) (fun _ => sc__law_told_there.nd) (fun _ => rfl) (fun _ => rfl) (by decide) (fun _ => takes_of rfl rfl rfl rfl) (fun Wb => (xss_one (xs_set (by decide) (fun t h j => ps_set sc__law_told_there.nd rfl (by first | exact .inl rfl | exact .inr rfl) (h j) rfl (by first | exact .inl rfl | exact .inr rfl)) (xe_call (fun _ => k_read) (fun _ => hr.mono (by decide)) (fun _ => rfl) (fun _ => Ev.m_read) (fun _ => Ev.F_read.kp) (fun _ => Ev.b_read) (fun p => p.2.1) (xbs_cons (xb_var fun _ => pv 0) xbs_nil (fun _ => rfl)) (len_cons (fun _ _ _ _ => len_nil)) rfl (fun _ => rfl) (fun _ => rfl))))) (HdX.cons (x := "BadLine") (fun _ => ⟨rfl, rfl, .inl Ev.m_BadLine⟩) (tbl_ok (tbl_c ⟨_, Ev.m_BadLine, Ev.x_BadLine_BadLine⟩ (fun _ z => (List.not_mem_nil z).elim))) (su_isf (c := "RootError") (cv := A0.C_RootError) (fun _ => rfl) (fun _ _ _ _ => pv 2) (by decide) (fun _ => rfl) (fun _ => Ev.z_isinstance) (fun _ => rfl) (fun _ => Ev.m_RootError) rfl (fun _ => rfl) (fun _ => rfl) (fun _ => rfl) (fun _ _ _ _ _ h => ps_set sc__law_told_there.nd rfl (by first | exact .inl rfl | exact .inr rfl) h rfl (by first | exact .inl rfl | exact .inr rfl)) (fun _ _ _ _ _ => rfl) (tbs_ok (tbs_c ⟨_, Ev.m_BadLine, Ev.e_BadLine, Ev.k_BadLine_RootError⟩ (fun _ z => (List.not_mem_nil z).elim))) (se_lst (ses_str (fun _ => rfl) (ses_fld (fun _ _ _ _ => pv 2) (fun _ => rfl) (tbf_ok (tbf_c ⟨_, Ev.m_BadLine, Ev.xf_BadLine, Ev.nf_BadLine_line⟩ (fun _ z => (List.not_mem_nil z).elim))) (fun _ => rfl) (fun _ => rfl) (ses_fld (fun _ _ _ _ => pv 2) (fun _ => rfl) (tbf_ok (tbf_c ⟨_, Ev.m_BadLine, Ev.xf_BadLine, Ev.nf_BadLine_word⟩ (fun _ z => (List.not_mem_nil z).elim))) (fun _ => rfl) (fun _ => rfl) ses_nil))) (fun x ds h => Nat.le_trans ((sl_str (sl_fld (sl_fld sl_nil))) x ds h) (by decide))) ⟨_, fun _ _ _ _ => pe_str⟩) HdX.nil)) (xss_one (xs_ret (xe_mv fun _ => pv 1)))))
theorem o__law_told_there (Ev : Evd P w K mg base A0) (k_read : FnOk P w K mg base (L2.CX P w) 4 A0.f_read A0.d_read ["text"] (spM ⟨K, mg⟩ 1 m_read)) (h : ∀ cs o, m__law_told_there cs = some o → ∃ n out, g__law_told_there n (startR 3 cs) = some out ∧ fin [true] out = some o) : FnOk P w K mg base (L2.CX P w) 5 A0.f__law_told_there A0.d__law_told_there ["_law_text"] (spM ⟨K, mg⟩ 1 m__law_told_there) :=
  def_ok (fl := [true]) (Pk := [0]) Ev.F__law_told_there sc__law_told_there rfl (flB_ok rfl) (by decide) (fun cdv A outer s H E hr => w__law_told_there Ev k_read cdv A outer s H E hr) h
theorem w__law_spoilt (Ev : Evd P w K mg base A0) (k__law_pick : FnOk P w K mg base (L2.CX P w) 1 A0.f__law_pick A0.d__law_pick ["_law_row", "_law_many"] (spM ⟨K, mg⟩ 2 m__law_pick)) (cdv : Value) (A : Around) (outer : List Env) (s : Shared) (H : Hp) (E : XK) (hr : Room 1 (A.deeper (envOfC "_law_spoilt" (defScope s__law_spoilt) s.heap.objs.size A0.f__law_spoilt cdv))) :
    XSs ⟨K, mg⟩ (fun _ : Unit => cxOf (L2.CX P w) P w K mg base ["_law_row", "_law_line", "_law_words", "_law_at", "_law_turn_of", "_law_odd"] "_law_spoilt" (defScope s__law_spoilt) A0.f__law_spoilt cdv A outer s H E) (fun cls d _ H => E cls d H) [0, 1] (defBody s__law_spoilt) g__law_spoilt :=
  (xss_cons (xs_set (by decide) (fun t h j => ps_set sc__law_spoilt.nd rfl (by first | exact .inl rfl | exact .inr rfl) (h j) rfl (by first | exact .inl rfl | exact .inr rfl)) (xe_mvS (fun _ => rfl) (fun to t a h j => pe_bm PySem.F.plainAttrs_str PySem.F.slot_str_split PySem.F.type_str_split mt_split (a j) (h j)) smv_split (xb_var fun _ => pv 1) (xbs_cons (xb_of xe_str) xbs_nil (fun _ => rfl)))) (xss_cons (xs_parA (by decide) (by decide) (fun _ => rfl) (by first | exact .inl (fun t u h1 h2 k => ps_par rfl sc__law_spoilt.nd rfl rfl (by decide) rfl rfl (pa_cons (h1 k) (pa_cons (h2 k) pa_nil)) rfl) | exact .inr (fun t u h1 h2 k => ps_asg (pe_tup (pa_cons (h1 k) (pa_cons (h2 k) pa_nil))) (pg_tup rfl (pgs_cons (pg_name sc__law_spoilt.nd rfl (by first | exact .inl rfl | exact .inr rfl) (by first | exact .inl rfl | exact .inr rfl)) (pgs_cons (pg_name sc__law_spoilt.nd rfl (by first | exact .inl rfl | exact .inr rfl) (by first | exact .inl rfl | exact .inr rfl)) pgs_nil))))) (xe_call (fun _ => k__law_pick) (fun _ => hr.mono (by decide)) (fun _ => rfl) (fun _ => Ev.m__law_pick) (fun _ => Ev.F__law_pick.kp) (fun _ => Ev.b__law_pick) (fun _ => takes_of rfl rfl rfl rfl) (xbs_cons (xb_var fun _ => pv 0) (xbs_cons (xb_of (xe_callB (fun _ => call_lenB) prm_lenA (fun _ => rfl) (fun _ => Ev.z_len) (by decide +kernel) (xbs_cons (xb_var fun _ => pv 2) xbs_nil (fun _ => rfl)) (by decide) rfl (fun _ => rfl) (fun _ => rfl))) xbs_nil (fun _ => rfl)) (fun _ => rfl)) (len_cons (len_cons (fun _ _ _ _ => len_nil))) rfl (fun _ => rfl) (fun _ => rfl)) (xe_call (fun _ => k__law_pick) (fun _ => hr.mono (by decide)) (fun _ => rfl) (fun _ => Ev.m__law_pick) (fun _ => Ev.F__law_pick.kp) (fun _ => Ev.b__law_pick) (fun _ => takes_of rfl rfl rfl rfl) (xbs_cons (xb_var fun _ => pv 0) (xbs_cons (xb_of xe_int) xbs_nil (fun _ => rfl)) (fun _ => rfl)) (len_cons (len_cons (fun _ _ _ _ => len_nil))) rfl (fun _ => rfl) (fun _ => rfl))) (xss_cons (xs_set (by decide) (fun t h j => ps_set sc__law_spoilt.nd rfl (by first | exact .inl rfl | exact .inr rfl) (h j) rfl (by first | exact .inl rfl | exact .inr rfl)) (xe_lst (xbs_cons (xb_of xe_str) (xbs_cons (xb_of xe_str) (xbs_cons (xb_of xe_str) (xbs_cons (xb_of xe_str) (xbs_cons (xb_of xe_str) (xbs_cons (xb_of xe_str) (xbs_cons (xb_of xe_str) (xbs_cons (xb_of xe_str) (xbs_cons (xb_of xe_str) (xbs_cons (xb_of xe_str) (xbs_cons (xb_of xe_str) (xbs_cons (xb_of xe_str) xbs_nil (fun _ => rfl)) (fun _ => rfl)) (fun _ => rfl)) (fun _ => rfl)) (fun _ => rfl)) (fun _ => rfl)) (fun _ => rfl)) (fun _ => rfl)) (fun _ => rfl)) (fun _ => rfl)) (fun _ => rfl)) (fun _ => rfl)))) (xss_cons (xs_set (by decide) (fun t h j => ps_set sc__law_spoilt.nd rfl (by first | exact .inl rfl | exact .inr rfl) (h j) rfl (by first | exact .inl rfl | exact .inr rfl)) (xe_bin (fun _ => op_addA) prm_add (xb_var fun _ => pv 5) (xb_of (xe_lst (xbs_cons (xb_of xe_str) (xbs_cons (xb_of xe_str) (xbs_cons (xb_of xe_str) (xbs_cons (xb_of xe_str) (xbs_cons (xb_of xe_str) (xbs_cons (xb_of xe_str) (xbs_cons (xb_of xe_str) (xbs_cons (xb_of (xe_bin (fun _ => op_repS) prm_repS (xb_of xe_str) (xb_of xe_int))) xbs_nil (fun _ => rfl)) (fun _ => rfl)) (fun _ => rfl)) (fun _ => rfl)) (fun _ => rfl)) (fun _ => rfl)) (fun _ => rfl)) (fun _ => rfl)))))) (xss_cons (xs_if (xt_cmp (fun _ => op_eqD hr.units) prm_eq (xb_var fun _ => pv 4) (xb_of xe_int) (nomark _)) (xss_one (xs_ret (xe_mvS (fun _ => rfl) (fun to t a h j => pe_bm PySem.F.plainAttrs_str PySem.F.slot_str_join PySem.F.type_str_join mt_join (a j) (h j)) smv_join (xb_of xe_str) (xbs_cons (xb_of (xe_bin (fun _ => op_addA) prm_add (xb_of (xe_slU (fun _ => rfl) (xb_var fun _ => pv 2) (xb_var fun _ => pv 3))) (xb_of (xe_slL (fun _ => rfl) (xb_var fun _ => pv 2) (xb_of (xe_bin (fun _ => op_addA) prm_add (xb_var fun _ => pv 3) (xb_of xe_int))))))) xbs_nil (fun _ => rfl))))) xss_nil) (xss_cons (xs_if (xt_cmp (fun _ => op_eqD hr.units) prm_eq (xb_var fun _ => pv 4) (xb_of xe_int) (nomark _)) (xss_one (xs_ret (xe_mvS (fun _ => rfl) (fun to t a h j => pe_bm PySem.F.plainAttrs_str PySem.F.slot_str_join PySem.F.type_str_join mt_join (a j) (h j)) smv_join (xb_of xe_str) (xbs_cons (xb_of (xe_bin (fun _ => op_addA) prm_add (xb_of (xe_bin (fun _ => op_addA) prm_add (xb_of (xe_slU (fun _ => rfl) (xb_var fun _ => pv 2) (xb_var fun _ => pv 3))) (xb_of (xe_bin (fun _ => op_mulA) prm_mul (xb_of (xe_lst (xbs_cons (xb_of (xe_ix (fun _ => ix_seq) prm_ix (xb_var fun _ => pv 2) (xb_var fun _ => pv 3) (fun _ _ => rfl))) xbs_nil (fun _ => rfl)))) (xb_of (xe_ix (fun _ => ix_seq) prm_ix (xb_of (xe_lst (xbs_cons (xb_of xe_int) (xbs_cons (xb_of xe_int) xbs_nil (fun _ => rfl)) (fun _ => rfl)))) (xb_of (xe_call (fun _ => k__law_pick) (fun _ => hr.mono (by decide)) (fun _ => rfl) (fun _ => Ev.m__law_pick) (fun _ => Ev.F__law_pick.kp) (fun _ => Ev.b__law_pick) (fun _ => takes_of rfl rfl rfl rfl) (xbs_cons (xb_var fun _ => pv 0) (xbs_cons (xb_of xe_int) xbs_nil (fun _ => rfl)) (fun _ => rfl)) (len_cons (len_cons (fun _ _ _ _ => len_nil))) rfl (fun _ => rfl) (fun _ => rfl))) (fun _ _ => rfl))))))) (xb_of (xe_slL (fun _ => rfl) (xb_var fun _ => pv 2) (xb_var fun _ => pv 3))))) xbs_nil (fun _ => rfl))))) xss_nil) (xss_cons (xs_if (xt_cmp (fun _ => op_eqD hr.units) prm_eq (xb_var fun _ => pv 4) (xb_of xe_int) (nomark _)) (xss_one (xs_ret (xe_mvS (fun _ => rfl) (fun to t a h j => pe_bm PySem.F.plainAttrs_str PySem.F.slot_str_join PySem.F.type_str_join mt_join (a j) (h j)) smv_join (xb_of xe_str) (xbs_cons (xb_of (xe_slU (fun _ => rfl) (xb_var fun _ => pv 2) (xb_var fun _ => pv 3))) xbs_nil (fun _ => rfl))))) xss_nil) (xss_one (xs_ret (xe_mvS (fun _ => rfl) (fun to t a h j => pe_bm PySem.F.plainAttrs_str PySem.F.slot_str_join PySem.F.type_str_join mt_join (a j) (h j)) smv_join (xb_of xe_str) (xbs_cons (xb_of (xe_bin (fun _ => op_addA) prm_add (xb_of (xe_bin (fun _ => op_addA) prm_add (xb_of (xe_slU (fun _ => rfl) (xb_var fun _ => pv 2) (xb_var fun _ => pv 3))) (xb_of (xe_lst (xbs_cons (xb_of (xe_ix (fun _ => ix_seq) prm_ix (xb_var fun _ => pv 5) (xb_of (xe_call (fun _ => k__law_pick) (fun _ => hr.mono (by decide)) (fun _ => rfl) (fun _ => Ev.m__law_pick) (fun _ => Ev.F__law_pick.kp) (fun _ => Ev.b__law_pick) (fun _ => takes_of rfl rfl rfl rfl) (xbs_cons (xb_var fun _ => pv 0) (xbs_cons (xb_of xe_int) xbs_nil (fun _ => rfl)) (fun _ => rfl)) (len_cons (len_cons (fun _ _ _ _ => len_nil))) rfl (fun _ => rfl) (fun _ => rfl))) (fun _ _ => rfl))) xbs_nil (fun _ => rfl)))))) (xb_of (xe_slL (fun _ => rfl) (xb_var fun _ => pv 2) (xb_of (xe_bin (fun _ => op_addA) prm_add (xb_var fun _ => pv 3) (xb_of (xe_callTy (fun _ => call_int1) prm_int (fun _ => rfl) (fun _ => Ev.z_int) (by decide +kernel) (xbs_cons (xb_of (xe_cmp (fun _ => op_lt) prm_i (xb_var fun _ => pv 4) (xb_of xe_int) (nomark _))) xbs_nil (fun _ => rfl)) (by decide) rfl (fun _ => rfl) (fun _ => rfl))))))))) xbs_nil (fun _ => rfl))))))))))))
theorem o__law_spoilt (Ev : Evd P w K mg base A0) (k__law_pick : FnOk P w K mg base (L2.CX P w) 1 A0.f__law_pick A0.d__law_pick ["_law_row", "_law_many"] (spM ⟨K, mg⟩ 2 m__law_pick)) (h : ∀ cs o, m__law_spoilt cs = some o → ∃ n out, g__law_spoilt n (startR 6 cs) = some out ∧ fin [true, true] out = some o) : FnOk P w K mg base (L2.CX P w) 2 A0.f__law_spoilt A0.d__law_spoilt ["_law_row", "_law_line"] (spM ⟨K, mg⟩ 2 m__law_spoilt) :=
  def_ok (fl := [true, true]) (Pk := [0, 1]) Ev.F__law_spoilt sc__law_spoilt rfl (flB_ok rfl) (by decide) (fun cdv A outer s H E hr => w__law_spoilt Ev k__law_pick cdv A outer s H E hr) h
theorem w_law (Ev : Evd P w K mg base A0) (k__law_draws : FnOk P w K mg base (L2.CX P w) 1 A0.f__law_draws A0.d__law_draws ["_law_script"] (spM ⟨K, mg⟩ 1 m__law_draws)) (k__law_poly : FnOk P w K mg base (L2.CX P w) 2 A0.f__law_poly A0.d__law_poly ["_law_row", "_law_most"] (spM ⟨K, mg⟩ 2 m__law_poly)) (k__law_pick : FnOk P w K mg base (L2.CX P w) 1 A0.f__law_pick A0.d__law_pick ["_law_row", "_law_many"] (spM ⟨K, mg⟩ 2 m__law_pick)) (k__law_spoilt : FnOk P w K mg base (L2.CX P w) 2 A0.f__law_spoilt A0.d__law_spoilt ["_law_row", "_law_line"] (spM ⟨K, mg⟩ 2 m__law_spoilt)) (k__law_told_there : FnOk P w K mg base (L2.CX P w) 5 A0.f__law_told_there A0.d__law_told_there ["_law_text"] (spM ⟨K, mg⟩ 1 m__law_told_there)) (k__law_due : FnOk P w K mg base (L2.CX P w) 2 A0.f__law_due A0.d__law_due ["_law_text"] (spM ⟨K, mg⟩ 1 m__law_due)) (cdv : Value) (A : Around) (outer : List Env) (s : Shared) (H : Hp) (E : XK) (hr : Room 5 (A.deeper (envOfC "law" (defScope s_law) s.heap.objs.size A0.f_law cdv))) :
    XSs ⟨K, mg⟩ (fun _ : Unit => cxOf (L2.CX P w) P w K mg base ["_law_script", "_law_row", "_law_turn", "_law_lines", "_law_k", "_law_one", "_law_at", "_law_turn_of"] "law" (defScope s_law) A0.f_law cdv A outer s H E) (fun cls d _ H => E cls d H) [0] (defBody s_law) g_law :=
  (xss_cons (xs_set (by decide) (fun t h j => ps_set sc_law.nd rfl (by first | exact .inl rfl | exact .inr rfl) (h j) rfl (by first | exact .inl rfl | exact .inr rfl)) (xe_call (fun _ => k__law_draws) (fun _ => hr.mono (by decide)) (fun _ => rfl) (fun _ => Ev.m__law_draws) (fun _ => Ev.F__law_draws.kp) (fun _ => Ev.b__law_draws) (fun _ => takes_of rfl rfl rfl rfl) (xbs_cons (xb_var fun _ => pv 0) xbs_nil (fun _ => rfl)) (len_cons (fun _ _ _ _ => len_nil)) rfl (fun _ => rfl) (fun _ => rfl))) (xss_cons (xs_for (fun _ => passes_of (K := fun e s'' => L2.CX P w outer H s E e s'') (E₁ := fun e' s'' => L2.CX P w outer H s E e' s'') rfl) (fun _ => rfl) (xi_rng1 (fun _ => rfl) (fun _ => Ev.z_range) (xb_of xe_int) (fun _ => rfl)) (xg_name (by decide) (fun _ => pg_name sc_law.nd rfl (by first | exact .inl rfl | exact .inr rfl) (by first | exact .inl rfl | exact .inr rfl))) (xss_cons (xs_set (by decide) (fun t h j => ps_set sc_law.nd rfl (by first | exact .inl rfl | exact .inr rfl) (h j) rfl (by first | exact .inl rfl | exact .inr rfl)) (xe_lst xbs_nil)) (xss_cons (xs_for (fun _ => passes_of (K := fun e s'' => L2.CX P w outer H s E e s'') (E₁ := fun e' s'' => L2.CX P w outer H s E e' s'') rfl) (fun _ => rfl) (xi_rng1 (fun _ => rfl) (fun _ => Ev.z_range) (xb_of xe_int) (fun _ => rfl)) (xg_name (by decide) (fun _ => pg_name sc_law.nd rfl (by first | exact .inl rfl | exact .inr rfl) (by first | exact .inl rfl | exact .inr rfl))) (xss_one (xs_expr (xb_of (xe_mth (fun _ => rfl) (fun t h j => pe_bm PySem.F.plainAttrs_list PySem.F.slot_list_append PySem.F.type_list_append mt_append (pv 3) (h j)) sm_app (xbs_cons (xb_of (xe_mvS (fun _ => rfl) (fun to t a h j => pe_bm PySem.F.plainAttrs_str PySem.F.slot_str_join PySem.F.type_str_join mt_join (a j) (h j)) smv_join (xb_of xe_str) (xbs_cons (xb_of (xe_bin (fun _ => op_addA) prm_add (xb_of (xe_lst (xbs_cons (xb_of xe_str) xbs_nil (fun _ => rfl)))) (xb_of (xe_lc0 (own := [("_law_one", 5)]) (N := 8) (fun _ => rfl) (fun _ => sc_law.nd) (xi_seq (fun _ => rfl) (xb_of (xe_call (fun _ => k__law_poly) (fun _ => hr.mono (by decide)) (fun _ => rfl) (fun _ => Ev.m__law_poly) (fun _ => Ev.F__law_poly.kp) (fun _ => Ev.b__law_poly) (fun _ => takes_of rfl rfl rfl rfl) (xbs_cons (xb_var fun _ => pv 1) (xbs_cons (xb_of xe_int) xbs_nil (fun _ => rfl)) (fun _ => rfl)) (len_cons (len_cons (fun _ _ _ _ => len_nil))) rfl (fun _ => rfl) (fun _ => rfl)))) (fun _ => blkB_ok rfl) (xg_name (by decide) (fun _ => pg_name sc_law.nd rfl (by first | exact .inl rfl | exact .inr rfl) (by first | exact .inl rfl | exact .inr rfl))) (xb_of (xe_callTy (fun _ => call_str_int) prm_str (fun _ => rfl) (fun _ => Ev.z_str) (by decide +kernel) (xbs_cons (xb_var fun _ => pv 5) xbs_nil (fun _ => rfl)) (by decide) rfl (fun _ => rfl) (fun _ => rfl))) (fun _ _ => rfl))))) xbs_nil (fun _ => rfl)))) xbs_nil (fun _ => rfl)))) (fun _ => rfl))) (fun _ _ => rfl)) (xss_cons (xs_for (fun _ => passes_of (K := fun e s'' => L2.CX P w outer H s E e s'') (E₁ := fun e' s'' => L2.CX P w outer H s E e' s'') rfl) (fun _ => rfl) (xi_rng1 (fun _ => rfl) (fun _ => Ev.z_range) (xb_of (xe_call (fun _ => k__law_pick) (fun _ => hr.mono (by decide)) (fun _ => rfl) (fun _ => Ev.m__law_pick) (fun _ => Ev.F__law_pick.kp) (fun _ => Ev.b__law_pick) (fun _ => takes_of rfl rfl rfl rfl) (xbs_cons (xb_var fun _ => pv 1) (xbs_cons (xb_of xe_int) xbs_nil (fun _ => rfl)) (fun _ => rfl)) (len_cons (len_cons (fun _ _ _ _ => len_nil))) rfl (fun _ => rfl) (fun _ => rfl))) (fun _ => rfl)) (xg_name (by decide) (fun _ => pg_name sc_law.nd rfl (by first | exact .inl rfl | exact .inr rfl) (by first | exact .inl rfl | exact .inr rfl))) (xss_cons (xs_parA (by decide) (by decide) (fun _ => rfl) (by first | exact .inl (fun t u h1 h2 k => ps_par rfl sc_law.nd rfl rfl (by decide) rfl rfl (pa_cons (h1 k) (pa_cons (h2 k) pa_nil)) rfl) | exact .inr (fun t u h1 h2 k => ps_asg (pe_tup (pa_cons (h1 k) (pa_cons (h2 k) pa_nil))) (pg_tup rfl (pgs_cons (pg_name sc_law.nd rfl (by first | exact .inl rfl | exact .inr rfl) (by first | exact .inl rfl | exact .inr rfl)) (pgs_cons (pg_name sc_law.nd rfl (by first | exact .inl rfl | exact .inr rfl) (by first | exact .inl rfl | exact .inr rfl)) pgs_nil))))) (xe_call (fun _ => k__law_pick) (fun _ => hr.mono (by decide)) (fun _ => rfl) (fun _ => Ev.m__law_pick) (fun _ => Ev.F__law_pick.kp) (fun _ => Ev.b__law_pick) (fun _ => takes_of rfl rfl rfl rfl) (xbs_cons (xb_var fun _ => pv 1) (xbs_cons (xb_of (xe_callB (fun _ => call_lenB) prm_lenA (fun _ => rfl) (fun _ => Ev.z_len) (by decide +kernel) (xbs_cons (xb_var fun _ => pv 3) xbs_nil (fun _ => rfl)) (by decide) rfl (fun _ => rfl) (fun _ => rfl))) xbs_nil (fun _ => rfl)) (fun _ => rfl)) (len_cons (len_cons (fun _ _ _ _ => len_nil))) rfl (fun _ => rfl) (fun _ => rfl)) (xe_call (fun _ => k__law_pick) (fun _ => hr.mono (by decide)) (fun _ => rfl) (fun _ => Ev.m__law_pick) (fun _ => Ev.F__law_pick.kp) (fun _ => Ev.b__law_pick) (fun _ => takes_of rfl rfl rfl rfl) (xbs_cons (xb_var fun _ => pv 1) (xbs_cons (xb_of xe_int) xbs_nil (fun _ => rfl)) (fun _ => rfl)) (len_cons (len_cons (fun _ _ _ _ => len_nil))) rfl (fun _ => rfl) (fun _ => rfl))) (xss_one (xs_if (xt_w (xw_and (xt_cmp (fun _ => op_eqD hr.units) prm_eq (xb_var fun _ => pv 7) (xb_of xe_int) (nomark _)) (xw_and1 (xt_cmp (fun _ => op_gt) prm_i (xb_of (xe_callB (fun _ => call_lenB) prm_lenA (fun _ => rfl) (fun _ => Ev.z_len) (by decide +kernel) (xbs_cons (xb_var fun _ => pv 3) xbs_nil (fun _ => rfl)) (by decide) rfl (fun _ => rfl) (fun _ => rfl))) (xb_of xe_int) (nomark _))))) (xss_one (xs_set (by decide) (fun t h j => ps_set sc_law.nd rfl (by first | exact .inl rfl | exact .inr rfl) (h j) rfl (by first | exact .inl rfl | exact .inr rfl)) (xe_bin (fun _ => op_addA) prm_add (xb_of (xe_slU (fun _ => rfl) (xb_var fun _ => pv 3) (xb_var fun _ => pv 6))) (xb_of (xe_slL (fun _ => rfl) (xb_var fun _ => pv 3) (xb_of (xe_bin (fun _ => op_addA) prm_add (xb_var fun _ => pv 6) (xb_of xe_int)))))))) (xss_one (xs_if (xt_cmp (fun _ => op_eqD hr.units) prm_eq (xb_var fun _ => pv 7) (xb_of xe_int) (nomark _)) (xss_one (xs_set (by decide) (fun t h j => ps_set sc_law.nd rfl (by first | exact .inl rfl | exact .inr rfl) (h j) rfl (by first | exact .inl rfl | exact .inr rfl)) (xe_bin (fun _ => op_addA) prm_add (xb_of (xe_bin (fun _ => op_addA) prm_add (xb_of (xe_slU (fun _ => rfl) (xb_var fun _ => pv 3) (xb_var fun _ => pv 6))) (xb_of (xe_lst (xbs_cons (xb_of (xe_ix (fun _ => ix_seq) prm_ix (xb_var fun _ => pv 3) (xb_var fun _ => pv 6) (fun _ _ => rfl))) xbs_nil (fun _ => rfl)))))) (xb_of (xe_slL (fun _ => rfl) (xb_var fun _ => pv 3) (xb_var fun _ => pv 6)))))) (xss_one (xs_setIx (fun _ => pv 3) (xb_var fun _ => pv 6) (xb_of (xe_call (fun _ => k__law_spoilt) (fun _ => hr.mono (by decide)) (fun _ => rfl) (fun _ => Ev.m__law_spoilt) (fun _ => Ev.F__law_spoilt.kp) (fun _ => Ev.b__law_spoilt) (fun _ => takes_of rfl rfl rfl rfl) (xbs_cons (xb_var fun _ => pv 1) (xbs_cons (xb_of (xe_ix (fun _ => ix_seq) prm_ix (xb_var fun _ => pv 3) (xb_var fun _ => pv 6) (fun _ _ => rfl))) xbs_nil (fun _ => rfl)) (fun _ => rfl)) (len_cons (len_cons (fun _ _ _ _ => len_nil))) rfl (fun _ => rfl) (fun _ => rfl))) (fun _ => rfl) (fun _ => rfl) (fun _ => rfl) (fun _ _ => rfl)))))))) (fun _ _ => rfl)) (xss_one (xs_if (xt_cmp (fun _ => op_neD hr.units) prm_ne (xb_of (xe_call (fun _ => k__law_told_there) (fun _ => hr.mono (by decide)) (fun _ => rfl) (fun _ => Ev.m__law_told_there) (fun _ => Ev.F__law_told_there.kp) (fun _ => Ev.b__law_told_there) (fun _ => takes_of rfl rfl rfl rfl) (xbs_cons (xb_of (xe_mvS (fun _ => rfl) (fun to t a h j => pe_bm PySem.F.plainAttrs_str PySem.F.slot_str_join PySem.F.type_str_join mt_join (a j) (h j)) smv_join (xb_of xe_str) (xbs_cons (xb_var fun _ => pv 3) xbs_nil (fun _ => rfl)))) xbs_nil (fun _ => rfl)) (len_cons (fun _ _ _ _ => len_nil)) rfl (fun _ => rfl) (fun _ => rfl))) (xb_of (xe_call (fun _ => k__law_due) (fun _ => hr.mono (by decide)) (fun _ => rfl) (fun _ => Ev.m__law_due) (fun _ => Ev.F__law_due.kp) (fun _ => Ev.b__law_due) (fun _ => takes_of rfl rfl rfl rfl) (xbs_cons (xb_of (xe_mvS (fun _ => rfl) (fun to t a h j => pe_bm PySem.F.plainAttrs_str PySem.F.slot_str_join PySem.F.type_str_join mt_join (a j) (h j)) smv_join (xb_of xe_str) (xbs_cons (xb_var fun _ => pv 3) xbs_nil (fun _ => rfl)))) xbs_nil (fun _ => rfl)) (len_cons (fun _ _ _ _ => len_nil)) rfl (fun _ => rfl) (fun _ => rfl))) (nomark _)) (xss_one (xs_ret xe_bool)) xss_nil))))) (fun _ _ => rfl)) (xss_one (xs_ret (xe_cmp (fun _ => op_eqD hr.units) prm_eq (xb_of (xe_call (fun _ => k__law_told_there) (fun _ => hr.mono (by decide)) (fun _ => rfl) (fun _ => Ev.m__law_told_there) (fun _ => Ev.F__law_told_there.kp) (fun _ => Ev.b__law_told_there) (fun _ => takes_of rfl rfl rfl rfl) (xbs_cons (xb_of xe_str) xbs_nil (fun _ => rfl)) (len_cons (fun _ _ _ _ => len_nil)) rfl (fun _ => rfl) (fun _ => rfl))) (xb_of (xe_lst (xbs_cons (xb_of xe_str) (xbs_cons (xb_of xe_int) (xbs_cons (xb_of xe_int) xbs_nil (fun _ => rfl)) (fun _ => rfl)) (fun _ => rfl)))) (nomark _))))))
theorem o_law (Ev : Evd P w K mg base A0) (k__law_draws : FnOk P w K mg base (L2.CX P w) 1 A0.f__law_draws A0.d__law_draws ["_law_script"] (spM ⟨K, mg⟩ 1 m__law_draws)) (k__law_poly : FnOk P w K mg base (L2.CX P w) 2 A0.f__law_poly A0.d__law_poly ["_law_row", "_law_most"] (spM ⟨K, mg⟩ 2 m__law_poly)) (k__law_pick : FnOk P w K mg base (L2.CX P w) 1 A0.f__law_pick A0.d__law_pick ["_law_row", "_law_many"] (spM ⟨K, mg⟩ 2 m__law_pick)) (k__law_spoilt : FnOk P w K mg base (L2.CX P w) 2 A0.f__law_spoilt A0.d__law_spoilt ["_law_row", "_law_line"] (spM ⟨K, mg⟩ 2 m__law_spoilt)) (k__law_told_there : FnOk P w K mg base (L2.CX P w) 5 A0.f__law_told_there A0.d__law_told_there ["_law_text"] (spM ⟨K, mg⟩ 1 m__law_told_there)) (k__law_due : FnOk P w K mg base (L2.CX P w) 2 A0.f__law_due A0.d__law_due ["_law_text"] (spM ⟨K, mg⟩ 1 m__law_due)) (h : ∀ cs o, m_law cs = some o → ∃ n out, g_law n (startR 8 cs) = some out ∧ fin [true] out = some o) : FnOk P w K mg base (L2.CX P w) 6 A0.f_law A0.d_law ["_law_script"] (spM ⟨K, mg⟩ 1 m_law) :=
  def_ok (fl := [true]) (Pk := [0]) Ev.F_law sc_law rfl (flB_ok rfl) (by decide) (fun cdv A outer s H E hr => w_law Ev k__law_draws k__law_poly k__law_pick k__law_spoilt k__law_told_there k__law_due cdv A outer s H E hr) h
end
end L3

namespace L3
open PySem PySem.Spec L2 PyProof.Rows
def clsInit (s : Stmt) : Stmt := match s with
  | .ClassDef (body := b :: _) .. => b
  | _ => s
theorem mem_c {α : Type} {p : α → Prop} {x : α} {l : List α} (h : p x) (r : ∀ y ∈ l, p y) : ∀ y ∈ x :: l, p y := fun y hy => by
  rcases List.mem_cons.mp hy with e | hy
  · rw [e]; exact h
  · exact r y hy
/-- the law's promise: true for every script -/
def spLaw (K : PySem.W.Frag) : Sp := fun vs H Q _ => ∃ (a : Addr) (ns : List Int), vs = [.ref a] ∧ SqL K H a (ns.map V.int) ∧ ∀ H', Q (.bl true) H'
theorem sp_law {G : Gd} {m : Mr} {vs : List V} {H : Hp} {Q : VK} {E : XK} (h : spLaw G.K vs H Q E) (hm : ∀ ns : List Int, ∃ outs, m [.fz (.list (zs ns))] = some (.ok (.b true) outs)) : spM G 1 m vs H Q E := by
  obtain ⟨a, ns, rfl, hS, q⟩ := h
  obtain ⟨outs, e⟩ := hm ns
  refine ⟨rfl, [.fz (.list (zs ns))], H, [], _, rfl, ⟨Same.refl _, [], .nil, ?_⟩, e, fun F' H' v s hr => ?_⟩
  · exact .cons (A := []) (.fz (.lst hS (RpA.of_ints ns))) .nil
  · have r := hr.rp
    cases r
    exact q H'
theorem cx_no {P : Program} {w : World} {outer : List Env} {H : Hp} {s s' : Shared} {u : Value} (h : L2.CX P w outer H s (fun _ _ _ => False) u s') : False := by
  obtain ⟨_, _, _, _, _, _, _, _, _, _, _, _, z⟩ := h
  exact z
end L3

namespace L3
open PySem PySem.Spec L2 PyProof.Rows
section
variable {P : Program} {w : World} {K : PySem.W.Frag} {mg : Str → Option Value} {base : Heap} {A0 : Ad}
theorem ok_all (Ev : Evd P w K mg base A0) : FnOk P w K mg base (L2.CX P w) 6 A0.f_law A0.d_law ["_law_script"] (spM ⟨K, mg⟩ 1 m_law) := by
  have k_is_whole := o_is_whole Ev h_is_whole
  have k_poly_in := o_poly_in Ev k_is_whole h_poly_in
  have k_read := o_read Ev k_poly_in h_read
  have k__law_draws := o__law_draws Ev h__law_draws
  have k__law_pick := o__law_pick Ev h__law_pick
  have k__law_end := o__law_end Ev h__law_end
  have k__law_poly := o__law_poly Ev k__law_pick k__law_end h__law_poly
  have k__law_fault := o__law_fault Ev h__law_fault
  have k__law_due := o__law_due Ev k__law_fault h__law_due
  have k__law_told_there := o__law_told_there Ev k_read h__law_told_there
  have k__law_spoilt := o__law_spoilt Ev k__law_pick h__law_spoilt
  have k_law := o_law Ev k__law_draws k__law_poly k__law_pick k__law_spoilt k__law_told_there k__law_due h_law
  exact k_law
abbrev si_BadLine : Stmt := clsInit (topS 2)
theorem sci_BadLine : FnScope ["self", "line", "word"] ["self", "line", "word"] (defScope si_BadLine) := ⟨rfl, rfl, rfl, by decide +kernel, rfl, by decide +kernel, by decide +kernel⟩
end
theorem all_mk {P : Program} {w : World} {K : PySem.W.Frag} {h : Heap} {mg : Str → Option Value} {fa : Addr} (X : K.In h) (G : h.Ns mainGlobals mg) (hfa : mg "law" = some (.ref fa))
    {f_is_whole : Addr} {od_is_whole an_is_whole : Option Addr} {sl_is_whole : Array (Option Value)} {oc_is_whole kV_is_whole dc_is_whole pm_is_whole cd_is_whole ct_is_whole : Value}
    {f_poly_in : Addr} {od_poly_in an_poly_in : Option Addr} {sl_poly_in : Array (Option Value)} {oc_poly_in kV_poly_in dc_poly_in pm_poly_in cd_poly_in ct_poly_in : Value}
    {f_read : Addr} {od_read an_read : Option Addr} {sl_read : Array (Option Value)} {oc_read kV_read dc_read pm_read cd_read ct_read : Value}
    {f__law_draws : Addr} {od__law_draws an__law_draws : Option Addr} {sl__law_draws : Array (Option Value)} {oc__law_draws kV__law_draws dc__law_draws pm__law_draws cd__law_draws ct__law_draws : Value}
    {f__law_pick : Addr} {od__law_pick an__law_pick : Option Addr} {sl__law_pick : Array (Option Value)} {oc__law_pick kV__law_pick dc__law_pick pm__law_pick cd__law_pick ct__law_pick : Value}
    {f__law_end : Addr} {od__law_end an__law_end : Option Addr} {sl__law_end : Array (Option Value)} {oc__law_end kV__law_end dc__law_end pm__law_end cd__law_end ct__law_end : Value}
    {f__law_poly : Addr} {od__law_poly an__law_poly : Option Addr} {sl__law_poly : Array (Option Value)} {oc__law_poly kV__law_poly dc__law_poly pm__law_poly cd__law_poly ct__law_poly : Value}
    {f__law_fault : Addr} {od__law_fault an__law_fault : Option Addr} {sl__law_fault : Array (Option Value)} {oc__law_fault kV__law_fault dc__law_fault pm__law_fault cd__law_fault ct__law_fault : Value}
    {f__law_due : Addr} {od__law_due an__law_due : Option Addr} {sl__law_due : Array (Option Value)} {oc__law_due kV__law_due dc__law_due pm__law_due cd__law_due ct__law_due : Value}
    {f__law_told_there : Addr} {od__law_told_there an__law_told_there : Option Addr} {sl__law_told_there : Array (Option Value)} {oc__law_told_there kV__law_told_there dc__law_told_there pm__law_told_there cd__law_told_there ct__law_told_there : Value}
    {f__law_spoilt : Addr} {od__law_spoilt an__law_spoilt : Option Addr} {sl__law_spoilt : Array (Option Value)} {oc__law_spoilt kV__law_spoilt dc__law_spoilt pm__law_spoilt cd__law_spoilt ct__law_spoilt : Value}
    {f_law : Addr} {od_law an_law : Option Addr} {sl_law : Array (Option Value)} {oc_law kV_law dc_law pm_law cd_law ct_law : Value}
    {t_DIGITS : Tok}
    {t_FAR : Tok}
    {t_MOST_FIGURES : Tok}
    {t_MOST_TERMS : Tok}
    {t_POLY : Tok}
    {C_BadLine : Addr}
    {fi_BadLine : Addr} {odi_BadLine ani_BadLine : Option Addr} {sli_BadLine : Array (Option Value)} {oci_BadLine kVi_BadLine dci_BadLine pmi_BadLine cdi_BadLine cti_BadLine : Value} {nm_BadLine q_BadLine : Str} {N_BadLine : Addr} {bs_BadLine bm_BadLine : List Value} {sn_BadLine : List Str} {sub_BadLine : List Value} {ab_BadLine : Bool} {col_BadLine : Option Bool} {dd_BadLine : Option Addr} {m0_BadLine m1_BadLine m2_BadLine m3_BadLine m5_BadLine : Option Value}
    {C_RootError : Addr}
    (a_is_whole : PySem.W.nsIn K mainGlobals "is_whole" = some (some (.ref f_is_whole)))
    (l_is_whole : K.lookup f_is_whole = some ⟨oc_is_whole, od_is_whole, .func (PySem.W.fnOf "is_whole" "is_whole" (defArgs s_is_whole) (defBody s_is_whole) (defScope s_is_whole) .none kV_is_whole dc_is_whole pm_is_whole an_is_whole cd_is_whole ct_is_whole), sl_is_whole⟩)
    (c_is_whole : PySem.W.codeIn K cd_is_whole "is_whole" = true)
    (k_is_whole : PySem.W.keepIn K (.ref f_is_whole) = true)
    (a_poly_in : PySem.W.nsIn K mainGlobals "poly_in" = some (some (.ref f_poly_in)))
    (l_poly_in : K.lookup f_poly_in = some ⟨oc_poly_in, od_poly_in, .func (PySem.W.fnOf "poly_in" "poly_in" (defArgs s_poly_in) (defBody s_poly_in) (defScope s_poly_in) .none kV_poly_in dc_poly_in pm_poly_in an_poly_in cd_poly_in ct_poly_in), sl_poly_in⟩)
    (c_poly_in : PySem.W.codeIn K cd_poly_in "poly_in" = true)
    (k_poly_in : PySem.W.keepIn K (.ref f_poly_in) = true)
    (a_read : PySem.W.nsIn K mainGlobals "read" = some (some (.ref f_read)))
    (l_read : K.lookup f_read = some ⟨oc_read, od_read, .func (PySem.W.fnOf "read" "read" (defArgs s_read) (defBody s_read) (defScope s_read) .none kV_read dc_read pm_read an_read cd_read ct_read), sl_read⟩)
    (c_read : PySem.W.codeIn K cd_read "read" = true)
    (k_read : PySem.W.keepIn K (.ref f_read) = true)
    (a__law_draws : PySem.W.nsIn K mainGlobals "_law_draws" = some (some (.ref f__law_draws)))
    (l__law_draws : K.lookup f__law_draws = some ⟨oc__law_draws, od__law_draws, .func (PySem.W.fnOf "_law_draws" "_law_draws" (defArgs s__law_draws) (defBody s__law_draws) (defScope s__law_draws) .none kV__law_draws dc__law_draws pm__law_draws an__law_draws cd__law_draws ct__law_draws), sl__law_draws⟩)
    (c__law_draws : PySem.W.codeIn K cd__law_draws "_law_draws" = true)
    (k__law_draws : PySem.W.keepIn K (.ref f__law_draws) = true)
    (a__law_pick : PySem.W.nsIn K mainGlobals "_law_pick" = some (some (.ref f__law_pick)))
    (l__law_pick : K.lookup f__law_pick = some ⟨oc__law_pick, od__law_pick, .func (PySem.W.fnOf "_law_pick" "_law_pick" (defArgs s__law_pick) (defBody s__law_pick) (defScope s__law_pick) .none kV__law_pick dc__law_pick pm__law_pick an__law_pick cd__law_pick ct__law_pick), sl__law_pick⟩)
    (c__law_pick : PySem.W.codeIn K cd__law_pick "_law_pick" = true)
    (k__law_pick : PySem.W.keepIn K (.ref f__law_pick) = true)
    (a__law_end : PySem.W.nsIn K mainGlobals "_law_end" = some (some (.ref f__law_end)))
    (l__law_end : K.lookup f__law_end = some ⟨oc__law_end, od__law_end, .func (PySem.W.fnOf "_law_end" "_law_end" (defArgs s__law_end) (defBody s__law_end) (defScope s__law_end) .none kV__law_end dc__law_end pm__law_end an__law_end cd__law_end ct__law_end), sl__law_end⟩)
    (c__law_end : PySem.W.codeIn K cd__law_end "_law_end" = true)
    (k__law_end : PySem.W.keepIn K (.ref f__law_end) = true)
    (a__law_poly : PySem.W.nsIn K mainGlobals "_law_poly" = some (some (.ref f__law_poly)))
    (l__law_poly : K.lookup f__law_poly = some ⟨oc__law_poly, od__law_poly, .func (PySem.W.fnOf "_law_poly" "_law_poly" (defArgs s__law_poly) (defBody s__law_poly) (defScope s__law_poly) .none kV__law_poly dc__law_poly pm__law_poly an__law_poly cd__law_poly ct__law_poly), sl__law_poly⟩)
    (c__law_poly : PySem.W.codeIn K cd__law_poly "_law_poly" = true)
    (k__law_poly : PySem.W.keepIn K (.ref f__law_poly) = true)
    (a__law_fault : PySem.W.nsIn K mainGlobals "_law_fault" = some (some (.ref f__law_fault)))
    (l__law_fault : K.lookup f__law_fault = some ⟨oc__law_fault, od__law_fault, .func (PySem.W.fnOf "_law_fault" "_law_fault" (defArgs s__law_fault) (defBody s__law_fault) (defScope s__law_fault) .none kV__law_fault dc__law_fault pm__law_fault an__law_fault cd__law_fault ct__law_fault), sl__law_fault⟩)
    (c__law_fault : PySem.W.codeIn K cd__law_fault "_law_fault" = true)
    (k__law_fault : PySem.W.keepIn K (.ref f__law_fault) = true)
    (a__law_due : PySem.W.nsIn K mainGlobals "_law_due" = some (some (.ref f__law_due)))
    (l__law_due : K.lookup f__law_due = some ⟨oc__law_due, od__law_due, .func (PySem.W.fnOf "_law_due" "_law_due" (defArgs s__law_due) (defBody s__law_due) (defScope s__law_due) .none kV__law_due dc__law_due pm__law_due an__law_due cd__law_due ct__law_due), sl__law_due⟩)
    (c__law_due : PySem.W.codeIn K cd__law_due "_law_due" = true)
    (k__law_due : PySem.W.keepIn K (.ref f__law_due) = true)
    (a__law_told_there : PySem.W.nsIn K mainGlobals "_law_told_there" = some (some (.ref f__law_told_there)))
    (l__law_told_there : K.lookup f__law_told_there = some ⟨oc__law_told_there, od__law_told_there, .func (PySem.W.fnOf "_law_told_there" "_law_told_there" (defArgs s__law_told_there) (defBody s__law_told_there) (defScope s__law_told_there) .none kV__law_told_there dc__law_told_there pm__law_told_there an__law_told_there cd__law_told_there ct__law_told_there), sl__law_told_there⟩)
    (c__law_told_there : PySem.W.codeIn K cd__law_told_there "_law_told_there" = true)
    (k__law_told_there : PySem.W.keepIn K (.ref f__law_told_there) = true)
    (a__law_spoilt : PySem.W.nsIn K mainGlobals "_law_spoilt" = some (some (.ref f__law_spoilt)))
    (l__law_spoilt : K.lookup f__law_spoilt = some ⟨oc__law_spoilt, od__law_spoilt, .func (PySem.W.fnOf "_law_spoilt" "_law_spoilt" (defArgs s__law_spoilt) (defBody s__law_spoilt) (defScope s__law_spoilt) .none kV__law_spoilt dc__law_spoilt pm__law_spoilt an__law_spoilt cd__law_spoilt ct__law_spoilt), sl__law_spoilt⟩)
    (c__law_spoilt : PySem.W.codeIn K cd__law_spoilt "_law_spoilt" = true)
    (k__law_spoilt : PySem.W.keepIn K (.ref f__law_spoilt) = true)
    (a_law : PySem.W.nsIn K mainGlobals "law" = some (some (.ref f_law)))
    (l_law : K.lookup f_law = some ⟨oc_law, od_law, .func (PySem.W.fnOf "law" "law" (defArgs s_law) (defBody s_law) (defScope s_law) .none kV_law dc_law pm_law an_law cd_law ct_law), sl_law⟩)
    (c_law : PySem.W.codeIn K cd_law "law" = true)
    (k_law : PySem.W.keepIn K (.ref f_law) = true)
    (v_DIGITS : PySem.W.nsIn K mainGlobals "DIGITS" = some (some (.str "0123456789" t_DIGITS)))
    (v_FAR : PySem.W.nsIn K mainGlobals "FAR" = some (some (.int 1000000000 t_FAR)))
    (v_MOST_FIGURES : PySem.W.nsIn K mainGlobals "MOST_FIGURES" = some (some (.int 10 t_MOST_FIGURES)))
    (v_MOST_TERMS : PySem.W.nsIn K mainGlobals "MOST_TERMS" = some (some (.int 13 t_MOST_TERMS)))
    (v_POLY : PySem.W.nsIn K mainGlobals "POLY" = some (some (.str "poly" t_POLY)))
    (z_abs : PySem.W.nsIn K mainGlobals "abs" = some none)
    (z_all : PySem.W.nsIn K mainGlobals "all" = some none)
    (z_enumerate : PySem.W.nsIn K mainGlobals "enumerate" = some none)
    (z_int : PySem.W.nsIn K mainGlobals "int" = some none)
    (z_isinstance : PySem.W.nsIn K mainGlobals "isinstance" = some none)
    (z_len : PySem.W.nsIn K mainGlobals "len" = some none)
    (z_list : PySem.W.nsIn K mainGlobals "list" = some none)
    (z_min : PySem.W.nsIn K mainGlobals "min" = some none)
    (z_range : PySem.W.nsIn K mainGlobals "range" = some none)
    (z_str : PySem.W.nsIn K mainGlobals "str" = some none)
    (z_tuple : PySem.W.nsIn K mainGlobals "tuple" = some none)
    (gsp : PySem.W.specialIn K (.builtin "object.__class__") "__get__" = some (some (.builtin "getset_descriptor.__get__")))
    (gtk : PySem.W.takesIn K (.builtin "object.__class__") = some true)
    (aC_BadLine : PySem.W.nsIn K mainGlobals "BadLine" = some (some (.ref C_BadLine)))
    (su_BadLine : PySem.W.subIn K (.ref C_BadLine) (.type "BaseException") = some true)
    (ty_BadLine : PySem.W.typeIn K (.ref C_BadLine) = some (.type "type"))
    (hd_BadLine : PySem.W.hasDictIn K C_BadLine = true)
    (kp_BadLine : PySem.W.keepIn K (.ref C_BadLine) = true)
    (cl_BadLine : (PySem.W.clsIn K C_BadLine).isSome = true)
    (ga_BadLine : PySem.W.findIn K (.ref C_BadLine) "__getattribute__" = some (some (.builtin "BaseException.__getattribute__")))
    (gg_BadLine : PySem.W.findIn K (.ref C_BadLine) "__getattr__" = some none)
    (ac_BadLine : PySem.W.findIn K (.ref C_BadLine) "__class__" = some (some (.builtin "object.__class__")))
    (mr_BadLine : PySem.W.mroIn K C_BadLine (.type "object") = some true)
    (xL_BadLine : K.lookup C_BadLine = some (excClassObj nm_BadLine q_BadLine C_BadLine N_BadLine bs_BadLine bm_BadLine true sn_BadLine sub_BadLine ab_BadLine col_BadLine dd_BadLine m0_BadLine m1_BadLine m2_BadLine m3_BadLine m5_BadLine "ValueError.__new__"))
    (rf_BadLine : PySem.HandSPX.refsVE bm_BadLine = true)
    (sa_BadLine : PySem.W.findIn K (.ref C_BadLine) "__setattr__" = some (some (.builtin "object.__setattr__")))
    (nf_BadLine_line : PySem.W.findIn K (.ref C_BadLine) "line" = some none)
    (nf_BadLine_word : PySem.W.findIn K (.ref C_BadLine) "word" = some none)
    (iC_BadLine : PySem.W.findIn K (.ref C_BadLine) "__init__" = some (some (.ref fi_BadLine)))
    (tI_BadLine : PySem.W.typeIn K (.ref fi_BadLine) = some (.type "function"))
    (li_BadLine : K.lookup fi_BadLine = some ⟨oci_BadLine, odi_BadLine, .func (PySem.W.fnOf "__init__" "BadLine.__init__" (defArgs si_BadLine) (defBody si_BadLine) (defScope si_BadLine) .none kVi_BadLine dci_BadLine pmi_BadLine ani_BadLine cdi_BadLine cti_BadLine), sli_BadLine⟩)
    (ci_BadLine : PySem.W.codeIn K cdi_BadLine "BadLine.__init__" = true)
    (ki_BadLine : PySem.W.keepIn K (.ref fi_BadLine) = true)
    (aC_RootError : PySem.W.nsIn K mainGlobals "RootError" = some (some (.ref C_RootError)))
    (x_BadLine_BadLine : PySem.W.subIn K (.ref C_BadLine) (.ref C_BadLine) = some true)
    (kt_BadLine_RootError : PySem.W.kitOne K (.ref C_BadLine) (.ref C_RootError) = some true) :
    ∃ fd : FuncData, (∀ (s : Shared) (v : Value), BindsTo s fd ⟨[v], []⟩ [("_law_script", v)]) ∧ ∀ base : Heap, K.In base → base.Ns mainGlobals mg → FnOk P w K mg base (L2.CX P w) 6 fa fd ["_law_script"] (spLaw K) := by
  have e := hfa.symm.trans (PySem.W.mg_of X G a_law)
  cases e
  have F_is_whole := fun_mk (st := s_is_whole) l_is_whole c_is_whole k_is_whole
  have b_is_whole := F_is_whole.binds (ps := ["word"]) fun _ _ _ _ _ _ us hl => match us, hl with | [_], _ => rfl
  have F_poly_in := fun_mk (st := s_poly_in) l_poly_in c_poly_in k_poly_in
  have b_poly_in := F_poly_in.binds (ps := ["words", "line"]) fun _ _ _ _ _ _ us hl => match us, hl with | [_, _], _ => rfl
  have F_read := fun_mk (st := s_read) l_read c_read k_read
  have b_read := F_read.binds (ps := ["text"]) fun _ _ _ _ _ _ us hl => match us, hl with | [_], _ => rfl
  have F__law_draws := fun_mk (st := s__law_draws) l__law_draws c__law_draws k__law_draws
  have b__law_draws := F__law_draws.binds (ps := ["_law_script"]) fun _ _ _ _ _ _ us hl => match us, hl with | [_], _ => rfl
  have F__law_pick := fun_mk (st := s__law_pick) l__law_pick c__law_pick k__law_pick
  have b__law_pick := F__law_pick.binds (ps := ["_law_row", "_law_many"]) fun _ _ _ _ _ _ us hl => match us, hl with | [_, _], _ => rfl
  have F__law_end := fun_mk (st := s__law_end) l__law_end c__law_end k__law_end
  have b__law_end := F__law_end.binds (ps := ["_law_numbers"]) fun _ _ _ _ _ _ us hl => match us, hl with | [_], _ => rfl
  have F__law_poly := fun_mk (st := s__law_poly) l__law_poly c__law_poly k__law_poly
  have b__law_poly := F__law_poly.binds (ps := ["_law_row", "_law_most"]) fun _ _ _ _ _ _ us hl => match us, hl with | [_, _], _ => rfl
  have F__law_fault := fun_mk (st := s__law_fault) l__law_fault c__law_fault k__law_fault
  have b__law_fault := F__law_fault.binds (ps := ["_law_words"]) fun _ _ _ _ _ _ us hl => match us, hl with | [_], _ => rfl
  have F__law_due := fun_mk (st := s__law_due) l__law_due c__law_due k__law_due
  have b__law_due := F__law_due.binds (ps := ["_law_text"]) fun _ _ _ _ _ _ us hl => match us, hl with | [_], _ => rfl
  have F__law_told_there := fun_mk (st := s__law_told_there) l__law_told_there c__law_told_there k__law_told_there
  have b__law_told_there := F__law_told_there.binds (ps := ["_law_text"]) fun _ _ _ _ _ _ us hl => match us, hl with | [_], _ => rfl
  have F__law_spoilt := fun_mk (st := s__law_spoilt) l__law_spoilt c__law_spoilt k__law_spoilt
  have b__law_spoilt := F__law_spoilt.binds (ps := ["_law_row", "_law_line"]) fun _ _ _ _ _ _ us hl => match us, hl with | [_, _], _ => rfl
  have F_law := fun_mk (st := s_law) l_law c_law k_law
  have b_law := F_law.binds (ps := ["_law_script"]) fun _ _ _ _ _ _ us hl => match us, hl with | [_], _ => rfl
  have e_BadLine : EcK K C_BadLine := ⟨kp_BadLine, su_BadLine, ty_BadLine, cl_BadLine, hd_BadLine, ga_BadLine, gg_BadLine, ac_BadLine, gsp, gtk, mr_BadLine⟩
  have Fi_BadLine := fun_mk (st := si_BadLine) li_BadLine ci_BadLine ki_BadLine
  have bi_BadLine := Fi_BadLine.binds (ps := ["self", "line", "word"]) fun _ _ _ _ _ _ us hl => match us, hl with | [_, _, _], _ => rfl
  have ox_BadLine : OexC K C_BadLine := ⟨⟨_, _, _, _, _, _, _, _, _, _, _, _, _, _, _, xL_BadLine, rf_BadLine⟩, sa_BadLine, su_BadLine, ty_BadLine, kp_BadLine⟩
  exact ⟨_, fun s v => .of_eq rfl, fun base _ _ => (ok_all (A0 := ⟨f_is_whole, _, f_poly_in, _, f_read, _, f__law_draws, _, f__law_pick, _, f__law_end, _, f__law_poly, _, f__law_fault, _, f__law_due, _, f__law_told_there, _, f__law_spoilt, _, fa, _, C_BadLine, C_RootError, fi_BadLine, _, t_DIGITS, t_FAR, t_MOST_FIGURES, t_MOST_TERMS, t_POLY, ()⟩) ⟨F_is_whole, b_is_whole, PySem.W.mg_of X G a_is_whole, F_poly_in, b_poly_in, PySem.W.mg_of X G a_poly_in, F_read, b_read, PySem.W.mg_of X G a_read, F__law_draws, b__law_draws, PySem.W.mg_of X G a__law_draws, F__law_pick, b__law_pick, PySem.W.mg_of X G a__law_pick, F__law_end, b__law_end, PySem.W.mg_of X G a__law_end, F__law_poly, b__law_poly, PySem.W.mg_of X G a__law_poly, F__law_fault, b__law_fault, PySem.W.mg_of X G a__law_fault, F__law_due, b__law_due, PySem.W.mg_of X G a__law_due, F__law_told_there, b__law_told_there, PySem.W.mg_of X G a__law_told_there, F__law_spoilt, b__law_spoilt, PySem.W.mg_of X G a__law_spoilt, F_law, b_law, PySem.W.mg_of X G a_law, PySem.W.mg_of X G v_DIGITS, PySem.W.mg_of X G v_FAR, PySem.W.mg_of X G v_MOST_FIGURES, PySem.W.mg_of X G v_MOST_TERMS, PySem.W.mg_of X G v_POLY, PySem.W.mg_none_of X G z_abs, PySem.W.mg_none_of X G z_all, PySem.W.mg_none_of X G z_enumerate, PySem.W.mg_none_of X G z_int, PySem.W.mg_none_of X G z_isinstance, PySem.W.mg_none_of X G z_len, PySem.W.mg_none_of X G z_list, PySem.W.mg_none_of X G z_min, PySem.W.mg_none_of X G z_range, PySem.W.mg_none_of X G z_str, PySem.W.mg_none_of X G z_tuple, PySem.W.mg_of X G aC_BadLine, e_BadLine, ⟨ox_BadLine, e_BadLine, (mem_c nf_BadLine_line (mem_c nf_BadLine_word (fun _ z => (List.not_mem_nil z).elim))), iC_BadLine, tI_BadLine, init2_ok Fi_BadLine sci_BadLine rfl (by first | exact .inl rfl | exact .inr (.inl rfl)) (by first | exact .inl rfl | exact .inr (.inl rfl)) (by first | exact .inl rfl | exact .inr (.inl rfl)) rfl rfl rfl rfl, bi_BadLine⟩, PySem.W.mg_of X G aC_RootError, PySem.W.exm_ref su_BadLine hd_BadLine ty_BadLine x_BadLine_BadLine, kt_BadLine_RootError, ⟨ga_BadLine, gg_BadLine, su_BadLine, hd_BadLine⟩, nf_BadLine_line, nf_BadLine_word, trivial⟩).imp fun vs H Q E hs => sp_law hs fun ns => m_law_true ns⟩
end L3
open PySem PySem.W PyProof.Rows
set_option maxRecDepth 100000 in
set_option maxHeartbeats 0 in
theorem PySem.Challenge.cw_fewroots_k13_texts_refused_holds : PySem.Challenge.rw_fewroots_k13_texts_refused.Holds := by
  w_on; o_law; k_head; (case hw => w_witness2)
  k_fill
  refine L2.walk_of (l := PySem.Challenge.rw_fewroots_k13_texts_refused) (n := 63) (k := 6) (x := "_law_script") (CX := fun w => L2.CX PySem.Challenge.rw_fewroots_k13_texts_refused.prog w) (sp := fun w => L3.spLaw _) rfl (by decide) rfl ⟨rfl, by decide, by decide⟩ (fun w h Y => PySem.W.kIn_of Y) ?F (fun _ _ a ns hl _ hS => ⟨a, ns, rfl, hS, fun _ => rfl⟩) (fun _ _ _ _ _ h => L3.cx_no h)
  case F =>
    intro w mg fa h KX G hmg
    refine' L3.all_mk KX G hmg ?a_is_whole ?l_is_whole ?c_is_whole ?k_is_whole ?a_poly_in ?l_poly_in ?c_poly_in ?k_poly_in ?a_read ?l_read ?c_read ?k_read ?a__law_draws ?l__law_draws ?c__law_draws ?k__law_draws ?a__law_pick ?l__law_pick ?c__law_pick ?k__law_pick ?a__law_end ?l__law_end ?c__law_end ?k__law_end ?a__law_poly ?l__law_poly ?c__law_poly ?k__law_poly ?a__law_fault ?l__law_fault ?c__law_fault ?k__law_fault ?a__law_due ?l__law_due ?c__law_due ?k__law_due ?a__law_told_there ?l__law_told_there ?c__law_told_there ?k__law_told_there ?a__law_spoilt ?l__law_spoilt ?c__law_spoilt ?k__law_spoilt ?a_law ?l_law ?c_law ?k_law ?v_DIGITS ?v_FAR ?v_MOST_FIGURES ?v_MOST_TERMS ?v_POLY ?z_abs ?z_all ?z_enumerate ?z_int ?z_isinstance ?z_len ?z_list ?z_min ?z_range ?z_str ?z_tuple ?gsp ?gtk ?aC_BadLine ?su_BadLine ?ty_BadLine ?hd_BadLine ?kp_BadLine ?cl_BadLine ?ga_BadLine ?gg_BadLine ?ac_BadLine ?mr_BadLine ?xL_BadLine ?rf_BadLine ?sa_BadLine ?nf_BadLine_line ?nf_BadLine_word ?iC_BadLine ?tI_BadLine ?li_BadLine ?ci_BadLine ?ki_BadLine ?aC_RootError ?x_BadLine_BadLine ?kt_BadLine_RootError
    (case a_is_whole => first | k_is | kit_is | k_exc | rfl)
    (case l_is_whole => first | k_is | kit_is | k_exc | rfl)
    (case c_is_whole => first | k_is | kit_is | k_exc | rfl)
    (case k_is_whole => first | k_is | kit_is | k_exc | rfl)
    (case a_poly_in => first | k_is | kit_is | k_exc | rfl)
    (case l_poly_in => first | k_is | kit_is | k_exc | rfl)
    (case c_poly_in => first | k_is | kit_is | k_exc | rfl)
    (case k_poly_in => first | k_is | kit_is | k_exc | rfl)
    (case a_read => first | k_is | kit_is | k_exc | rfl)
    (case l_read => first | k_is | kit_is | k_exc | rfl)
    (case c_read => first | k_is | kit_is | k_exc | rfl)
    (case k_read => first | k_is | kit_is | k_exc | rfl)
    (case a__law_draws => first | k_is | kit_is | k_exc | rfl)
    (case l__law_draws => first | k_is | kit_is | k_exc | rfl)
    (case c__law_draws => first | k_is | kit_is | k_exc | rfl)
    (case k__law_draws => first | k_is | kit_is | k_exc | rfl)
    (case a__law_pick => first | k_is | kit_is | k_exc | rfl)
    (case l__law_pick => first | k_is | kit_is | k_exc | rfl)
    (case c__law_pick => first | k_is | kit_is | k_exc | rfl)
    (case k__law_pick => first | k_is | kit_is | k_exc | rfl)
    (case a__law_end => first | k_is | kit_is | k_exc | rfl)
    (case l__law_end => first | k_is | kit_is | k_exc | rfl)
    (case c__law_end => first | k_is | kit_is | k_exc | rfl)
    (case k__law_end => first | k_is | kit_is | k_exc | rfl)
    (case a__law_poly => first | k_is | kit_is | k_exc | rfl)
    (case l__law_poly => first | k_is | kit_is | k_exc | rfl)
    (case c__law_poly => first | k_is | kit_is | k_exc | rfl)
    (case k__law_poly => first | k_is | kit_is | k_exc | rfl)
    (case a__law_fault => first | k_is | kit_is | k_exc | rfl)
    (case l__law_fault => first | k_is | kit_is | k_exc | rfl)
    (case c__law_fault => first | k_is | kit_is | k_exc | rfl)
    (case k__law_fault => first | k_is | kit_is | k_exc | rfl)
    (case a__law_due => first | k_is | kit_is | k_exc | rfl)
    (case l__law_due => first | k_is | kit_is | k_exc | rfl)
    (case c__law_due => first | k_is | kit_is | k_exc | rfl)
    (case k__law_due => first | k_is | kit_is | k_exc | rfl)
    (case a__law_told_there => first | k_is | kit_is | k_exc | rfl)
    (case l__law_told_there => first | k_is | kit_is | k_exc | rfl)
    (case c__law_told_there => first | k_is | kit_is | k_exc | rfl)
    (case k__law_told_there => first | k_is | kit_is | k_exc | rfl)
    (case a__law_spoilt => first | k_is | kit_is | k_exc | rfl)
    (case l__law_spoilt => first | k_is | kit_is | k_exc | rfl)
    (case c__law_spoilt => first | k_is | kit_is | k_exc | rfl)
    (case k__law_spoilt => first | k_is | kit_is | k_exc | rfl)
    (case a_law => first | k_is | kit_is | k_exc | rfl)
    (case l_law => first | k_is | kit_is | k_exc | rfl)
    (case c_law => first | k_is | kit_is | k_exc | rfl)
    (case k_law => first | k_is | kit_is | k_exc | rfl)
    (case v_DIGITS => first | k_is | kit_is | k_exc | rfl)
    (case v_FAR => first | k_is | kit_is | k_exc | rfl)
    (case v_MOST_FIGURES => first | k_is | kit_is | k_exc | rfl)
    (case v_MOST_TERMS => first | k_is | kit_is | k_exc | rfl)
    (case v_POLY => first | k_is | kit_is | k_exc | rfl)
    (case z_abs => first | k_is | kit_is | k_exc | rfl)
    (case z_all => first | k_is | kit_is | k_exc | rfl)
    (case z_enumerate => first | k_is | kit_is | k_exc | rfl)
    (case z_int => first | k_is | kit_is | k_exc | rfl)
    (case z_isinstance => first | k_is | kit_is | k_exc | rfl)
    (case z_len => first | k_is | kit_is | k_exc | rfl)
    (case z_list => first | k_is | kit_is | k_exc | rfl)
    (case z_min => first | k_is | kit_is | k_exc | rfl)
    (case z_range => first | k_is | kit_is | k_exc | rfl)
    (case z_str => first | k_is | kit_is | k_exc | rfl)
    (case z_tuple => first | k_is | kit_is | k_exc | rfl)
    (case gsp => first | k_is | kit_is | k_exc | rfl)
    (case gtk => first | k_is | kit_is | k_exc | rfl)
    (case aC_BadLine => first | k_is | kit_is | k_exc | rfl)
    (case su_BadLine => first | k_is | kit_is | k_exc | rfl)
    (case ty_BadLine => first | k_is | kit_is | k_exc | rfl)
    (case hd_BadLine => first | k_is | kit_is | k_exc | rfl)
    (case kp_BadLine => first | k_is | kit_is | k_exc | rfl)
    (case cl_BadLine => first | k_is | kit_is | k_exc | rfl)
    (case ga_BadLine => first | k_is | kit_is | k_exc | rfl)
    (case gg_BadLine => first | k_is | kit_is | k_exc | rfl)
    (case ac_BadLine => first | k_is | kit_is | k_exc | rfl)
    (case mr_BadLine => first | k_is | kit_is | k_exc | rfl)
    (case xL_BadLine => first | k_is | kit_is | k_exc | rfl)
    (case rf_BadLine => first | k_is | kit_is | k_exc | rfl)
    (case sa_BadLine => first | k_is | kit_is | k_exc | rfl)
    (case nf_BadLine_line => first | k_is | kit_is | k_exc | rfl)
    (case nf_BadLine_word => first | k_is | kit_is | k_exc | rfl)
    (case iC_BadLine => first | k_is | kit_is | k_exc | rfl)
    (case tI_BadLine => first | k_is | kit_is | k_exc | rfl)
    (case li_BadLine => first | k_is | kit_is | k_exc | rfl)
    (case ci_BadLine => first | k_is | kit_is | k_exc | rfl)
    (case ki_BadLine => first | k_is | kit_is | k_exc | rfl)
    (case aC_RootError => first | k_is | kit_is | k_exc | rfl)
    (case x_BadLine_BadLine => first | k_is | kit_is | k_exc | rfl)
    (case kt_BadLine_RootError => first | k_is | kit_is | k_exc | rfl)


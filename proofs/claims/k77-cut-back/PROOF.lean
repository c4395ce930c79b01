import PyProof.Rows.All
import Wide.All
import OpenK.AllK
import Wide.FinOn
import HandS.ForMost
import HandS.ForExc
import HandS.Walk
import HandS.Zip
import HandS.Defaults
import HandS.IsInst
import HandS.TupAny
import HandS.TupLe
import HandS.SortInts
import HandS.SortKw
import HandS.Strs
import HandS.Wide
import HandS.OwnEq
import HandS.HeadHook2
import HandS.Style
import HandS.DictComp
import HandS.MakeKw
import KE.KDictKeyed
import HandS.Conv
import HandS.More
import HandS.Text
import HandS.NoneIn
import KE.GoesEnumKw
import KE.GoesMore
import PyProof.InstNe
import HandS.SetFor
import HandS.Small
import HandS.Codes
import KE.SortData
import KE.KStateDown
import HandS.Head0
import HandS.Head1
import HandS.Head2
import HandS.HeadEnd
import KE.GoesZip
import HandS.Deep
import PySem.Challenge.RW_pastlay_k77_whole_cut_back
section
set_option Elab.async false
set_option linter.all false
set_option maxRecDepth 100000
set_option maxHeartbeats 1000000
namespace DL
open PySem PySem.Spec L2

inductive D where
  | non | bl (b : Bool) | int (i : Int) | str (x : Str)
  | tup (xs : List D) | lst (xs : List D) | rol (xs : List D) | dct (kvs : List (Key × D))
  | obj (c : Str) (fs : List (Str × D))
  | ref (a : Addr) | cls (x : Str) | ty (n : String)
deriving Inhabited

inductive MO where
  | lst (xs : List D) | ins (c : Str) (fs : List (Str × D)) | dct (kvs : List (Key × D))
  | ldc (kvs : List (Leaf × D)) | tab (kvs : List (NestedKey × D))

structure KW where
  k : PySem.W.Frag
  P : Program
  w : World
instance : Coe KW PySem.W.Frag := ⟨KW.k⟩
abbrev _root_.L2.Cx.kw (X : L2.Cx) : KW := ⟨X.K, X.prog, X.w⟩

abbrev Mem := Addr → Option MO
def Mem.set (μ : Mem) (a : Addr) (m : MO) : Mem := fun b => if b = a then some m else μ b
def Mem.del (μ : Mem) (a : Addr) : Mem := fun b => if b = a then none else μ b
@[simp] theorem Mem.set_same (μ : Mem) (a : Addr) (m : MO) : μ.set a m a = some m := if_pos rfl
theorem Mem.set_ne {μ : Mem} {a b : Addr} {m : MO} (h : b ≠ a) : μ.set a m b = μ b := if_neg h
@[simp] theorem Mem.set_set (μ : Mem) (a : Addr) (m m' : MO) : (μ.set a m).set a m' = μ.set a m' := by
  funext b; unfold Mem.set; split <;> rfl
@[simp] theorem Mem.del_same (μ : Mem) (a : Addr) : μ.del a a = none := if_pos rfl
theorem Mem.del_set {μ : Mem} {a : Addr} {m : MO} (h : μ a = none) : (μ.set a m).del a = μ := by
  funext b; unfold Mem.set Mem.del
  by_cases e : b = a
  · subst e; simp [h]
  · simp [e]
def Mem.Sub (μ' μ : Mem) : Prop := ∀ a m, μ' a = some m → μ a = some m
theorem Mem.Sub.refl (μ : Mem) : Mem.Sub μ μ := fun _ _ h => h
theorem Mem.Sub.trans {a b c : Mem} (h : Mem.Sub a b) (k : Mem.Sub b c) : Mem.Sub a c := fun x m e => k x m (h x m e)
theorem Mem.Sub.set {μ : Mem} {a : Addr} {m : MO} (h : μ a = none) : Mem.Sub μ (μ.set a m) := fun b o e => by
  rw [Mem.set_ne (fun z => by rw [z, h] at e; cases e)]; exact e

abbrev Le (F H : Hp) : Prop := Same F H

def TupAt (K : PySem.W.Frag) (F : Hp) (a : Addr) (xs : List V) : Prop :=
  F a = some (.tup xs) ∨ ∃ (o : Obj) (its : Array Value) (n : Nat), K.lookup a = some o ∧ o.cls = .type "tuple" ∧ o.data = .seq its n ∧ its.size ≤ sizeLine ∧ Vals xs its.toList
theorem TupAt.sq {K : PySem.W.Frag} {F : Hp} {a : Addr} {xs : List V} (h : TupAt K F a xs) : SqT K F a xs := h.elim (fun h => .inl (.inl h)) .inr
theorem TupAt.le {K : PySem.W.Frag} {F F' : Hp} {a : Addr} {xs : List V} (l : Le F F') (h : TupAt K F a xs) : TupAt K F' a xs := h.elim (fun h => .inl (l _ _ h)) .inr
section
variable (K : PySem.W.Frag) (F : Hp)
mutual
def Rep : D → V → Prop
  | .non, v => v = .non
  | .bl b, v => v = .bl b
  | .int i, v => v = .int i
  | .str x, v => v = .str x
  | .tup xs, v => ∃ a vs, v = .ref a ∧ TupAt K F a vs ∧ RepL xs vs
  | .lst xs, v => ∃ a vs, v = .ref a ∧ F a = some (.lst vs) ∧ RepL xs vs
  | .rol xs, v => ∃ a vs, v = .ref a ∧ SqL K F a vs ∧ RepL xs vs
  | .dct kvs, v => ∃ a ws, v = .ref a ∧ (∃ o, F a = some (.frz o (.dK ws))) ∧ RepK kvs ws
  | .obj c fs, v => ∃ a dx gs, v = .ref a ∧ F a = some (.ins (He.ga K c) dx gs) ∧ RepF fs gs
  | .ref a, v => v = .ref a
  | .cls x, v => v = .ref (He.ga K x)
  | .ty n, v => v = .ty n
def RepL : List D → List V → Prop
  | [], vs => vs = []
  | d :: ds, vs => ∃ v r, vs = v :: r ∧ Rep d v ∧ RepL ds r
def RepF : List (Str × D) → List (Str × V) → Prop
  | [], vs => vs = []
  | (f, d) :: ds, vs => ∃ v r, vs = (f, v) :: r ∧ Rep d v ∧ RepF ds r
def RepK : List (Key × D) → List (Key × V) → Prop
  | [], vs => vs = []
  | (f, d) :: ds, vs => ∃ v r, vs = (f, v) :: r ∧ Rep d v ∧ RepK ds r
end
end

theorem SqL.le {K : PySem.W.Frag} {F F' : Hp} {a : Addr} {xs : List V} (h : Le F F') (q : SqL K F a xs) : SqL K F' a xs := h.seq q
theorem SqT.le {K : PySem.W.Frag} {F F' : Hp} {a : Addr} {xs : List V} (e : Le F F') (h : SqT K F a xs) : SqT K F' a xs := by
  rcases h with (h | ⟨o, h⟩) | h
  · exact .inl (.inl (e _ _ h))
  · exact .inl (.inr ⟨o, e _ _ h⟩)
  · exact .inr h

section
variable {K : PySem.W.Frag} {F F' : Hp}
mutual
theorem Rep.le (h : Le F F') : ∀ (d : D) (v : V), Rep K F d v → Rep K F' d v
  | .non, _, q => by unfold Rep at q ⊢; exact q
  | .bl _, _, q => by unfold Rep at q ⊢; exact q
  | .int _, _, q => by unfold Rep at q ⊢; exact q
  | .str _, _, q => by unfold Rep at q ⊢; exact q
  | .ref _, _, q => by unfold Rep at q ⊢; exact q
  | .cls _, _, q => by unfold Rep at q ⊢; exact q
  | .ty _, _, q => by unfold Rep at q ⊢; exact q
  | .tup xs, _, q => by
    unfold Rep at q ⊢
    obtain ⟨a, vs, e, s, r⟩ := q
    exact ⟨a, vs, e, TupAt.le h s, RepL.le h xs vs r⟩
  | .lst xs, _, q => by
    unfold Rep at q ⊢
    obtain ⟨a, vs, e, s, r⟩ := q
    exact ⟨a, vs, e, h _ _ s, RepL.le h xs vs r⟩
  | .rol xs, _, q => by
    unfold Rep at q ⊢
    obtain ⟨a, vs, e, s, r⟩ := q
    exact ⟨a, vs, e, SqL.le h s, RepL.le h xs vs r⟩
  | .dct kvs, _, q => by
    unfold Rep at q ⊢
    obtain ⟨a, vs, e, ⟨o, s⟩, r⟩ := q
    exact ⟨a, vs, e, ⟨o, h _ _ s⟩, RepK.le h kvs vs r⟩
  | .obj c fs, _, q => by
    unfold Rep at q ⊢
    obtain ⟨a, dx, gs, e, s, r⟩ := q
    exact ⟨a, dx, gs, e, h _ _ s, RepF.le h fs gs r⟩
theorem RepL.le (h : Le F F') : ∀ (ds : List D) (vs : List V), RepL K F ds vs → RepL K F' ds vs
  | [], _, q => by unfold RepL at q ⊢; exact q
  | d :: ds, _, q => by
    unfold RepL at q ⊢
    obtain ⟨v, r, e, a, b⟩ := q
    exact ⟨v, r, e, Rep.le h d v a, RepL.le h ds r b⟩
theorem RepF.le (h : Le F F') : ∀ (ds : List (Str × D)) (vs : List (Str × V)), RepF K F ds vs → RepF K F' ds vs
  | [], _, q => by unfold RepF at q ⊢; exact q
  | (f, d) :: ds, _, q => by
    unfold RepF at q ⊢
    obtain ⟨v, r, e, a, b⟩ := q
    exact ⟨v, r, e, Rep.le h d v a, RepF.le h ds r b⟩
theorem RepK.le (h : Le F F') : ∀ (ds : List (Key × D)) (vs : List (Key × V)), RepK K F ds vs → RepK K F' ds vs
  | [], _, q => by unfold RepK at q ⊢; exact q
  | (f, d) :: ds, _, q => by
    unfold RepK at q ⊢
    obtain ⟨v, r, e, a, b⟩ := q
    exact ⟨v, r, e, Rep.le h d v a, RepK.le h ds r b⟩
end
end

section
variable {K : PySem.W.Frag} {F : Hp}
@[simp] theorem rep_non {v : V} : Rep K F .non v ↔ v = .non := by unfold Rep; exact Iff.rfl
@[simp] theorem rep_bl {v : V} {b : Bool} : Rep K F (.bl b) v ↔ v = .bl b := by unfold Rep; exact Iff.rfl
@[simp] theorem rep_int {v : V} {b : Int} : Rep K F (.int b) v ↔ v = .int b := by unfold Rep; exact Iff.rfl
@[simp] theorem rep_str {v : V} {b : Str} : Rep K F (.str b) v ↔ v = .str b := by unfold Rep; exact Iff.rfl
@[simp] theorem rep_ref {v : V} {b : Addr} : Rep K F (.ref b) v ↔ v = .ref b := by unfold Rep; exact Iff.rfl
@[simp] theorem rep_cls {v : V} {b : Str} : Rep K F (.cls b) v ↔ v = .ref (He.ga K b) := by unfold Rep; exact Iff.rfl
@[simp] theorem rep_ty {v : V} {b : String} : Rep K F (.ty b) v ↔ v = .ty b := by unfold Rep; exact Iff.rfl
theorem rep_tup {v : V} {xs : List D} : Rep K F (.tup xs) v ↔ ∃ a vs, v = .ref a ∧ TupAt K F a vs ∧ RepL K F xs vs := by unfold Rep; exact Iff.rfl
theorem rep_lst {v : V} {xs : List D} : Rep K F (.lst xs) v ↔ ∃ a vs, v = .ref a ∧ F a = some (.lst vs) ∧ RepL K F xs vs := by unfold Rep; exact Iff.rfl
theorem rep_rol {v : V} {xs : List D} : Rep K F (.rol xs) v ↔ ∃ a vs, v = .ref a ∧ SqL K F a vs ∧ RepL K F xs vs := by unfold Rep; exact Iff.rfl
theorem rep_dct {v : V} {xs : List (Key × D)} : Rep K F (.dct xs) v ↔ ∃ a vs, v = .ref a ∧ (∃ o, F a = some (.frz o (.dK vs))) ∧ RepK K F xs vs := by unfold Rep; exact Iff.rfl
theorem rep_obj {v : V} {c : Str} {fs : List (Str × D)} : Rep K F (.obj c fs) v ↔ ∃ a dx gs, v = .ref a ∧ F a = some (.ins (He.ga K c) dx gs) ∧ RepF K F fs gs := by unfold Rep; exact Iff.rfl
theorem repL_nil {vs : List V} : RepL K F [] vs ↔ vs = [] := by unfold RepL; exact Iff.rfl
theorem repL_cons {d : D} {ds : List D} {vs : List V} : RepL K F (d :: ds) vs ↔ ∃ v r, vs = v :: r ∧ Rep K F d v ∧ RepL K F ds r := by rw [RepL]
theorem RepL.mk {d : D} {ds : List D} {v : V} {vs : List V} (h : Rep K F d v) (t : RepL K F ds vs) : RepL K F (d :: ds) (v :: vs) := repL_cons.mpr ⟨v, vs, rfl, h, t⟩
theorem RepL.nil : RepL K F [] [] := repL_nil.mpr rfl
theorem repF_nil {vs : List (Str × V)} : RepF K F [] vs ↔ vs = [] := by unfold RepF; exact Iff.rfl
theorem repF_cons {f : Str} {d : D} {ds : List (Str × D)} {vs : List (Str × V)} : RepF K F ((f, d) :: ds) vs ↔ ∃ v r, vs = (f, v) :: r ∧ Rep K F d v ∧ RepF K F ds r := by rw [RepF]
theorem repK_nil {vs : List (Key × V)} : RepK K F [] vs ↔ vs = [] := by unfold RepK; exact Iff.rfl
theorem repK_cons {f : Key} {d : D} {ds : List (Key × D)} {vs : List (Key × V)} : RepK K F ((f, d) :: ds) vs ↔ ∃ v r, vs = (f, v) :: r ∧ Rep K F d v ∧ RepK K F ds r := by rw [RepK]
theorem RepL.length : ∀ {ds : List D} {vs : List V}, RepL K F ds vs → ds.length = vs.length
  | [], _, q => by rw [repL_nil] at q; subst q; rfl
  | d :: ds, _, q => by
    obtain ⟨v, r, rfl, _, b⟩ := repL_cons.mp q
    simp [RepL.length b]
theorem RepL.get : ∀ {ds : List D} {vs : List V} {i : Nat} {d : D}, RepL K F ds vs → ds[i]? = some d → ∃ v, vs[i]? = some v ∧ Rep K F d v
  | [], _, _, _, _, e => by simp at e
  | d :: ds, _, 0, _, q, e => by
    obtain ⟨v, r, rfl, a, b⟩ := repL_cons.mp q
    simp at e; subst e
    exact ⟨v, rfl, a⟩
  | d :: ds, _, i + 1, _, q, e => by
    obtain ⟨v, r, rfl, a, b⟩ := repL_cons.mp q
    simpa using RepL.get (i := i) b (by simpa using e)
theorem RepL.getV : ∀ {ds : List D} {vs : List V} {i : Nat} {v : V}, RepL K F ds vs → vs[i]? = some v → ∃ d, ds[i]? = some d ∧ Rep K F d v := fun {ds vs i v} q e => by
  have hl := RepL.length q
  have hi := (List.getElem?_eq_some_iff.mp e).1
  obtain ⟨d, hd⟩ : ∃ d, ds[i]? = some d := ⟨ds[i]'(by omega), by simp [hl, hi]⟩
  obtain ⟨v', e', r⟩ := q.get hd
  rw [e] at e'; cases e'
  exact ⟨d, hd, r⟩
theorem RepL.app : ∀ {ds es : List D} {vs ws : List V}, RepL K F ds vs → RepL K F es ws → RepL K F (ds ++ es) (vs ++ ws)
  | [], _, _, _, q, s => by rw [repL_nil] at q; subst q; exact s
  | d :: ds, _, _, _, q, s => by
    obtain ⟨v, r, rfl, a, b⟩ := repL_cons.mp q
    exact RepL.mk a (RepL.app b s)
theorem RepL.one {d : D} {v : V} (h : Rep K F d v) : RepL K F [d] [v] := RepL.mk h RepL.nil
theorem RepL.take : ∀ {ds : List D} {vs : List V} (n : Nat), RepL K F ds vs → RepL K F (ds.take n) (vs.take n)
  | _, _, 0, _ => by simp [repL_nil]
  | [], _, n + 1, q => by rw [repL_nil] at q; subst q; simp [repL_nil]
  | d :: ds, _, n + 1, q => by
    obtain ⟨v, r, rfl, a, b⟩ := repL_cons.mp q
    exact RepL.mk a (RepL.take n b)
theorem RepL.drop : ∀ {ds : List D} {vs : List V} (n : Nat), RepL K F ds vs → RepL K F (ds.drop n) (vs.drop n)
  | _, _, 0, q => q
  | [], _, n + 1, q => by rw [repL_nil] at q; subst q; simp [repL_nil]
  | d :: ds, _, n + 1, q => by
    obtain ⟨v, r, rfl, a, b⟩ := repL_cons.mp q
    exact RepL.drop n b
theorem RepL.set : ∀ {ds : List D} {vs : List V} (n : Nat) {d : D} {v : V}, RepL K F ds vs → Rep K F d v → RepL K F (ds.set n d) (vs.set n v)
  | [], _, n, _, _, q, _ => by rw [repL_nil] at q; subst q; simp [repL_nil]
  | d :: ds, _, 0, _, _, q, h => by
    obtain ⟨v, r, rfl, a, b⟩ := repL_cons.mp q
    exact RepL.mk h b
  | d :: ds, _, n + 1, _, _, q, h => by
    obtain ⟨v, r, rfl, a, b⟩ := repL_cons.mp q
    exact RepL.mk a (RepL.set n b h)
theorem RepL.erase : ∀ {ds : List D} {vs : List V} (n : Nat), RepL K F ds vs → RepL K F (ds.eraseIdx n) (vs.eraseIdx n)
  | [], _, n, q => by rw [repL_nil] at q; subst q; simp [repL_nil]
  | d :: ds, _, 0, q => by
    obtain ⟨v, r, rfl, a, b⟩ := repL_cons.mp q
    exact b
  | d :: ds, _, n + 1, q => by
    obtain ⟨v, r, rfl, a, b⟩ := repL_cons.mp q
    exact RepL.mk a (RepL.erase n b)
theorem RepL.dropLast {ds : List D} {vs : List V} (q : RepL K F ds vs) : RepL K F ds.dropLast vs.dropLast := by
  rw [List.dropLast_eq_take, List.dropLast_eq_take, ← q.length]
  exact q.take _
theorem RepL.reverse : ∀ {ds : List D} {vs : List V}, RepL K F ds vs → RepL K F ds.reverse vs.reverse
  | [], _, q => by rw [repL_nil] at q; subst q; exact RepL.nil
  | d :: ds, _, q => by
    obtain ⟨v, r, rfl, a, b⟩ := repL_cons.mp q
    simp only [List.reverse_cons]
    exact RepL.app (RepL.reverse b) (RepL.one a)
theorem RepL.ints : ∀ {ns : List Int} {vs : List V}, RepL K F (ns.map D.int) vs → vs = ns.map V.int
  | [], _, q => by rw [List.map_nil, repL_nil] at q; exact q
  | n :: ns, _, q => by
    rw [List.map_cons] at q
    obtain ⟨v, r, rfl, a, b⟩ := repL_cons.mp q
    rw [rep_int] at a
    rw [a, RepL.ints b, List.map_cons]
theorem RepL.of_ints : ∀ (ns : List Int), RepL K F (ns.map D.int) (ns.map V.int)
  | [] => RepL.nil
  | n :: ns => RepL.mk (rep_int.mpr rfl) (RepL.of_ints ns)
theorem RepL.bls : ∀ {ns : List Bool} {vs : List V}, RepL K F (ns.map D.bl) vs → vs = ns.map V.bl
  | [], _, q => by rw [List.map_nil, repL_nil] at q; exact q
  | n :: ns, _, q => by
    rw [List.map_cons] at q
    obtain ⟨v, r, rfl, a, b⟩ := repL_cons.mp q
    rw [rep_bl] at a
    rw [a, RepL.bls b, List.map_cons]
theorem RepL.strs : ∀ {ns : List Str} {vs : List V}, RepL K F (ns.map D.str) vs → vs = ns.map V.str
  | [], _, q => by rw [List.map_nil, repL_nil] at q; exact q
  | n :: ns, _, q => by
    rw [List.map_cons] at q
    obtain ⟨v, r, rfl, a, b⟩ := repL_cons.mp q
    rw [rep_str] at a
    rw [a, RepL.strs b, List.map_cons]
theorem RepF.look : ∀ {ds : List (Str × D)} {vs : List (Str × V)} {f : Str}, RepF K F ds vs →
    (∀ d, ds.lookup f = some d → ∃ v, vs.lookup f = some v ∧ Rep K F d v) ∧ (ds.lookup f = none → vs.lookup f = none) ∧ ds.length = vs.length
  | [], _, f, q => by rw [repF_nil] at q; subst q; simp
  | (g, d) :: ds, _, f, q => by
    obtain ⟨v, r, rfl, a, b⟩ := repF_cons.mp q
    have ih := RepF.look (f := f) b
    by_cases e : f = g
    · subst e
      refine ⟨fun d' h => ?_, fun h => ?_, by simp [ih.2.2]⟩
      · simp at h; subst h; exact ⟨v, by simp, a⟩
      · simp at h
    · have e' : (f == g) = false := beq_eq_false_iff_ne.mpr e
      refine ⟨fun d' h => ?_, fun h => ?_, by simp [ih.2.2]⟩
      · simp only [List.lookup, e'] at h ⊢; exact ih.1 d' h
      · simp only [List.lookup, e'] at h ⊢; exact ih.2.1 h
end

def putD (f : Str) (v : D) : List (Str × D) → List (Str × D)
  | [] => [(f, v)]
  | (g, x) :: r => if g = f then (f, v) :: r else (g, x) :: putD f v r
theorem RepF.put {K : PySem.W.Frag} {F : Hp} {f : Str} {d : D} {v : V} (h : Rep K F d v) : ∀ {ds : List (Str × D)} {vs : List (Str × V)}, RepF K F ds vs → RepF K F (putD f d ds) (putF f v vs)
  | [], _, q => by
    rw [repF_nil] at q; subst q
    exact repF_cons.mpr ⟨v, [], rfl, h, repF_nil.mpr rfl⟩
  | (g, x) :: ds, _, q => by
    obtain ⟨w, r, rfl, a, b⟩ := repF_cons.mp q
    by_cases e : g = f
    · subst e
      simp only [putD, putF, if_pos]
      exact repF_cons.mpr ⟨v, r, rfl, h, b⟩
    · simp only [putD, putF, if_neg e]
      exact repF_cons.mpr ⟨w, _, rfl, a, RepF.put h b⟩

mutual
def keyT : NestedKey → D
  | .none => .non
  | .num i => .int i
  | .text x => .str x
  | .tup ks => .tup (keyTs ks)
def keyTs : List NestedKey → List D
  | [] => []
  | k :: ks => keyT k :: keyTs ks
end
def ldcF (P : Program) (w : World) (a : Addr) (vs : List (Leaf × V)) (h : Heap) : Prop := ∃ us : List (Leaf × Value), KV vs us ∧ h.DictOf (leafKind P w) a us
def tabF (P : Program) (w : World) (a : Addr) (xs : List (NestedKey × Addr × V)) (h : Heap) : Prop := ∃ us : List (NestedKey × Addr × Value),
  Paired (fun (x : NestedKey × Addr × V) (u : NestedKey × Addr × Value) => x.1 = u.1 ∧ x.2.1 = u.2.1 ∧ RelV x.2.2 u.2.2) xs us ∧
  ∃ o es ep, h.get? a = some o ∧ o.ExactDict ∧ o.data = .dict es ep ∧ es.toList = us.map (entryOfKey (nestedKind P w))
def RepQ (K : PySem.W.Frag) (F : Hp) : List (Leaf × D) → List (Leaf × V) → Prop := Paired fun p x => p.1 = x.1 ∧ Rep K F p.2 x.2
def RepT (K : PySem.W.Frag) (F : Hp) : List (NestedKey × D) → List (NestedKey × Addr × V) → Prop := Paired fun p x => p.1 = x.1 ∧ Rep K F (keyT p.1) (.ref x.2.1) ∧ Rep K F p.2 x.2.2
theorem RepQ.le {K : PySem.W.Frag} {F F' : Hp} (h : Le F F') {kvs : List (Leaf × D)} {xs : List (Leaf × V)} (r : RepQ K F kvs xs) : RepQ K F' kvs xs :=
  Paired.mapP r fun _ _ ⟨a, c⟩ => ⟨a, Rep.le h _ _ c⟩
theorem RepT.le {K : PySem.W.Frag} {F F' : Hp} (h : Le F F') {kvs : List (NestedKey × D)} {xs : List (NestedKey × Addr × V)} (r : RepT K F kvs xs) : RepT K F' kvs xs :=
  Paired.mapP r fun _ _ ⟨a, b, c⟩ => ⟨a, Rep.le h _ _ b, Rep.le h _ _ c⟩
def RepO (K : KW) (F : Hp) (a : Addr) : MO → HO → Prop
  | .lst xs, o => ∃ vs, o = .lst vs ∧ RepL K F xs vs
  | .ins c fs, o => ∃ dx gs, o = .ins (He.ga K c) dx gs ∧ RepF K F fs gs
  | .dct kvs, o => ∃ ws, o = .dK ws ∧ RepK K F kvs ws
  | .ldc kvs, o => ∃ xs, o = .ext (ldcF K.P K.w a xs) ∧ RepQ K F kvs xs ∧ kvs.length ≤ sizeLine ∧ (a == sysModules) = false
  | .tab kvs, o => ∃ xs, o = .ext (tabF K.P K.w a xs) ∧ RepT K F kvs xs ∧ kvs.length ≤ sizeLine ∧ (a == sysModules) = false ∧ (kvs.map (·.1)).Nodup ∧ ∀ p ∈ kvs, p.1.depth ≤ 8
theorem RepO.ofL {K : KW} {F : Hp} {a : Addr} {xs : List D} {vs : List V} (r : RepL K F xs vs) : RepO K F a (.lst xs) (.lst vs) := ⟨vs, rfl, r⟩
theorem RepO.le {K : KW} {F F' : Hp} {a : Addr} (h : Le F F') : ∀ {m : MO} {o : HO}, RepO K F a m o → RepO K F' a m o
  | .lst xs, _, ⟨vs, e, r⟩ => ⟨vs, e, RepL.le h _ _ r⟩
  | .ins c fs, _, ⟨dx, gs, e, r⟩ => ⟨dx, gs, e, RepF.le h _ _ r⟩
  | .dct kvs, _, ⟨ws, e, r⟩ => ⟨ws, e, RepK.le h _ _ r⟩
  | .ldc kvs, _, ⟨ws, e, r, q⟩ => ⟨ws, e, r.le h, q⟩
  | .tab kvs, _, ⟨ws, e, r, q⟩ => ⟨ws, e, r.le h, q⟩

structure Wd (K : KW) (F : Hp) (μ : Mem) (H : Hp) : Prop where
  le : Le F H
  sep : ∀ a m, μ a = some m → F a = none
  mem : ∀ a m, μ a = some m → ∃ o, H a = some o ∧ RepO K F a m o

section
variable {K : KW} {F : Hp} {μ μ' : Mem} {H : Hp}
theorem Wd.freeF (w : Wd K F μ H) {p : Addr} (h : H p = none) : F p = none := w.le.free h
theorem Wd.freeM (w : Wd K F μ H) {p : Addr} (h : H p = none) : μ p = none := by
  cases q : μ p with
  | none => rfl
  | some m => obtain ⟨o, e, _⟩ := w.mem p m q; rw [h] at e; cases e
theorem le_upd {F : Hp} {p : Addr} {o : HO} (h : F p = none) : Le F (upd F p o) := fun b u e => by
  rw [upd_ne (ne_of_none e h)]; exact e
theorem Wd.newF (w : Wd K F μ H) {p : Addr} (h : H p = none) (o : HO) : Wd K (upd F p o) μ (upd H p o) ∧ Le F (upd F p o) := by
  have hl := le_upd (o := o) (w.freeF h)
  refine ⟨⟨fun b u e => ?_, fun a m e => ?_, fun a m e => ?_⟩, hl⟩
  · by_cases z : b = p
    · subst z; rw [upd_same] at e ⊢; exact e
    · rw [upd_ne z] at e ⊢; exact w.le _ _ e
  · have z : a ≠ p := fun z => by rw [z, w.freeM h] at e; cases e
    rw [upd_ne z]; exact w.sep a m e
  · have z : a ≠ p := fun z => by rw [z, w.freeM h] at e; cases e
    obtain ⟨u, q, r⟩ := w.mem a m e
    exact ⟨u, by rw [upd_ne z]; exact q, r.le hl⟩
theorem Wd.newM (w : Wd K F μ H) {p : Addr} (h : H p = none) {m : MO} {o : HO} (r : RepO K F p m o) : Wd K F (μ.set p m) (upd H p o) := by
  refine ⟨fun b u e => ?_, fun a m' e => ?_, fun a m' e => ?_⟩
  · rw [upd_ne (ne_of_none e (w.freeF h))]; exact w.le _ _ e
  · by_cases z : a = p
    · subst z; exact w.freeF h
    · rw [Mem.set_ne z] at e; exact w.sep a m' e
  · by_cases z : a = p
    · subst z; rw [Mem.set_same] at e; cases e; exact ⟨o, upd_same, r⟩
    · rw [Mem.set_ne z] at e
      obtain ⟨u, q, r'⟩ := w.mem a m' e
      exact ⟨u, by rw [upd_ne z]; exact q, r'⟩
theorem Wd.setM (w : Wd K F μ H) {p : Addr} {m0 m : MO} (h : μ p = some m0) {o : HO} (r : RepO K F p m o) : Wd K F (μ.set p m) (upd H p o) := by
  have hF := w.sep p m0 h
  refine ⟨fun b u e => ?_, fun a m' e => ?_, fun a m' e => ?_⟩
  · rw [upd_ne (ne_of_none e hF)]; exact w.le _ _ e
  · by_cases z : a = p
    · subst z; exact hF
    · rw [Mem.set_ne z] at e; exact w.sep a m' e
  · by_cases z : a = p
    · subst z; rw [Mem.set_same] at e; cases e; exact ⟨o, upd_same, r⟩
    · rw [Mem.set_ne z] at e
      obtain ⟨u, q, r'⟩ := w.mem a m' e
      exact ⟨u, by rw [upd_ne z]; exact q, r'⟩
theorem Wd.sub (w : Wd K F μ H) (h : Mem.Sub μ' μ) : Wd K F μ' H := ⟨w.le, fun a m e => w.sep a m (h a m e), fun a m e => w.mem a m (h a m e)⟩
theorem Wd.freeze (w : Wd K F μ H) {p : Addr} {o : HO} (h : H p = some o) (hF : F p = none) (hs : Mem.Sub μ' μ) (hp : μ' p = none) : Wd K (upd F p o) μ' H ∧ Le F (upd F p o) := by
  have hl := le_upd (o := o) hF
  refine ⟨⟨fun b u e => ?_, fun a m e => ?_, fun a m e => ?_⟩, hl⟩
  · by_cases z : b = p
    · subst z; rw [upd_same] at e; cases e; exact h
    · rw [upd_ne z] at e; exact w.le _ _ e
  · have z : a ≠ p := fun z => by rw [z, hp] at e; cases e
    rw [upd_ne z]; exact w.sep a m (hs a m e)
  · obtain ⟨u, q, r⟩ := w.mem a m (hs a m e)
    exact ⟨u, q, r.le hl⟩
end

abbrev Env := List (Option D)
def RepE (K : PySem.W.Frag) (F : Hp) : Env → St → Prop
  | [], σ => σ = []
  | o :: env, σ => ∃ s r, σ = s :: r ∧ (∀ d, o = some d → ∃ v, s = some v ∧ Rep K F d v) ∧ RepE K F env r
section
variable {K : PySem.W.Frag} {F F' : Hp}
theorem RepE.le (h : Le F F') : ∀ {env : Env} {σ : St}, RepE K F env σ → RepE K F' env σ
  | [], _, q => q
  | o :: env, _, ⟨s, r, e, a, b⟩ => ⟨s, r, e, fun d z => let ⟨v, e1, e2⟩ := a d z; ⟨v, e1, Rep.le h _ _ e2⟩, RepE.le h b⟩
theorem RepE.get : ∀ {env : Env} {σ : St} {i : Nat} {d : D}, RepE K F env σ → env[i]? = some (some d) → ∃ v, σ[i]? = some (some v) ∧ Rep K F d v
  | [], _, _, _, _, e => by simp at e
  | o :: env, _, 0, d, ⟨s, r, e1, a, b⟩, e => by
    subst e1
    obtain ⟨v, e2, e3⟩ := a d (by simpa using e)
    exact ⟨v, by simp [e2], e3⟩
  | o :: env, _, i + 1, d, ⟨s, r, e1, a, b⟩, e => by
    subst e1
    simpa using RepE.get (i := i) b (by simpa using e)
theorem RepE.set {d : D} {v : V} (h : Rep K F d v) : ∀ {env : Env} {σ : St} (i : Nat), RepE K F env σ → RepE K F (env.set i (some d)) (σ.set i (some v))
  | [], _, i, q => by have : _ = [] := q; subst this; exact rfl
  | o :: env, _, 0, ⟨s, r, e1, a, b⟩ => by
    subst e1
    exact ⟨some v, r, rfl, fun d' z => ⟨v, rfl, by cases z; exact h⟩, b⟩
  | o :: env, _, i + 1, ⟨s, r, e1, a, b⟩ => by
    subst e1
    exact ⟨s, _, rfl, a, RepE.set h i b⟩
theorem RepE.forget : ∀ {env : Env} {σ : St} (i : Nat) (s : Option V), RepE K F env σ → RepE K F (env.set i none) (σ.set i s)
  | [], _, i, _, q => by have : _ = [] := q; subst this; exact rfl
  | o :: env, _, 0, s', ⟨s, r, e1, a, b⟩ => by
    subst e1
    exact ⟨s', r, rfl, (fun d' z => by cases z), b⟩
  | o :: env, _, i + 1, s', ⟨s, r, e1, a, b⟩ => by
    subst e1
    exact ⟨s, _, rfl, a, RepE.forget i s' b⟩
theorem RepE.length : ∀ {env : Env} {σ : St}, RepE K F env σ → env.length = σ.length
  | [], _, q => by have : _ = [] := q; subst this; rfl
  | o :: env, _, ⟨s, r, e1, a, b⟩ => by subst e1; simp [RepE.length b]
def wipeD (env : Env) : List Nat → Env
  | [] => env
  | i :: r => (wipeD env r).set i none
theorem RepE.wipe : ∀ (vs : List Nat) {env : Env} {σ : St}, RepE K F env σ → RepE K F (wipeD env vs) (wipe σ vs)
  | [], _, _, q => q
  | i :: r, env, σ, q => RepE.forget i none (RepE.wipe r q)
theorem RepE.start : ∀ {ds : List D} {vs : List V}, RepL K F ds vs → ∀ n, RepE K F (ds.map some ++ List.replicate n none) (vs.map some ++ List.replicate n none)
  | [], _, q, n => by
    rw [repL_nil] at q; subst q
    induction n with
    | zero => exact rfl
    | succ n ih => exact ⟨none, _, rfl, (fun d z => by cases z), by simpa using ih⟩
  | d :: ds, _, q, n => by
    obtain ⟨v, r, rfl, a, b⟩ := repL_cons.mp q
    exact ⟨some v, _, rfl, fun d' z => ⟨v, rfl, by cases z; exact a⟩, RepE.start b n⟩
end
end DL
end
section
set_option Elab.async false
set_option linter.all false
set_option maxRecDepth 100000
set_option maxHeartbeats 1000000
namespace DL
open PySem PySem.Spec L2

inductive DX where
  | exc (c : Str) (p : Option (List (Str × D)))
abbrev QD := D → Mem → Prop
abbrev QX := DX → Mem → Prop
abbrev DT := Env → Mem → QD → QX → Prop
abbrev DTT := Env → Mem → (Bool → Mem → Prop) → QX → Prop
abbrev DTA := Env → Mem → (List D → Mem → Prop) → QX → Prop
abbrev Sem1 := List D → Mem → QD → QX → Prop
structure KD where
  nx : Env → Mem → Prop
  rt : QD
  ex : QX
  bk : Env → Mem → Prop := fun _ _ => False
  ct : Env → Mem → Prop := fun _ _ => False
abbrev DTS := KD → Env → Mem → Prop

def RepX (K : PySem.W.Frag) (F : Hp) : DX → Value → Option Addr → Hp → Prop
  | .exc c none, C, od, _ => C = .ref (He.ga K c) ∧ od = none
  | .exc c (some fs), C, od, H => C = .ref (He.ga K c) ∧ ∃ d gs, od = some d ∧ H d = some (.xd gs) ∧ RepF K F fs gs
def XOk (K : KW) (F : Hp) (Ex : QX) (E : XK) : Prop :=
  ∀ F' H' μ' x C od, Le F F' → Wd K F' μ' H' → RepX K F' x C od H' → Ex x μ' → E C od H'
theorem XOk.le {K : KW} {F F' : Hp} {Ex : QX} {E : XK} (h : XOk K F Ex E) (l : Le F F') : XOk K F' Ex E :=
  fun F2 H' μ' x C od l2 => h F2 H' μ' x C od (l.trans l2)
def Post (K : KW) (F : Hp) (Qd : QD) (Q : VK) : Prop := ∀ F' v H' d μ', Le F F' → Wd K F' μ' H' → Rep K F' d v → Qd d μ' → Q v H'
theorem Post.le {K : KW} {F F' : Hp} {Qd : QD} {Q : VK} (h : Post K F Qd Q) (l : Le F F') : Post K F' Qd Q :=
  fun F2 v H' d μ' l2 => h F2 v H' d μ' (l.trans l2)
def PostB (K : KW) (F : Hp) (Qd : Bool → Mem → Prop) (Q : Bool → Hp → Prop) : Prop := ∀ F' H' b μ', Le F F' → Wd K F' μ' H' → Qd b μ' → Q b H'
def PostL (K : KW) (F : Hp) (Qd : List D → Mem → Prop) (Q : List V → Hp → Prop) : Prop := ∀ F' vs H' ds μ', Le F F' → Wd K F' μ' H' → RepL K F' ds vs → Qd ds μ' → Q vs H'
theorem PostB.le {K : KW} {F F' : Hp} {Qd : Bool → Mem → Prop} {Q : Bool → Hp → Prop} (h : PostB K F Qd Q) (l : Le F F') : PostB K F' Qd Q :=
  fun F2 H' d μ' l2 => h F2 H' d μ' (l.trans l2)

def teOf (K : KW) (E : XK) (t : DT) : TE := fun σ H Q => ∃ F μ env Qd Ex, Wd K F μ H ∧ RepE K F env σ ∧ XOk K F Ex E ∧ t env μ Qd Ex ∧ Post K F Qd Q
def ttOf (K : KW) (E : XK) (t : DTT) : TT := fun σ H Q => ∃ F μ env Qd Ex, Wd K F μ H ∧ RepE K F env σ ∧ XOk K F Ex E ∧ t env μ Qd Ex ∧ PostB K F Qd Q
def taOf (K : KW) (E : XK) (t : DTA) : TA := fun σ H Q => ∃ F μ env Qd Ex, Wd K F μ H ∧ RepE K F env σ ∧ XOk K F Ex E ∧ t env μ Qd Ex ∧ PostL K F Qd Q
structure EndsOk (K : KW) (F : Hp) (k : KD) (D : Ends) : Prop where
  nx : ∀ F' σ' H' env' μ', Le F F' → Wd K F' μ' H' → RepE K F' env' σ' → k.nx env' μ' → D.nx σ' H'
  rt : Post K F k.rt D.rt
  bk : ∀ F' σ' H' env' μ', Le F F' → Wd K F' μ' H' → RepE K F' env' σ' → k.bk env' μ' → D.bk σ' H'
  ct : ∀ F' σ' H' env' μ', Le F F' → Wd K F' μ' H' → RepE K F' env' σ' → k.ct env' μ' → D.ct σ' H'
theorem EndsOk.le {K : KW} {F F' : Hp} {k : KD} {D : Ends} (h : EndsOk K F k D) (l : Le F F') : EndsOk K F' k D :=
  ⟨fun F2 σ' H' env' μ' l2 => h.nx F2 σ' H' env' μ' (l.trans l2), h.rt.le l, fun F2 σ' H' env' μ' l2 => h.bk F2 σ' H' env' μ' (l.trans l2), fun F2 σ' H' env' μ' l2 => h.ct F2 σ' H' env' μ' (l.trans l2)⟩
def tsOf (K : KW) (E : XK) (t : DTS) : TS := fun D σ H => ∃ F μ env k, Wd K F μ H ∧ RepE K F env σ ∧ XOk K F k.ex E ∧ t k env μ ∧ EndsOk K F k D

theorem PE.imp {X : Cx} {e : Expr} {t t' : TE} (h : PE X e t) (i : ∀ σ H Q, t' σ H Q → t σ H Q) : PE X e t' := ⟨fun pins s σ H Q I hw => h.run pins s σ H Q I (i _ _ _ hw)⟩
theorem PT.imp {X : Cx} {e : Expr} {t t' : TT} (h : PT X e t) (i : ∀ σ H Q, t' σ H Q → t σ H Q) : PT X e t' := ⟨fun pins s σ H Q I hw => h.run pins s σ H Q I (i _ _ _ hw)⟩
theorem PA.imp {X : Cx} {e : List Expr} {t t' : TA} (h : PA X e t) (i : ∀ σ H Q, t' σ H Q → t σ H Q) : PA X e t' := ⟨fun pos pins s σ H Q I hw => h.run pos pins s σ H Q I (i _ _ _ hw)⟩
theorem PS.imp {X : Cx} {e : Stmt} {t t' : TS} (h : PS X e t) (i : ∀ D σ H, t' D σ H → t D σ H) : PS X e t' := ⟨fun pins s σ H Q I hw => h.run pins s σ H Q I (i _ _ _ hw)⟩
theorem PSs.imp {X : Cx} {e : List Stmt} {t t' : TS} (h : PSs X e t) (i : ∀ D σ H, t' D σ H → t D σ H) : PSs X e t' := ⟨fun pins s σ H Q I hw => h.run pins s σ H Q I (i _ _ _ hw)⟩
theorem PW.imp {X : Cx} {e : Expr} {t t' : TT} (h : PW X e t) (i : ∀ σ H Q, t' σ H Q → t σ H Q) : PW X e t' := ⟨fun whole pins s σ H Q I hw => h.run whole pins s σ H Q I (i _ _ _ hw)⟩

def bltNames : List Str := ["len", "isinstance", "int", "bool", "str", "tuple", "list", "dict", "set", "range", "enumerate", "zip", "sorted", "min", "max", "sum", "all", "any", "repr", "ValueError", "reversed", "Exception"]
structure Ctx (X : Cx) (E : XK) (k : Nat) : Prop where
  calm : X.calm = true
  nd : X.N.Nodup
  room : Room k X.A
  take : Takes X (fun c d _ H => E c d H)
  free : ∀ x, x ∈ bltNames → X.mg x = none
theorem Ctx.pass {X : Cx} {E : XK} {k : Nat} (c : Ctx X E k) : Passes (L2.CX X.prog X.w) X E := passes_call c.take fun _ _ _ _ h => h
theorem Ctx.hu {X : Cx} {E : XK} {k : Nat} (c : Ctx X E k) : X.A.units + 1 < cLine := hu_of c.room

abbrev DEj (X : Cx) (E : XK) (e : Expr) (t : DT) : Prop := PE X e (teOf X.kw E t)
abbrev DTj (X : Cx) (E : XK) (e : Expr) (t : DTT) : Prop := PT X e (ttOf X.kw E t)
inductive DLj (X : Cx) (E : XK) : List Expr → List DT → Prop where
  | nil : DLj X E [] []
  | cons {e : Expr} {es : List Expr} {t : DT} {ts : List DT} (h : DEj X E e t) (r : DLj X E es ts) : DLj X E (e :: es) (t :: ts)
def dArgs : List DT → DTA
  | [] => fun _ μ Q _ => Q [] μ
  | t :: ts => fun env μ Q Ex => t env μ (fun x μ1 => dArgs ts env μ1 (fun xs μ2 => Q (x :: xs) μ2) Ex) Ex
@[simp] theorem dArgs_nil (env : Env) (μ : Mem) (Q : List D → Mem → Prop) (Ex : QX) : dArgs [] env μ Q Ex = Q [] μ := rfl
@[simp] theorem dArgs_cons (t : DT) (ts : List DT) (env : Env) (μ : Mem) (Q : List D → Mem → Prop) (Ex : QX) : dArgs (t :: ts) env μ Q Ex = t env μ (fun x μ1 => dArgs ts env μ1 (fun xs μ2 => Q (x :: xs) μ2) Ex) Ex := rfl
def dArgsP (P : List D → Mem → Prop) : List D → List DT → DTA
  | acc, [] => fun _ μ Q _ => Q acc μ
  | acc, t :: ts => fun env μ Q Ex => t env μ (fun x μ1 => P (acc ++ [x]) μ1 ∧ dArgsP P (acc ++ [x]) ts env μ1 Q Ex) Ex
@[simp] theorem dArgsP_nil (P : List D → Mem → Prop) (acc : List D) (env : Env) (μ : Mem) (Q : List D → Mem → Prop) (Ex : QX) : dArgsP P acc [] env μ Q Ex = Q acc μ := rfl
@[simp] theorem dArgsP_cons (P : List D → Mem → Prop) (acc : List D) (t : DT) (ts : List DT) (env : Env) (μ : Mem) (Q : List D → Mem → Prop) (Ex : QX) : dArgsP P acc (t :: ts) env μ Q Ex = t env μ (fun x μ1 => P (acc ++ [x]) μ1 ∧ dArgsP P (acc ++ [x]) ts env μ1 Q Ex) Ex := rfl
structure Opn where
  parts : Scope → Expr → Option (List Expr)
  sem : Sem1
  pre : List D → Mem → Prop := fun _ _ => True
def dApp (o : Opn) (ts : List DT) : DT := fun env μ Q Ex => dArgsP o.pre [] ts env μ (fun xs μ1 => o.sem xs μ1 Q Ex) Ex
def dTst (t : DT) : DTT := fun env μ Q Ex => t env μ (fun x μ1 => ∃ b, x = .bl b ∧ Q b μ1) Ex

def notStar : Expr → Bool
  | .Starred .. => false
  | _ => true
theorem starEach_cons {e : Expr} {es : List Expr} {env : PySem.Env} (h : notStar e = true) : starEach (e :: es) env = (false, eval e env) :: starEach es env := by
  cases e <;> first | rfl | cases h
theorem noStar_any {pos : Pos} : ∀ {es : List Expr} {env : PySem.Env}, es.all notStar = true → (backTo pos (starEach es env)).any (·.1) = false
  | [], _, _ => rfl
  | e :: es, env, h => by
    have h' : notStar e = true ∧ es.all notStar = true := by simpa using h
    rw [starEach_cons h'.1]
    show (false || (backTo pos (starEach es env)).any (·.1)) = false
    rw [noStar_any h'.2]; rfl
theorem noStar_all {pos : Pos} : ∀ {es : List Expr} {env : PySem.Env}, es.all notStar = true → (backTo pos (starEach es env)).all (fun x => !x.1) = true
  | [], _, _ => rfl
  | e :: es, env, h => by
    have h' : notStar e = true ∧ es.all notStar = true := by simpa using h
    rw [starEach_cons h'.1]
    show (true && (backTo pos (starEach es env)).all (fun x => !x.1)) = true
    rw [noStar_all h'.2]; rfl

section
variable {X : Cx} {E : XK} {k : Nat}
theorem DLj.length {es : List Expr} {ts : List DT} (h : DLj X E es ts) : es.length = ts.length := by
  induction h with
  | nil => rfl
  | cons _ _ ih => simp [ih]
theorem DLj.pa {es : List Expr} {ts : List DT} (h : DLj X E es ts) (hs : es.all notStar = true) : PA X es (taOf X.kw E (dArgs ts)) := by
  induction h with
  | nil =>
    refine PA.imp pa_nil fun σ H Q ⟨F, μ, env, Qd, Ex, w, r, x, h, p⟩ => ?_
    exact p F [] H [] μ (Same.refl _) w RepL.nil h
  | cons he hr ih =>
    rename_i e es t ts
    have h' : notStar e = true ∧ es.all notStar = true := by simpa using hs
    refine PA.imp (pa_cons he (ih h'.2) (starEach_cons h'.1)) fun σ H Q ⟨F, μ, env, Qd, Ex, w, r, x, h, p⟩ => ?_
    refine ⟨F, μ, env, _, Ex, w, r, x, h, fun F1 v H1 d μ1 l1 w1 r1 h1 => ?_⟩
    refine ⟨F1, μ1, env, _, Ex, w1, r.le l1, x.le l1, h1, fun F2 vs H2 ds μ2 l2 w2 r2 h2 => ?_⟩
    exact p F2 (v :: vs) H2 (d :: ds) μ2 (l1.trans l2) w2 (RepL.mk (Rep.le l2 _ _ r1) r2) h2
theorem DLj.pk {es : List Expr} {ts : List DT} (h : DLj X E es ts) : ∀ kws : List Keyword, kws.map (·.value) = es → PK X kws (taOf X.kw E (dArgs ts)) := by
  induction h with
  | nil =>
    intro kws e
    have : kws = [] := by simpa using e
    subst this
    refine ⟨fun pos pins s σ H Q I hw => pk_nil.run pos pins s σ H Q I ?_⟩
    obtain ⟨F, μ, env, Qd, Ex, w, r, x, h, p⟩ := hw
    exact p F [] H [] μ (Same.refl _) w RepL.nil h
  | cons he hr ih =>
    rename_i e es t ts
    intro kws ek
    cases kws with
    | nil => simp at ek
    | cons kw kws =>
      simp at ek
      obtain ⟨nm, ve, kp⟩ := kw
      obtain ⟨e1, e2⟩ := ek
      subst e1
      refine ⟨fun pos pins s σ H Q I hw => (pk_cons he (ih kws e2)).run pos pins s σ H Q I ?_⟩
      obtain ⟨F, μ, env, Qd, Ex, w, r, x, h, p⟩ := hw
      refine ⟨F, μ, env, _, Ex, w, r, x, h, fun F1 v H1 d μ1 l1 w1 r1 h1 => ?_⟩
      refine ⟨F1, μ1, env, _, Ex, w1, r.le l1, x.le l1, h1, fun F2 vs H2 ds μ2 l2 w2 r2 h2 => ?_⟩
      exact p F2 (v :: vs) H2 (d :: ds) μ2 (l1.trans l2) w2 (RepL.mk (Rep.le l2 _ _ r1) r2) h2

def dVar (i : Nat) : DT := fun env μ Q _ => ∃ d, env[i]? = some (some d) ∧ Q d μ
def dCon (d : D) : DT := fun _ μ Q _ => Q d μ
theorem de_var {i : Nat} {x : Str} {pos : Pos} (hN : X.N[i]? = some x) (hv : Vis X.env.scope x) (hd : (x == ("__debug__" : Str)) = false) (hcd : (x == ("__classdict__" : Str)) = false) : DEj X E (.Name x pos) (dVar i) := by
  refine PE.imp (pe_var hN hv hd hcd) fun σ H Q ⟨F, μ, env, Qd, Ex, w, r, x, ⟨d, e, h⟩, p⟩ => ?_
  obtain ⟨v, e2, rv⟩ := r.get e
  exact ⟨v, e2, p F v H d μ (Same.refl _) w rv h⟩
theorem de_con {e : Expr} {d : D} {v : V} (h : PE X e (tC v)) (hr : ∀ F, Rep X.K F d v) : DEj X E e (dCon d) := by
  refine PE.imp h fun σ H Q ⟨F, μ, env, Qd, Ex, w, r, x, h, p⟩ => ?_
  exact p F v H d μ (Same.refl _) w (hr F) h

theorem dt_val {e : Expr} {t : DT} (h : DEj X E e t) (he : ∀ whole, isTrue e X.env whole = (do let v ← whole; standAt e.pos; holding [v] (truthy v))) : DTj X E e (dTst t) := by
  refine PT.imp (pt_val h he) fun σ H Q ⟨F, μ, env, Qd, Ex, w, r, x, h, p⟩ => ?_
  refine ⟨F, μ, env, _, Ex, w, r, x, h, fun F1 v H1 d μ1 l1 w1 r1 ⟨b, e, h1⟩ => ?_⟩
  subst e
  rw [rep_bl] at r1
  exact ⟨b, r1, p F1 H1 b μ1 l1 w1 h1⟩
end

structure OpnOk (X : Cx) (E : XK) (o : Opn) : Prop where
  val : ∀ {e : Expr} {es : List Expr} {ts : List DT}, o.parts X.env.scope e = some es → DLj X E es ts → DEj X E e (dApp o ts)
  tst : ∀ {e : Expr} {es : List Expr} {ts : List DT}, o.parts X.env.scope e = some es → DLj X E es ts → DTj X E e (dTst (dApp o ts))
def plainTest : Expr → Bool
  | .UnaryOp .Not _ _ => false
  | .BoolOp .. => false
  | .IfExp .. => false
  | .Compare .. => false
  | _ => true
theorem isTrue_plain {e : Expr} {env : PySem.Env} (h : plainTest e = true) : ∀ whole, isTrue e env whole = (do let v ← whole; standAt e.pos; holding [v] (truthy v)) := by
  intro whole
  cases e with
  | UnaryOp op x p => cases op <;> first | rfl | cases h
  | BoolOp => cases h
  | IfExp => cases h
  | Compare => cases h
  | _ => rfl
theorem OpnOk.plain {X : Cx} {E : XK} {o : Opn} (hp : ∀ e es, o.parts X.env.scope e = some es → plainTest e = true) (h : ∀ {e : Expr} {es : List Expr} {ts : List DT}, o.parts X.env.scope e = some es → DLj X E es ts → DEj X E e (dApp o ts)) : OpnOk X E o :=
  ⟨h, fun p l => dt_val (h p l) (isTrue_plain (hp _ _ p))⟩
structure Std where
  o : Opn
  ok : ∀ {X : Cx} {E : XK} {k : Nat}, Ctx X E k → OpnOk X E o
end DL
end
section
set_option Elab.async false
set_option linter.all false
set_option maxRecDepth 100000
set_option maxHeartbeats 1000000
namespace DL
open PySem PySem.Spec L2

def look (μ : Mem) : D → D
  | .ref a => match μ a with
    | some (.lst xs) => .lst xs
    | some (.dct kvs) => .dct kvs
    | _ => .ref a
  | x => x
@[simp] theorem look_tup (μ : Mem) (xs : List D) : look μ (.tup xs) = .tup xs := rfl
@[simp] theorem look_lst (μ : Mem) (xs : List D) : look μ (.lst xs) = .lst xs := rfl
@[simp] theorem look_rol (μ : Mem) (xs : List D) : look μ (.rol xs) = .rol xs := rfl
@[simp] theorem look_int (μ : Mem) (i : Int) : look μ (.int i) = .int i := rfl
@[simp] theorem look_bl (μ : Mem) (i : Bool) : look μ (.bl i) = .bl i := rfl
@[simp] theorem look_non (μ : Mem) : look μ .non = .non := rfl
@[simp] theorem look_str (μ : Mem) (x : Str) : look μ (.str x) = .str x := rfl
@[simp] theorem look_dct (μ : Mem) (x : List (Key × D)) : look μ (.dct x) = .dct x := rfl
@[simp] theorem look_obj (μ : Mem) (c : Str) (x : List (Str × D)) : look μ (.obj c x) = .obj c x := rfl
theorem look_ref_eq (μ : Mem) (a : Addr) : look μ (.ref a) = (match μ a with
    | some (.lst xs) => .lst xs
    | some (.dct kvs) => .dct kvs
    | _ => .ref a) := rfl
theorem look_ref {μ : Mem} {a : Addr} {xs : List D} (h : μ a = some (.lst xs)) : look μ (.ref a) = .lst xs := by rw [look_ref_eq, h]
@[simp] theorem look_set (μ : Mem) (a : Addr) (xs : List D) : look (μ.set a (.lst xs)) (.ref a) = .lst xs := look_ref (Mem.set_same ..)

section
variable {K : KW} {F : Hp} {μ : Mem} {H : Hp}
theorem look_lst_inv {x : D} {xs : List D} (h : look μ x = .lst xs) : x = .lst xs ∨ ∃ a, x = .ref a ∧ μ a = some (.lst xs) := by
  cases x with
  | ref a =>
    rw [look_ref_eq] at h
    cases q : μ a with
    | none => rw [q] at h; cases h
    | some m =>
      rw [q] at h
      cases m with
      | lst ys => cases h; exact .inr ⟨a, rfl, q⟩
      | ins => cases h
      | dct => cases h
      | ldc => cases h
      | tab => cases h
  | lst ys => cases h; exact .inl rfl
  | _ => cases h
theorem look_tup_inv {x : D} {xs : List D} (h : look μ x = .tup xs) : x = .tup xs := by
  cases x with
  | ref a =>
    rw [look_ref_eq] at h
    cases q : μ a with
    | none => rw [q] at h; cases h
    | some m => rw [q] at h; cases m <;> cases h
  | tup ys => cases h; rfl
  | _ => cases h
theorem look_dct_inv {x : D} {xs : List (Key × D)} (h : look μ x = .dct xs) : x = .dct xs ∨ ∃ a, x = .ref a ∧ μ a = some (.dct xs) := by
  cases x with
  | ref a =>
    rw [look_ref_eq] at h
    cases q : μ a with
    | none => rw [q] at h; cases h
    | some m =>
      rw [q] at h
      cases m with
      | lst => cases h
      | ins => cases h
      | ldc => cases h
      | tab => cases h
      | dct ys => cases h; exact .inr ⟨a, rfl, q⟩
  | dct ys => cases h; exact .inl rfl
  | _ => cases h
theorem look_str_inv {x : D} {s : Str} (h : look μ x = .str s) : x = .str s := by
  cases x with
  | ref a =>
    rw [look_ref_eq] at h
    cases q : μ a with
    | none => rw [q] at h; cases h
    | some m => rw [q] at h; cases m <;> cases h
  | str ys => cases h; rfl
  | _ => cases h
theorem Wd.lst (w : Wd K F μ H) {x : D} {v : V} {xs : List D} (r : Rep K F x v) (h : look μ x = .lst xs) : ∃ a vs, v = .ref a ∧ H a = some (.lst vs) ∧ RepL K F xs vs := by
  rcases look_lst_inv h with rfl | ⟨a, rfl, q⟩
  · obtain ⟨a, vs, e, h, r⟩ := rep_lst.mp r
    exact ⟨a, vs, e, w.le _ _ h, r⟩
  · rw [rep_ref] at r
    obtain ⟨o, e, vs, rfl, r'⟩ := w.mem a _ q
    exact ⟨a, vs, r, e, r'⟩
theorem Wd.tup (w : Wd K F μ H) {x : D} {v : V} {xs : List D} (r : Rep K F x v) (h : look μ x = .tup xs) : ∃ a vs, v = .ref a ∧ SqT K H a vs ∧ RepL K F xs vs := by
  cases look_tup_inv h
  obtain ⟨a, vs, e, h, r⟩ := rep_tup.mp r
  exact ⟨a, vs, e, SqT.le w.le h.sq, r⟩
theorem Wd.dct (w : Wd K F μ H) {x : D} {v : V} {xs : List (Key × D)} (r : Rep K F x v) (h : look μ x = .dct xs) : ∃ a vs, v = .ref a ∧ Rd H a (.dK vs) ∧ RepK K F xs vs := by
  rcases look_dct_inv h with rfl | ⟨a, rfl, q⟩
  · obtain ⟨a, vs, e, ⟨o, h⟩, r⟩ := rep_dct.mp r
    exact ⟨a, vs, e, .inr ⟨o, w.le _ _ h⟩, r⟩
  · rw [rep_ref] at r
    obtain ⟨o, e, vs, rfl, r'⟩ := w.mem a _ q
    exact ⟨a, vs, r, .inl e, r'⟩
end

abbrev S1 := D → Mem → QD → Prop
abbrev S2 := D → D → Mem → QD → Prop
abbrev SL := List D → Mem → QD → Prop
def Link1 (X : Cx) (s : S1) (r : V → Hp → VK → Prop) : Prop := ∀ F μ H x v Qd Q, Wd X.kw F μ H → Rep X.K F x v → s x μ Qd → Post X.kw F Qd Q → r v H Q
def Link2 (X : Cx) (s : S2) (r : R2) : Prop := ∀ F μ H x y v u Qd Q, Wd X.kw F μ H → Rep X.K F x v → Rep X.K F y u → s x y μ Qd → Post X.kw F Qd Q → r v u H Q
def LinkL (X : Cx) (s : SL) (r : List V → Hp → VK → Prop) : Prop := ∀ F μ H xs vs Qd Q, Wd X.kw F μ H → RepL X.K F xs vs → s xs μ Qd → Post X.kw F Qd Q → r vs H Q
def un1 (s : S1) : Sem1 := fun ds μ Q _ => match ds with
  | [x] => s x μ Q
  | _ => False
def bi2 (s : S2) : Sem1 := fun ds μ Q _ => match ds with
  | [x, y] => s x y μ Q
  | _ => False
theorem RepL.two {K : PySem.W.Frag} {F : Hp} {x y : D} {vs : List V} (h : RepL K F [x, y] vs) : ∃ v u, vs = [v, u] ∧ Rep K F x v ∧ Rep K F y u := by
  obtain ⟨v, r, rfl, a, b⟩ := repL_cons.mp h
  obtain ⟨u, r, rfl, a', b⟩ := repL_cons.mp b
  rw [repL_nil] at b; subst b
  exact ⟨v, u, rfl, a, a'⟩
theorem RepL.single {K : PySem.W.Frag} {F : Hp} {x : D} {vs : List V} (h : RepL K F [x] vs) : ∃ v, vs = [v] ∧ Rep K F x v := by
  obtain ⟨v, r, rfl, a, b⟩ := repL_cons.mp h
  rw [repL_nil] at b; subst b
  exact ⟨v, rfl, a⟩
section
variable {X : Cx} {E : XK} {k : Nat}
theorem DLj.inv1 {es : List Expr} {t : DT} {ts : List DT} {e : Expr} (h : DLj X E [e] ts) : ∃ t, ts = [t] ∧ DEj X E e t := by
  cases h with | cons a r => cases r; exact ⟨_, rfl, a⟩
theorem DLj.one {ts : List DT} {e : Expr} (h : DLj X E [e] ts) : ∃ t, ts = [t] ∧ DEj X E e t := by
  cases h with | cons a r => cases r; exact ⟨_, rfl, a⟩
theorem DLj.two {ts : List DT} {a b : Expr} (h : DLj X E [a, b] ts) : ∃ t u, ts = [t, u] ∧ DEj X E a t ∧ DEj X E b u := by
  cases h with | cons h1 r => obtain ⟨u, rfl, h2⟩ := r.one; exact ⟨_, _, rfl, h1, h2⟩
theorem DLj.three {ts : List DT} {a b c : Expr} (h : DLj X E [a, b, c] ts) : ∃ t u w, ts = [t, u, w] ∧ DEj X E a t ∧ DEj X E b u ∧ DEj X E c w := by
  cases h with | cons h1 r => obtain ⟨u, w, rfl, h2, h3⟩ := r.two; exact ⟨_, _, _, rfl, h1, h2, h3⟩
theorem two_ok {o : Opn} {s : S2} {r : R2} {ta tb : DT} (hs : o.sem = bi2 s) (hl : Link2 X s r) (σ : L2.St) (H : Hp) (Q : VK) (h : teOf X.kw E (dApp o [ta, tb]) σ H Q) : tOp r (teOf X.kw E ta) (teOf X.kw E tb) σ H Q := by
  obtain ⟨F, μ, env, Qd, Ex, w, re, x, h, p⟩ := h
  refine ⟨F, μ, env, _, Ex, w, re, x, h, fun F1 v H1 d μ1 l1 w1 r1 h1 => ?_⟩
  refine ⟨F1, μ1, env, _, Ex, w1, re.le l1, x.le l1, h1.2, fun F2 u H2 d2 μ2 l2 w2 r2 h2 => ?_⟩
  have h3 : o.sem [d, d2] μ2 Qd Ex := h2.2
  rw [hs] at h3
  exact hl F2 μ2 H2 d d2 v u Qd Q w2 (Rep.le l2 _ _ r1) r2 h3 (p.le (l1.trans l2))
theorem one_ok {o : Opn} {s : S1} {r : V → Hp → VK → Prop} {ta : DT} (hs : o.sem = un1 s) (hl : Link1 X s r) (σ : L2.St) (H : Hp) (Q : VK) (h : teOf X.kw E (dApp o [ta]) σ H Q) : tUn r (teOf X.kw E ta) σ H Q := by
  obtain ⟨F, μ, env, Qd, Ex, w, re, x, h, p⟩ := h
  refine ⟨F, μ, env, _, Ex, w, re, x, h, fun F1 v H1 d μ1 l1 w1 r1 h1 => ?_⟩
  have h3 : o.sem [d] μ1 Qd Ex := h1.2
  rw [hs] at h3
  exact hl F1 μ1 H1 d v Qd Q w1 r1 h3 (p.le l1)
def dArgsA (acc : List D) (ts : List DT) : DTA := fun env μ Q Ex => dArgs ts env μ (fun xs μ1 => Q (acc ++ xs) μ1) Ex
theorem dArgsP_eq : ∀ (ts : List DT) (acc : List D), dArgsP (fun _ _ => True) acc ts = dArgsA acc ts
  | [], acc => by funext env μ Q Ex; simp [dArgsA]
  | t :: ts, acc => by
    funext env μ Q Ex
    simp only [dArgsP_cons, true_and, dArgsA, dArgs_cons]
    congr 1
    funext x μ1
    rw [dArgsP_eq ts]
    simp [dArgsA]
theorem dApp_args {o : Opn} (hp : o.pre = fun _ _ => True) {ts : List DT} {env : Env} {μ : Mem} {Q : QD} {Ex : QX} (h : dApp o ts env μ Q Ex) : dArgs ts env μ (fun xs μ1 => o.sem xs μ1 Q Ex) Ex := by
  unfold dApp at h
  rw [hp, dArgsP_eq] at h
  simpa [dArgsA] using h
theorem args_ok {o : Opn} {s : SL} {r : List V → Hp → VK → Prop} {ts : List DT} (hp : o.pre = fun _ _ => True) (hs : ∀ xs μ Q Ex, o.sem xs μ Q Ex → s xs μ Q) (hl : LinkL X s r) (σ : L2.St) (H : Hp) (Q : VK) (h : teOf X.kw E (dApp o ts) σ H Q) : tCB r (taOf X.kw E (dArgs ts)) σ H Q := by
  obtain ⟨F, μ, env, Qd, Ex, w, re, x, h, p⟩ := h
  refine ⟨F, μ, env, _, Ex, w, re, x, dApp_args hp h, fun F1 vs H1 ds μ1 l1 w1 r1 h1 => ?_⟩
  exact hl F1 μ1 H1 ds vs Qd Q w1 r1 (hs _ _ _ _ h1) (p.le l1)
theorem argsT_ok {o : Opn} {s : SL} {ts : List DT} {R : VK → List V → Hp → Prop} (hp : o.pre = fun _ _ => True) (hs : ∀ xs μ Q Ex, o.sem xs μ Q Ex → s xs μ Q) (hl : LinkL X s (fun vs H Q => R Q vs H)) (σ : L2.St) (H : Hp) (Q : VK) (h : teOf X.kw E (dApp o ts) σ H Q) : taOf X.kw E (dArgs ts) σ H (R Q) := by
  obtain ⟨F, μ, env, Qd, Ex, w, re, x, h, p⟩ := h
  refine ⟨F, μ, env, _, Ex, w, re, x, dApp_args hp h, fun F1 vs H1 ds μ1 l1 w1 r1 h1 => ?_⟩
  exact hl F1 μ1 H1 ds vs Qd Q w1 r1 (hs _ _ _ _ h1) (p.le l1)
end

def pBin (op : Operator) : Expr → Option (List Expr)
  | .BinOp a o b _ => if o = op then some [a, b] else none
  | _ => none
theorem bin_std {op : Operator} {s : S2} {r : R2} {X : Cx} {E : XK} (ho : OpR X (binaryOp op) r) (hl : Link2 X s r) : OpnOk X E ⟨fun _ => pBin op, bi2 s, fun _ _ => True⟩ := by
  refine OpnOk.plain (fun e es h => ?_) fun {e es ts} h l => ?_
  · cases e <;> first | rfl | cases h
  · cases e <;> try (cases h; done)
    rename_i a o b pos
    have h2 : (if o = op then some [a, b] else none) = some es := h
    clear h
    split at h2
    · rename_i q
      subst q
      cases h2
      obtain ⟨t, u, rfl, h1, h2⟩ := l.two
      exact PE.imp (pe_op ho h1 h2) (two_ok rfl hl)
    · cases h2
def s2I (f : Int → Int → Int) (C : Int → Int → Prop) : S2 := fun x y μ Q => match x, y with
  | .int i, .int j => C i j ∧ Q (.int (f i j)) μ
  | _, _ => False
theorem link2I {X : Cx} {f : Int → Int → Int} {C : Int → Int → Prop} : Link2 X (s2I f C) (rI C fun i j => .int (f i j)) := by
  intro F μ H x y v u Qd Q w r1 r2 h p
  cases x <;> try exact h.elim
  cases y <;> try exact h.elim
  rw [rep_int] at r1 r2
  exact ⟨_, _, r1, r2, h.1, p F _ H _ μ (Same.refl _) w (rep_int.mpr rfl) h.2⟩
theorem opI0' {X : Cx} {f : Value → Value → Sem Value} {g : Int → Int → V} (h : OpR X f (rI0 g)) : OpR X f (rI (fun _ _ => True) g) := by
  intro pins s σ H x y v u Q I rx ry ⟨i, j, e1, e2, _, q⟩
  exact h pins s σ H x y v u Q I rx ry ⟨i, j, e1, e2, q⟩
def oSub : Std := ⟨⟨fun _ => pBin .Sub, bi2 (s2I (· - ·) fun _ _ => True), fun _ _ => True⟩, fun _ => bin_std (opI0' op_sub) link2I⟩
def oMulI : Std := ⟨⟨fun _ => pBin .Mult, bi2 (s2I (· * ·) CMul), fun _ _ => True⟩, fun _ => bin_std op_mul link2I⟩
def oFdiv : Std := ⟨⟨fun _ => pBin .FloorDiv, bi2 (s2I (· / ·) CDiv), fun _ _ => True⟩, fun _ => bin_std op_fdiv link2I⟩
def oMod : Std := ⟨⟨fun _ => pBin .Mod, bi2 (s2I (· % ·) fun _ j => 0 < j), fun _ _ => True⟩, fun _ => bin_std op_mod link2I⟩
def oPow : Std := ⟨⟨fun _ => pBin .Pow, bi2 (s2I (fun i j => i ^ j.toNat) CPow), fun _ _ => True⟩, fun _ => bin_std op_pow link2I⟩
def sAdd : S2 := fun x y μ Q => match look μ x, look μ y with
  | .int i, .int j => Q (.int (i + j)) μ
  | .str i, .str j => i.length + j.length ≤ sizeLine ∧ Q (.str (i ++ j)) μ
  | .lst xs, .lst ys => xs.length + ys.length ≤ sizeLine ∧ Q (.lst (xs ++ ys)) μ
  | .tup xs, .tup ys => xs.length + ys.length ≤ sizeLine ∧ Q (.tup (xs ++ ys)) μ
  | _, _ => False
def rAddA (K : PySem.W.Frag) : R2 := fun x y H Q => rI0 (fun i j => .int (i + j)) x y H Q ∨
  (∃ i j, x = .str i ∧ y = .str j ∧ i.length + j.length ≤ sizeLine ∧ Q (.str (i ++ j)) H) ∨ rCat x y H Q ∨ rCatA K x y H Q
theorem look_int_inv {μ : Mem} {x : D} {i : Int} (h : look μ x = .int i) : x = .int i := by
  cases x with
  | ref a =>
    rw [look_ref_eq] at h
    cases q : μ a with
    | none => rw [q] at h; cases h
    | some m => rw [q] at h; cases m <;> cases h
  | int ys => cases h; rfl
  | _ => cases h
theorem repL_ne {K : PySem.W.Frag} {F : Hp} {xs : List D} {vs : List V} (r : RepL K F xs vs) : xs = [] ↔ vs = [] := by
  have := r.length
  constructor
  · rintro rfl; exact List.length_eq_zero_iff.mp this.symm
  · rintro rfl; exact List.length_eq_zero_iff.mp this
theorem linkAdd {X : Cx} : Link2 X sAdd (rAddA X.K) := by
  intro F μ H x y v u Qd Q w r1 r2 h p
  unfold sAdd at h
  split at h
  · rename_i i j e1 e2
    cases look_int_inv e1; cases look_int_inv e2
    rw [rep_int] at r1 r2
    exact .inl ⟨_, _, r1, r2, p F _ H _ μ (Same.refl _) w (rep_int.mpr rfl) h⟩
  · rename_i i j e1 e2
    cases look_str_inv e1; cases look_str_inv e2
    rw [rep_str] at r1 r2
    exact .inr (.inl ⟨_, _, r1, r2, h.1, p F _ H _ μ (Same.refl _) w (rep_str.mpr rfl) h.2⟩)
  · rename_i xs ys e1 e2
    obtain ⟨a, vs, rfl, ha, ra⟩ := w.lst r1 e1
    obtain ⟨b, us, rfl, hb, rb⟩ := w.lst r2 e2
    refine .inr (.inr (.inl ⟨a, b, vs, us, rfl, rfl, ha, hb, ?_, fun q hq => ?_⟩))
    · rw [← ra.length, ← rb.length]; exact h.1
    · obtain ⟨w', l⟩ := w.newF hq (.lst (vs ++ us))
      exact p _ _ _ _ μ l w' (rep_lst.mpr ⟨q, _, rfl, upd_same, (RepL.le l _ _ ra).app (RepL.le l _ _ rb)⟩) h.2
  · rename_i xs ys e1 e2
    obtain ⟨a, vs, rfl, ha, ra⟩ := w.tup r1 e1
    obtain ⟨b, us, rfl, hb, rb⟩ := w.tup r2 e2
    cases look_tup_inv e1; cases look_tup_inv e2
    refine .inr (.inr (.inr ⟨a, b, vs, us, rfl, rfl, ha, hb, ?_, fun z => ?_, fun z1 z2 => ?_, fun z1 z2 q hq => ?_⟩))
    · rw [← ra.length, ← rb.length]; exact h.1
    · have : xs = [] := (repL_ne ra).mpr z
      subst this
      exact p F _ H _ μ (Same.refl _) w r2 (by simpa using h.2)
    · have : ys = [] := (repL_ne rb).mpr z2
      subst this
      exact p F _ H _ μ (Same.refl _) w r1 (by simpa using h.2)
    · obtain ⟨w', l⟩ := w.newF hq (.tup (vs ++ us))
      exact p _ _ _ _ μ l w' (rep_tup.mpr ⟨q, _, rfl, .inl upd_same, (RepL.le l _ _ ra).app (RepL.le l _ _ rb)⟩) h.2
  · exact h.elim
theorem op_addA {X : Cx} : OpR X (binaryOp .Add) (rAddA X.K) := op_add.or (op_add_str.or (op_cat.or op_catA))
def oAdd : Std := ⟨⟨fun _ => pBin .Add, bi2 sAdd, fun _ _ => True⟩, fun _ => bin_std op_addA linkAdd⟩
def pUn (op : UnaryOp) : Expr → Option (List Expr)
  | .UnaryOp o a _ => if o = op then some [a] else none
  | _ => none
def oNeg : Std := ⟨⟨fun _ => pUn .USub, un1 fun x μ Q => match x with
    | .int i => Q (.int (-i)) μ
    | _ => False, fun _ _ => True⟩, fun _ => by
  refine OpnOk.plain (fun e es h => ?_) fun {e es ts} h l => ?_
  · cases e <;> try (cases h; done)
    rename_i o a p
    have h2 : (if o = UnaryOp.USub then some [a] else none) = some es := h
    clear h
    split at h2
    · rename_i q; subst q; rfl
    · cases h2
  · cases e <;> try (cases h; done)
    rename_i o a p
    have h2 : (if o = UnaryOp.USub then some [a] else none) = some es := h
    clear h
    split at h2
    · rename_i q; subst q; cases h2
      obtain ⟨t, rfl, h1⟩ := l.one
      refine PE.imp (pe_un un_neg h1) (one_ok rfl fun F μ H x v Qd Q w r h p => ?_)
      cases x <;> try exact h.elim
      rw [rep_int] at r
      exact ⟨_, r, p F _ H _ μ (Same.refl _) w (rep_int.mpr rfl) h⟩
    · cases h2⟩

def pCmp (op : CmpOp) : Expr → Option (List Expr)
  | .Compare a [o] [b] _ => if o = op && !behindInMarks op b then some [a, b] else none
  | _ => none
theorem two_tst {X : Cx} {E : XK} {o : Opn} {s : S2} {r : R2} {ta tb : DT} (hs : o.sem = bi2 s) (hl : Link2 X s r) (σ : L2.St) (H : Hp) (Q : Bool → Hp → Prop) (h : ttOf X.kw E (dTst (dApp o [ta, tb])) σ H Q) : tTest (tOp r (teOf X.kw E ta) (teOf X.kw E tb)) σ H Q := by
  obtain ⟨F, μ, env, Qd, Ex, w, re, x, h, p⟩ := h
  refine two_ok hs hl σ H _ ⟨F, μ, env, _, Ex, w, re, x, h, fun F1 v H1 d μ1 l1 w1 r1 ⟨b, e, h1⟩ => ?_⟩
  subst e
  rw [rep_bl] at r1
  exact ⟨b, r1, p F1 H1 b μ1 l1 w1 h1⟩
theorem cmp_std {op : CmpOp} {s : S2} {r : R2} {X : Cx} {E : XK} (ho : OpR X (compareOp op) r) (hl : Link2 X s r) : OpnOk X E ⟨fun _ => pCmp op, bi2 s, fun _ _ => True⟩ := by
  have inv : ∀ {e : Expr} {es : List Expr}, pCmp op e = some es → ∃ a b pos, e = .Compare a [op] [b] pos ∧ es = [a, b] ∧ behindInMarks op b = false := by
    intro e es h
    unfold pCmp at h
    split at h
    · rename_i a o b pos
      split at h
      · rename_i q
        simp only [Bool.and_eq_true, decide_eq_true_eq, Bool.not_eq_true'] at q
        obtain ⟨q1, q2⟩ := q
        subst q1
        cases h
        exact ⟨a, b, pos, rfl, rfl, q2⟩
      · cases h
    · cases h
  refine ⟨fun {e es ts} h l => ?_, fun {e es ts} h l => ?_⟩
  · obtain ⟨a, b, pos, rfl, rfl, hm⟩ := inv h
    obtain ⟨t, u, rfl, h1, h2⟩ := l.two
    exact PE.imp (pe_cmpR ho h1 h2 hm) (two_ok rfl hl)
  · obtain ⟨a, b, pos, rfl, rfl, hm⟩ := inv h
    obtain ⟨t, u, rfl, h1, h2⟩ := l.two
    exact PT.imp (pt_cmpR ho h1 h2 hm) (two_tst rfl hl)
def s2B (f : Int → Int → Bool) : S2 := fun x y μ Q => match x, y with
  | .int i, .int j => Q (.bl (f i j)) μ
  | _, _ => False
theorem link2B {X : Cx} {f : Int → Int → Bool} : Link2 X (s2B f) (rI0 fun i j => .bl (f i j)) := by
  intro F μ H x y v u Qd Q w r1 r2 h p
  cases x <;> try exact h.elim
  cases y <;> try exact h.elim
  rw [rep_int] at r1 r2
  exact ⟨_, _, r1, r2, p F _ H _ μ (Same.refl _) w (rep_bl.mpr rfl) h⟩
def oLt : Std := ⟨⟨fun _ => pCmp .Lt, bi2 (s2B fun i j => decide (i < j)), fun _ _ => True⟩, fun _ => cmp_std op_lt link2B⟩
def oLe : Std := ⟨⟨fun _ => pCmp .LtE, bi2 (s2B fun i j => decide (i ≤ j)), fun _ _ => True⟩, fun _ => cmp_std op_le link2B⟩
def oGt : Std := ⟨⟨fun _ => pCmp .Gt, bi2 (s2B fun i j => decide (j < i)), fun _ _ => True⟩, fun _ => cmp_std op_gt link2B⟩
def oGe : Std := ⟨⟨fun _ => pCmp .GtE, bi2 (s2B fun i j => decide (j ≤ i)), fun _ _ => True⟩, fun _ => cmp_std op_ge link2B⟩
def isNon : D → Bool
  | .non => true
  | _ => false
theorem isNon_rep {K : PySem.W.Frag} {F : Hp} {x : D} {v : V} (r : Rep K F x v) : decide (v = V.non) = isNon x := by
  cases x <;> simp only [rep_non, rep_bl, rep_int, rep_str, rep_ref, rep_cls, rep_ty, rep_tup, rep_lst, rep_rol, rep_dct, rep_obj] at r <;> simp only [isNon]
  all_goals first
    | (subst r; rfl)
    | (obtain ⟨a, b, rfl, _⟩ := r; rfl)
    | (obtain ⟨a, b, c, rfl, _⟩ := r; rfl)
theorem linkIsN {X : Cx} : Link2 X (fun x y μ Q => y = .non ∧ Q (.bl (isNon x)) μ) (fun x y H Q => y = .non ∧ Q (.bl (decide (x = .non))) H) := by
  intro F μ H x y v u Qd Q w r1 r2 h p
  obtain ⟨rfl, h⟩ := h
  rw [rep_non] at r2
  refine ⟨r2, ?_⟩
  rw [isNon_rep r1]
  exact p F _ H _ μ (Same.refl _) w (rep_bl.mpr rfl) h
theorem linkNotN {X : Cx} : Link2 X (fun x y μ Q => y = .non ∧ Q (.bl (!isNon x)) μ) (fun x y H Q => y = .non ∧ Q (.bl (!decide (x = .non))) H) := by
  intro F μ H x y v u Qd Q w r1 r2 h p
  obtain ⟨rfl, h⟩ := h
  rw [rep_non] at r2
  refine ⟨r2, ?_⟩
  rw [isNon_rep r1]
  exact p F _ H _ μ (Same.refl _) w (rep_bl.mpr rfl) h
def oIsN : Std := ⟨⟨fun _ => pCmp .Is, bi2 fun x y μ Q => y = .non ∧ Q (.bl (isNon x)) μ, fun _ _ => True⟩, fun _ => cmp_std op_isN linkIsN⟩
def oNotN : Std := ⟨⟨fun _ => pCmp .IsNot, bi2 fun x y μ Q => y = .non ∧ Q (.bl (!isNon x)) μ, fun _ _ => True⟩, fun _ => cmp_std op_notN linkNotN⟩
end DL
end
section
set_option Elab.async false
set_option linter.all false
set_option maxRecDepth 100000
set_option maxHeartbeats 400000
namespace DL
open PySem PySem.Spec L2
/- plain data: no truths (1 == True), nothing that changes -/
mutual
def plainD : D → Bool
  | .non => true
  | .int _ => true
  | .str x => PyData.strOk x
  | .tup xs => plainL xs
  | .lst xs => plainL xs
  | _ => false
def plainL : List D → Bool
  | [] => true
  | x :: xs => plainD x && plainL xs
end
mutual
def toPD : D → PyData
  | .non => .none
  | .bl b => .bool b
  | .int i => .int i
  | .str x => .str x
  | .tup xs => .tuple (toPDs xs)
  | .lst xs => .list (toPDs xs)
  | _ => .none
def toPDs : List D → List PyData
  | [] => []
  | x :: xs => toPD x :: toPDs xs
end
mutual
theorem plain_dp {K : PySem.W.Frag} {F H : Hp} (hl : Le F H) : ∀ (d : D) (v : V), plainD d = true → Rep K F d v → Dp K H v (toPD d)
  | .non, v, _, r => by rw [rep_non] at r; subst r; exact .non
  | .int i, v, _, r => by rw [rep_int] at r; subst r; exact .int i
  | .str x, v, _, r => by rw [rep_str] at r; subst r; exact .str x
  | .tup xs, v, h, r => by
    obtain ⟨a, vs, rfl, s, q⟩ := rep_tup.mp r
    exact .tup (SqT.le hl s.sq) (plain_dps hl xs vs (by simpa [plainD] using h) q)
  | .lst xs, v, h, r => by
    obtain ⟨a, vs, rfl, s, q⟩ := rep_lst.mp r
    exact .lst (SqL.of (hl _ _ s)) (plain_dps hl xs vs (by simpa [plainD] using h) q)
  | .bl _, _, h, _ => by simp [plainD] at h
  | .rol _, _, h, _ => by simp [plainD] at h
  | .dct _, _, h, _ => by simp [plainD] at h
  | .obj _ _, _, h, _ => by simp [plainD] at h
  | .ref _, _, h, _ => by simp [plainD] at h
  | .cls _, _, h, _ => by simp [plainD] at h
  | .ty _, _, h, _ => by simp [plainD] at h
theorem plain_dps {K : PySem.W.Frag} {F H : Hp} (hl : Le F H) : ∀ (ds : List D) (vs : List V), plainL ds = true → RepL K F ds vs → DpAll K H vs (toPDs ds)
  | [], vs, _, r => by rw [repL_nil] at r; subst r; exact .nil
  | d :: ds, vs, h, r => by
    obtain ⟨v, q, rfl, a, b⟩ := repL_cons.mp r
    have h' : plainD d = true ∧ plainL ds = true := by simpa [plainL] using h
    exact .cons (plain_dp hl d v h'.1 a) (plain_dps hl ds q h'.2 b)
end
noncomputable def same (x y : D) : Bool := @decide (x = y) (Classical.propDecidable _)
theorem same_iff {x y : D} : same x y = true ↔ x = y := @decide_eq_true_iff (x = y) (Classical.propDecidable _)
theorem same_self (x : D) : same x x = true := same_iff.mpr rfl
theorem same_of_ne {x y : D} (h : x ≠ y) : same x y = false := by
  cases q : same x y with
  | false => rfl
  | true => exact absurd (same_iff.mp q) h
mutual
theorem eqv_same : ∀ (x y : D), plainD x = true → plainD y = true → (PyData.eqv (toPD x) (toPD y) = true ↔ x = y)
  | .non, y, _, h => by cases y <;> simp [plainD] at h <;> simp [toPD, PyData.eqv]
  | .int i, y, _, h => by cases y <;> simp [plainD] at h <;> simp [toPD, PyData.eqv]
  | .str x, y, _, h => by cases y <;> simp [plainD] at h <;> simp [toPD, PyData.eqv]
  | .tup xs, y, h1, h => by
    cases y with
    | tup ys => simp only [toPD, PyData.eqv, D.tup.injEq]; exact eqvs_same xs ys (by simpa [plainD] using h1) (by simpa [plainD] using h)
    | _ => simp [plainD] at h <;> simp [toPD, PyData.eqv]
  | .lst xs, y, h1, h => by
    cases y with
    | lst ys => simp only [toPD, PyData.eqv, D.lst.injEq]; exact eqvs_same xs ys (by simpa [plainD] using h1) (by simpa [plainD] using h)
    | _ => simp [plainD] at h <;> simp [toPD, PyData.eqv]
  | .bl _, _, h, _ => by simp [plainD] at h
  | .rol _, _, h, _ => by simp [plainD] at h
  | .dct _, _, h, _ => by simp [plainD] at h
  | .obj _ _, _, h, _ => by simp [plainD] at h
  | .ref _, _, h, _ => by simp [plainD] at h
  | .cls _, _, h, _ => by simp [plainD] at h
  | .ty _, _, h, _ => by simp [plainD] at h
theorem eqvs_same : ∀ (xs ys : List D), plainL xs = true → plainL ys = true → (PyData.eqvAll (toPDs xs) (toPDs ys) = true ↔ xs = ys)
  | [], [], _, _ => by simp [toPDs, PyData.eqvAll]
  | [], y :: ys, _, _ => by simp [toPDs, PyData.eqvAll]
  | x :: xs, [], _, _ => by simp [toPDs, PyData.eqvAll]
  | x :: xs, y :: ys, h1, h2 => by
    have a : plainD x = true ∧ plainL xs = true := by simpa [plainL] using h1
    have b : plainD y = true ∧ plainL ys = true := by simpa [plainL] using h2
    simp only [toPDs, PyData.eqvAll, Bool.and_eq_true, eqv_same x y a.1 b.1, eqvs_same xs ys a.2 b.2, List.cons.injEq]
end
mutual
theorem plain_lay : ∀ (d : D), plainD d = true → PyData.canLay0 (toPD d) = true
  | .non, _ => rfl
  | .int _, _ => rfl
  | .str x, h => h
  | .tup xs, h => by simp only [toPD, PyData.canLay0]; exact plain_lays xs (by simpa [plainD] using h)
  | .lst xs, h => by simp only [toPD, PyData.canLay0]; exact plain_lays xs (by simpa [plainD] using h)
  | .bl _, h => by simp [plainD] at h
  | .rol _, h => by simp [plainD] at h
  | .dct _, h => by simp [plainD] at h
  | .obj _ _, h => by simp [plainD] at h
  | .ref _, h => by simp [plainD] at h
  | .cls _, h => by simp [plainD] at h
  | .ty _, h => by simp [plainD] at h
theorem plain_lays : ∀ (ds : List D), plainL ds = true → PyData.canLayAll0 (toPDs ds) = true
  | [], _ => rfl
  | d :: ds, h => by
    have a : plainD d = true ∧ plainL ds = true := by simpa [plainL] using h
    simp only [toPDs, PyData.canLayAll0, plain_lay d a.1, plain_lays ds a.2, Bool.and_self]
end
mutual
def deep : D → Nat
  | .tup xs => deeps xs + 1
  | .lst xs => deeps xs + 1
  | _ => 0
def deeps : List D → Nat
  | [] => 0
  | x :: xs => max (deep x) (deeps xs)
end
mutual
theorem deep_pd : ∀ (d : D), plainD d = true → (toPD d).depth = deep d
  | .non, _ => rfl
  | .int _, _ => rfl
  | .str x, h => rfl
  | .tup xs, h => by simp only [toPD, PyData.depth, deep]; rw [deeps_pd xs (by simpa [plainD] using h)]
  | .lst xs, h => by simp only [toPD, PyData.depth, deep]; rw [deeps_pd xs (by simpa [plainD] using h)]
  | .bl _, h => by simp [plainD] at h
  | .rol _, h => by simp [plainD] at h
  | .dct _, h => by simp [plainD] at h
  | .obj _ _, h => by simp [plainD] at h
  | .ref _, h => by simp [plainD] at h
  | .cls _, h => by simp [plainD] at h
  | .ty _, h => by simp [plainD] at h
theorem deeps_pd : ∀ (ds : List D), plainL ds = true → PyData.depthAll (toPDs ds) = deeps ds
  | [], _ => rfl
  | d :: ds, h => by
    have a : plainD d = true ∧ plainL ds = true := by simpa [plainL] using h
    simp only [toPDs, PyData.depthAll, deeps]; rw [deep_pd d a.1, deeps_pd ds a.2]
end
def plainN : Nat → D → Bool
  | _, .non => true
  | _, .int _ => true
  | _, .str x => PyData.strOk x
  | n + 1, .tup xs => xs.all (plainN n)
  | n + 1, .lst xs => xs.all (plainN n)
  | _, _ => false
theorem plainL_of {xs : List D} (h : ∀ x ∈ xs, plainD x = true) : plainL xs = true := by
  induction xs with
  | nil => rfl
  | cons x xs ih => simp [plainL, h x (by simp), ih fun y hy => h y (by simp [hy])]
theorem deeps_of {xs : List D} {n : Nat} (h : ∀ x ∈ xs, deep x ≤ n) : deeps xs ≤ n := by
  induction xs with
  | nil => exact Nat.zero_le _
  | cons x xs ih => have := h x (by simp); have := ih fun y hy => h y (by simp [hy]); simp only [deeps]; omega
theorem plainN_ok : ∀ (n : Nat) (d : D), plainN n d = true → plainD d = true ∧ deep d ≤ n := by
  intro n
  induction n with
  | zero => intro d h; cases d <;> simp [plainN] at h <;> simp [plainD, deep, h]
  | succ n ih =>
    intro d h
    cases d with
    | tup xs =>
      have h' : ∀ x ∈ xs, plainN n x = true := by simpa [plainN] using h
      exact ⟨by simp only [plainD]; exact plainL_of fun x hx => (ih x (h' x hx)).1, by simp only [deep]; have := deeps_of fun x hx => (ih x (h' x hx)).2; omega⟩
    | lst xs =>
      have h' : ∀ x ∈ xs, plainN n x = true := by simpa [plainN] using h
      exact ⟨by simp only [plainD]; exact plainL_of fun x hx => (ih x (h' x hx)).1, by simp only [deep]; have := deeps_of fun x hx => (ih x (h' x hx)).2; omega⟩
    | _ => simp [plainN] at h <;> simp [plainD, deep, h]
theorem plainN_shaped {n : Nat} {d : D} (hn : n ≤ 64) (h : plainN n d = true) : SeqAt.shaped (toPD d) = true := by
  obtain ⟨a, b⟩ := plainN_ok n d h
  unfold SeqAt.shaped
  rw [plain_lay d a, deep_pd d a]
  simp; omega
theorem look_dp {K : KW} {F H : Hp} {μ : Mem} (w : Wd K F μ H) {x : D} {v : V} {n : Nat} (h : plainN n (look μ x) = true) (r : Rep K F x v) : Dp K H v (toPD (look μ x)) := by
  cases x with
  | ref a =>
    rw [look_ref_eq] at h ⊢
    cases q : μ a with
    | none => rw [q] at h; cases n <;> simp [plainN] at h
    | some m =>
      rw [q] at h
      cases m with
      | lst xs =>
        obtain ⟨b, vs, rfl, hb, rl⟩ := w.lst r (look_ref q)
        have := (plainN_ok n (.lst xs) h).1
        exact .lst (SqL.of hb) (plain_dps w.le xs vs (by simpa [plainD] using this) rl)
      | ins => cases n <;> simp [plainN] at h
      | dct => cases n <;> simp [plainN] at h
      | ldc => cases n <;> simp [plainN] at h
      | tab => cases n <;> simp [plainN] at h
  | _ => exact plain_dp w.le _ v (plainN_ok n _ h).1 r
def sEq (neg : Bool) : S2 := fun x y μ Q => plainN 32 (look μ x) = true ∧ plainN 32 (look μ y) = true ∧ Q (.bl (neg ^^ same (look μ x) (look μ y))) μ
theorem eqv_is {x y : D} (h1 : plainD x = true) (h2 : plainD y = true) : PyData.eqv (toPD x) (toPD y) = same x y := by
  have := eqv_same x y h1 h2
  cases q : PyData.eqv (toPD x) (toPD y) with
  | true => rw [q] at this; rw [this.mp rfl]; exact (same_self y).symm
  | false =>
    rw [q] at this
    exact (same_of_ne fun e => by have := this.mpr e; cases this).symm
theorem linkEq {X : Cx} : Link2 X (sEq false) (rEqD X.K) := by
  intro F μ H x y v u Qd Q w r1 r2 ⟨h1, h2, h⟩ p
  refine ⟨_, _, look_dp w h1 r1, look_dp w h2 r2, plainN_shaped (by decide) h1, plainN_shaped (by decide) h2, ?_⟩
  rw [eqv_is (plainN_ok _ _ h1).1 (plainN_ok _ _ h2).1]
  exact p F _ H _ μ (Same.refl _) w (rep_bl.mpr rfl) (by simpa using h)
theorem linkNe {X : Cx} : Link2 X (sEq true) (rNeD X.K) := by
  intro F μ H x y v u Qd Q w r1 r2 ⟨h1, h2, h⟩ p
  refine ⟨_, _, look_dp w h1 r1, look_dp w h2 r2, plainN_shaped (by decide) h1, plainN_shaped (by decide) h2, ?_⟩
  rw [eqv_is (plainN_ok _ _ h1).1 (plainN_ok _ _ h2).1]
  exact p F _ H _ μ (Same.refl _) w (rep_bl.mpr rfl) (by simpa using h)
noncomputable def oEq : Std := ⟨⟨fun _ => pCmp .Eq, bi2 (sEq false), fun _ _ => True⟩, fun c => cmp_std (op_eqD c.room.units) linkEq⟩
noncomputable def oNe : Std := ⟨⟨fun _ => pCmp .NotEq, bi2 (sEq true), fun _ _ => True⟩, fun c => cmp_std (op_neD c.room.units) linkNe⟩
end DL
end
section
set_option Elab.async false
set_option linter.all false
set_option maxRecDepth 100000
set_option maxHeartbeats 400000
namespace DL
open PySem PySem.Spec L2

def pTup : Expr → Option (List Expr)
  | .Tuple es _ _ => if es.all notStar then some es else none
  | _ => none
def pLst : Expr → Option (List Expr)
  | .List es _ => if es.all notStar then some es else none
  | _ => none
section
variable {X : Cx} {E : XK} {k : Nat}
def sTup : SL := fun ds μ Q => ds.length ≤ sizeLine ∧ Q (.tup ds) μ
def sLst : SL := fun ds μ Q => ds.length ≤ sizeLine ∧ Q (.lst ds) μ
def sLstM : SL := fun ds μ Q => ds.length ≤ sizeLine ∧ ∀ a, μ a = none → Q (.ref a) (μ.set a (.lst ds))
theorem linkTup : LinkL X sTup (fun vs H Q => vs.length ≤ sizeLine ∧ ∀ p, H p = none → Q (.ref p) (upd H p (.tup vs))) := by
  intro F μ H xs vs Qd Q w r ⟨h1, h2⟩ p
  refine ⟨by rw [← r.length]; exact h1, fun q hq => ?_⟩
  obtain ⟨w', l⟩ := w.newF hq (.tup vs)
  exact p _ _ _ _ μ l w' (rep_tup.mpr ⟨q, vs, rfl, .inl upd_same, RepL.le l _ _ r⟩) h2
theorem linkLst : LinkL X sLst (fun vs H Q => vs.length ≤ sizeLine ∧ ∀ p, H p = none → Q (.ref p) (upd H p (.lst vs))) := by
  intro F μ H xs vs Qd Q w r ⟨h1, h2⟩ p
  refine ⟨by rw [← r.length]; exact h1, fun q hq => ?_⟩
  obtain ⟨w', l⟩ := w.newF hq (.lst vs)
  exact p _ _ _ _ μ l w' (rep_lst.mpr ⟨q, vs, rfl, upd_same, RepL.le l _ _ r⟩) h2
theorem linkLstM : LinkL X sLstM (fun vs H Q => vs.length ≤ sizeLine ∧ ∀ p, H p = none → Q (.ref p) (upd H p (.lst vs))) := by
  intro F μ H xs vs Qd Q w r ⟨h1, h2⟩ p
  refine ⟨by rw [← r.length]; exact h1, fun q hq => ?_⟩
  exact p _ _ _ _ _ (Same.refl _) (w.newM hq (m := .lst xs) (o := .lst vs) ⟨vs, rfl, r⟩) (rep_ref.mpr rfl) (h2 q (w.freeM hq))
def lf (s : SL) : Sem1 := fun ds μ Q _ => s ds μ Q
theorem tup_ok : OpnOk X E ⟨fun _ => pTup, lf sTup, fun _ _ => True⟩ := by
  refine OpnOk.plain (fun e es h => ?_) fun {e es ts} h l => ?_
  · cases e <;> first | rfl | cases h
  · cases e <;> try (cases h; done)
    rename_i es' n pos
    have h2 : (if es'.all notStar then some es' else none) = some es := h
    clear h
    split at h2
    · rename_i q; cases h2
      exact PE.imp (pe_tup (l.pa q)) (argsT_ok (R := fun Q vs H => vs.length ≤ sizeLine ∧ ∀ p, H p = none → Q (.ref p) (upd H p (.tup vs))) rfl (fun _ _ _ _ h => h) linkTup)
    · cases h2
theorem lst_ok {s : SL} (hl : LinkL X s (fun vs H Q => vs.length ≤ sizeLine ∧ ∀ p, H p = none → Q (.ref p) (upd H p (.lst vs)))) : OpnOk X E ⟨fun _ => pLst, lf s, fun _ _ => True⟩ := by
  refine OpnOk.plain (fun e es h => ?_) fun {e es ts} h l => ?_
  · cases e <;> first | rfl | cases h
  · cases e <;> try (cases h; done)
    rename_i es' pos
    have h2 : (if es'.all notStar then some es' else none) = some es := h
    clear h
    split at h2
    · rename_i q; cases h2
      exact PE.imp (pe_lst (l.pa q)) (argsT_ok (R := fun Q vs H => vs.length ≤ sizeLine ∧ ∀ p, H p = none → Q (.ref p) (upd H p (.lst vs))) rfl (fun _ _ _ _ h => h) hl)
    · cases h2
end
def oTup : Std := ⟨⟨fun _ => pTup, lf sTup, fun _ _ => True⟩, fun _ => tup_ok⟩
def oLst : Std := ⟨⟨fun _ => pLst, lf sLst, fun _ _ => True⟩, fun _ => lst_ok linkLst⟩
def oLstM : Std := ⟨⟨fun _ => pLst, lf sLstM, fun _ _ => True⟩, fun _ => lst_ok linkLstM⟩

def notSlice : Expr → Bool
  | .Slice .. => false
  | _ => true
theorem plainIx_of {b : Expr} (h : notSlice b = true) : PlainIx b := by
  intro o i
  cases b <;> first | rfl | cases h
def pSub : Expr → Option (List Expr)
  | .Subscript a b _ => if notSlice b then some [a, b] else none
  | _ => none
def sIx : S2 := fun x y μ Q => match look μ x, y with
  | .lst xs, .int i => ∃ d, atI xs i = some d ∧ Q d μ
  | .tup xs, .int i => ∃ d, atI xs i = some d ∧ Q d μ
  | .str z, .int i => z.length ≤ sizeLine ∧ ∃ c, atI z.cps.toList i = some c ∧ Q (.str ⟨#[c]⟩) μ
  | _, _ => False
theorem atI_rep {K : PySem.W.Frag} {F : Hp} {xs : List D} {vs : List V} {i : Int} {d : D} (r : RepL K F xs vs) (h : atI xs i = some d) : ∃ v, atI vs i = some v ∧ Rep K F d v := by
  unfold atI at h ⊢
  rw [← r.length]
  cases q : ixN xs.length i with
  | none => rw [q] at h; cases h
  | some j =>
    rw [q] at h
    exact r.get h
theorem linkIx {X : Cx} : Link2 X sIx (rIx X.K) := by
  intro F μ H x y v u Qd Q w r1 r2 h p
  unfold sIx at h
  split at h
  · rename_i xs i e
    obtain ⟨d, hd, h⟩ := h
    obtain ⟨a, vs, rfl, ha, ra⟩ := w.lst r1 e
    rw [rep_int] at r2
    obtain ⟨w', e1, e2⟩ := atI_rep ra hd
    exact .inl ⟨a, vs, i, w', rfl, r2, SqL.of ha, e1, p F _ H d μ (Same.refl _) w e2 h⟩
  · rename_i xs i e
    obtain ⟨d, hd, h⟩ := h
    obtain ⟨a, vs, rfl, ha, ra⟩ := w.tup r1 e
    rw [rep_int] at r2
    obtain ⟨w', e1, e2⟩ := atI_rep ra hd
    exact .inr (.inl ⟨a, vs, i, w', rfl, r2, ha, e1, p F _ H d μ (Same.refl _) w e2 h⟩)
  · rename_i z i e
    obtain ⟨hz, c, hc, h⟩ := h
    cases look_str_inv e
    rw [rep_str] at r1
    rw [rep_int] at r2
    exact .inr (.inr ⟨z, i, c, r1, r2, hz, hc, p F _ H _ μ (Same.refl _) w (rep_str.mpr rfl) h⟩)
  · exact h.elim
def oIx : Std := ⟨⟨fun _ => pSub, bi2 sIx, fun _ _ => True⟩, fun _ => by
  refine OpnOk.plain (fun e es h => ?_) fun {e es ts} h l => ?_
  · cases e <;> first | rfl | cases h
  · cases e <;> try (cases h; done)
    rename_i a b pos
    have h2 : (if notSlice b then some [a, b] else none) = some es := h
    clear h
    split at h2
    · rename_i q; cases h2
      obtain ⟨t, u, rfl, h1, h2⟩ := l.two
      exact PE.imp (pe_ix ix_seq h1 h2 (plainIx_of q)) (two_ok rfl linkIx)
    · cases h2⟩
def cutD {α : Type} (xs : List α) (lo hi : Option Int) : List α := (xs.drop (HT.sIx xs.length 0 lo)).take (HT.sIx xs.length xs.length hi - HT.sIx xs.length 0 lo)
theorem cut_rep {K : PySem.W.Frag} {F : Hp} {xs : List D} {vs : List V} (r : RepL K F xs vs) (lo hi : Option Int) : RepL K F (cutD xs lo hi) (cutV vs lo hi) := by
  unfold cutD cutV
  rw [← r.length]
  exact (r.drop _).take _
def sSl (x : D) (lo hi : Option Int) (μ : Mem) (Q : QD) : Prop := match look μ x with
  | .lst xs => Q (.lst (cutD xs lo hi)) μ
  | .rol xs => Q (.lst (cutD xs lo hi)) μ
  | .tup xs => Q (.tup (cutD xs lo hi)) μ
  | _ => False
theorem look_rol_inv {μ : Mem} {x : D} {xs : List D} (h : look μ x = .rol xs) : x = .rol xs := by
  cases x with
  | ref a =>
    rw [look_ref_eq] at h
    cases q : μ a with
    | none => rw [q] at h; cases h
    | some m => rw [q] at h; cases m <;> cases h
  | rol ys => cases h; rfl
  | _ => cases h
def rSlB (K : PySem.W.Frag) : V → Option Int → Option Int → Hp → VK → Prop := fun x lo hi H Q => rSlL K x lo hi H Q ∨ rSlA K x lo hi H Q
theorem cut_whole {xs : List D} {lo hi : Option Int} (h : HT.sIx xs.length 0 lo = 0 ∧ HT.sIx xs.length xs.length hi = xs.length) : cutD xs lo hi = xs := by
  unfold cutD
  rw [h.1, h.2]
  simp
theorem linkSl {X : Cx} {F : Hp} {μ : Mem} {H : Hp} {x : D} {v : V} {lo hi : Option Int} {Qd : QD} {Q : VK} (w : Wd X.kw F μ H) (r : Rep X.K F x v) (h : sSl x lo hi μ Qd) (p : Post X.kw F Qd Q) : rSlB X.K v lo hi H Q := by
  unfold sSl at h
  split at h
  · rename_i xs e
    obtain ⟨a, vs, rfl, ha, ra⟩ := w.lst r e
    refine .inl ⟨a, vs, rfl, SqL.of ha, fun q hq => ?_⟩
    obtain ⟨w', l⟩ := w.newF hq (.lst (cutV vs lo hi))
    exact p _ _ _ _ μ l w' (rep_lst.mpr ⟨q, _, rfl, upd_same, cut_rep (RepL.le l _ _ ra) lo hi⟩) h
  · rename_i xs e
    cases look_rol_inv e
    obtain ⟨a, vs, rfl, ha, ra⟩ := rep_rol.mp r
    refine .inl ⟨a, vs, rfl, SqL.le w.le ha, fun q hq => ?_⟩
    obtain ⟨w', l⟩ := w.newF hq (.lst (cutV vs lo hi))
    exact p _ _ _ _ μ l w' (rep_lst.mpr ⟨q, _, rfl, upd_same, cut_rep (RepL.le l _ _ ra) lo hi⟩) h
  · rename_i xs e
    obtain ⟨a, vs, rfl, ha, ra⟩ := w.tup r e
    cases look_tup_inv e
    refine .inr ⟨a, vs, rfl, ha, fun z => ?_, fun z q hq => ?_⟩
    · rw [← ra.length] at z
      rw [cut_whole z] at h
      exact p F _ H _ μ (Same.refl _) w r h
    · obtain ⟨w', l⟩ := w.newF hq (.tup (cutV vs lo hi))
      exact p _ _ _ _ μ l w' (rep_tup.mpr ⟨q, _, rfl, .inl upd_same, cut_rep (RepL.le l _ _ ra) lo hi⟩) h
  · exact h.elim
theorem sl_anyB {X : Cx} : SlR X (rSlB X.K) := sl_list.or sl_tupA
def pSl (bl bh : Bool) : Expr → Option (List Expr)
  | .Subscript a (.Slice lo hi none _) _ => (match lo, hi, bl, bh with
    | none, none, false, false => some [a]
    | some l, none, true, false => some [a, l]
    | none, some h, false, true => some [a, h]
    | some l, some h, true, true => some [a, l, h]
    | _, _, _, _ => none)
  | _ => none
def semSl (bl bh : Bool) : Sem1 := fun ds μ Q _ => match ds, bl, bh with
  | [x], false, false => sSl x none none μ Q
  | [x, .int l], true, false => sSl x (some l) none μ Q
  | [x, .int h], false, true => sSl x none (some h) μ Q
  | [x, .int l, .int h], true, true => sSl x (some l) (some h) μ Q
  | _, _, _ => False
def preSl (bl bh : Bool) : List D → Mem → Prop := fun ds _ => match ds, bl, bh with
  | [_, .int _], true, true => True
  | [_, _], true, true => False
  | _, _, _ => True
theorem sl_ok {X : Cx} {E : XK} (bl bh : Bool) : OpnOk X E ⟨fun _ => pSl bl bh, semSl bl bh, preSl bl bh⟩ := by
  refine OpnOk.plain (fun e es h => ?_) fun {e es ts} h l => ?_
  · cases e <;> first | rfl | cases h
  · have h2 : pSl bl bh e = some es := h
    clear h
    unfold pSl at h2
    split at h2
    · rename_i a lo hi p2 pos
      split at h2
      · cases h2
        obtain ⟨t, rfl, h1⟩ := l.one
        refine PE.imp (pe_slice sl_anyB h1 po_none po_none) fun σ H Q ⟨F, μ, env, Qd, Ex, w, re, x, h, p⟩ => ?_
        refine ⟨F, μ, env, _, Ex, w, re, x, h, fun F1 v H1 d μ1 l1 w1 r1 h1 => ?_⟩
        exact linkSl w1 r1 h1.2 (p.le l1)
      · cases h2
        obtain ⟨t, u, rfl, h1, h2⟩ := l.two
        refine PE.imp (pe_slice sl_anyB h1 (po_some h2) po_none) fun σ H Q ⟨F, μ, env, Qd, Ex, w, re, x, h, p⟩ => ?_
        refine ⟨F, μ, env, _, Ex, w, re, x, h, fun F1 v H1 d μ1 l1 w1 r1 h1 => ?_⟩
        refine ⟨F1, μ1, env, _, Ex, w1, re.le l1, x.le l1, h1.2, fun F2 u H2 d2 μ2 l2 w2 r2 h2 => ?_⟩
        cases d2 <;> try exact h2.2.elim
        rw [rep_int] at r2
        exact ⟨_, r2, linkSl w2 (Rep.le l2 _ _ r1) h2.2 (p.le (l1.trans l2))⟩
      · cases h2
        obtain ⟨t, u, rfl, h1, h2⟩ := l.two
        refine PE.imp (pe_slice sl_anyB h1 po_none (po_some h2)) fun σ H Q ⟨F, μ, env, Qd, Ex, w, re, x, h, p⟩ => ?_
        refine ⟨F, μ, env, _, Ex, w, re, x, h, fun F1 v H1 d μ1 l1 w1 r1 h1 => ?_⟩
        refine ⟨F1, μ1, env, _, Ex, w1, re.le l1, x.le l1, h1.2, fun F2 u H2 d2 μ2 l2 w2 r2 h2 => ?_⟩
        cases d2 <;> try exact h2.2.elim
        rw [rep_int] at r2
        exact ⟨_, r2, linkSl w2 (Rep.le l2 _ _ r1) h2.2 (p.le (l1.trans l2))⟩
      · cases h2
        obtain ⟨t, u, z, rfl, h1, h2, h3⟩ := l.three
        refine PE.imp (pe_slice sl_anyB h1 (po_some h2) (po_some h3)) fun σ H Q ⟨F, μ, env, Qd, Ex, w, re, x, h, p⟩ => ?_
        refine ⟨F, μ, env, _, Ex, w, re, x, h, fun F1 v H1 d μ1 l1 w1 r1 h1 => ?_⟩
        refine ⟨F1, μ1, env, _, Ex, w1, re.le l1, x.le l1, h1.2, fun F2 u H2 d2 μ2 l2 w2 r2 h2 => ?_⟩
        cases d2 with
        | int i2 =>
          rw [rep_int] at r2
          refine ⟨_, r2, F2, μ2, env, _, Ex, w2, re.le (l1.trans l2), x.le (l1.trans l2), h2.2, fun F3 u3 H3 d3 μ3 l3 w3 r3 h3 => ?_⟩
          cases d3 <;> try exact h3.2.elim
          rw [rep_int] at r3
          exact ⟨_, r3, linkSl w3 (Rep.le (l2.trans l3) _ _ r1) h3.2 (p.le ((l1.trans l2).trans l3))⟩
        | _ => exact h2.1.elim
      · cases h2
    · cases h2
def oSl (bl bh : Bool) : Std := ⟨⟨fun _ => pSl bl bh, semSl bl bh, preSl bl bh⟩, fun _ => sl_ok bl bh⟩
end DL
end
section
set_option Elab.async false
set_option linter.all false
set_option maxRecDepth 100000
set_option maxHeartbeats 400000
namespace DL
open PySem PySem.Spec L2

def pCall (x : Str) (sc : Scope) : Expr → Option (List Expr)
  | .Call (.Name y _) (a :: es) [] _ => if decide (y = x) && (decide (sc.names.lookup x = some .globalImplicit) && (a :: es).all notStar) then some (a :: es) else none
  | _ => none
theorem pCall_inv {x : Str} {sc : Scope} {e : Expr} {es : List Expr} (h : pCall x sc e = some es) : ∃ p a r pos, e = .Call (.Name x p) (a :: r) [] pos ∧ es = a :: r ∧ sc.names.lookup x = some .globalImplicit ∧ (a :: r).all notStar = true := by
  unfold pCall at h
  split at h
  · rename_i y p a es' pos
    split at h
    · rename_i q
      simp only [Bool.and_eq_true, decide_eq_true_eq] at q
      obtain ⟨q1, q2, q3⟩ := q
      subst q1
      cases h
      exact ⟨p, a, es', pos, rfl, rfl, q2, q3⟩
    · cases h
  · cases h
theorem pCall_plain {x : Str} {sc : Scope} {e : Expr} {es : List Expr} (h : pCall x sc e = some es) : plainTest e = true := by
  obtain ⟨p, a, r, pos, rfl, _⟩ := pCall_inv h
  rfl
section
variable {X : Cx} {E : XK} {k : Nat}
theorem callB_std {x : Str} {id : String} {s : SL} {r : List V → Hp → VK → Prop} (c : Ctx X E k) (hb : x ∈ bltNames) (hc : CallR X (.builtin id) r) (hl : LinkL X s r) (hv : bootBuiltins x = some (.builtin id))
    (hn : x ≠ "__name__" := by decide) (hdb : (x == ("__debug__" : Str)) = false := by decide) : OpnOk X E ⟨pCall x, lf s, fun _ _ => True⟩ := by
  refine OpnOk.plain (fun e es h => pCall_plain h) fun {e es ts} h l => ?_
  obtain ⟨p, a, r, pos, rfl, rfl, hg, hs⟩ := pCall_inv h
  have h' : notStar a = true ∧ r.all notStar = true := by simpa using hs
  exact PE.imp (pe_callB hc hg (c.free _ hb) hv (l.pa hs) hn hdb (starEach_cons h'.1) (noStar_any h'.2)) (args_ok rfl (fun _ _ _ _ h => h) hl)
theorem callT_std {x : Str} {T : String} {s : SL} {r : List V → Hp → VK → Prop} (c : Ctx X E k) (hb : x ∈ bltNames) (hc : CallR X (.type T) r) (hl : LinkL X s r) (hv : bootBuiltins x = some (.type T))
    (hn : x ≠ "__name__" := by decide) (hdb : (x == ("__debug__" : Str)) = false := by decide) : OpnOk X E ⟨pCall x, lf s, fun _ _ => True⟩ := by
  refine OpnOk.plain (fun e es h => pCall_plain h) fun {e es ts} h l => ?_
  obtain ⟨p, a, r, pos, rfl, rfl, hg, hs⟩ := pCall_inv h
  have h' : notStar a = true ∧ r.all notStar = true := by simpa using hs
  exact PE.imp (pe_callTy hc hg (c.free _ hb) hv (l.pa hs) hn hdb (starEach_cons h'.1) (noStar_any h'.2)) (args_ok rfl (fun _ _ _ _ h => h) hl)
end
def l1 (s : S1) : SL := fun ds μ Q => match ds with
  | [x] => s x μ Q
  | _ => False
def l2 (s : S2) : SL := fun ds μ Q => match ds with
  | [x, y] => s x y μ Q
  | _ => False
theorem link_l1 {X : Cx} {s : S1} {r : List V → Hp → VK → Prop} (h : ∀ F μ H x v Qd Q, Wd X.kw F μ H → Rep X.K F x v → s x μ Qd → Post X.kw F Qd Q → r [v] H Q) : LinkL X (l1 s) r := by
  intro F μ H xs vs Qd Q w rr hh p
  unfold l1 at hh
  split at hh
  · obtain ⟨v, rfl, r1⟩ := rr.single
    exact h F μ H _ v Qd Q w r1 hh p
  · exact hh.elim
theorem link_l2 {X : Cx} {s : S2} {r : List V → Hp → VK → Prop} (h : ∀ F μ H x y v u Qd Q, Wd X.kw F μ H → Rep X.K F x v → Rep X.K F y u → s x y μ Qd → Post X.kw F Qd Q → r [v, u] H Q) : LinkL X (l2 s) r := by
  intro F μ H xs vs Qd Q w rr hh p
  unfold l2 at hh
  split at hh
  · obtain ⟨v, u, rfl, r1, r2⟩ := rr.two
    exact h F μ H _ _ v u Qd Q w r1 r2 hh p
  · exact hh.elim

def sLen : S1 := fun x μ Q => match look μ x with
  | .str z => z.length ≤ sizeLine ∧ Q (.int z.length) μ
  | .lst xs => Q (.int xs.length) μ
  | .rol xs => Q (.int xs.length) μ
  | .tup xs => Q (.int xs.length) μ
  | .dct xs => Q (.int xs.length) μ
  | _ => False
def rLenA (K : PySem.W.Frag) : List V → Hp → VK → Prop := fun xs H Q => (∃ x n, xs = [x] ∧ LenV K x H n ∧ Q (.int n) H) ∨ ∃ a kvs, xs = [V.ref a] ∧ Rd H a (.dK kvs) ∧ Q (.int kvs.length) H
theorem RepK.length {K : PySem.W.Frag} {F : Hp} : ∀ {ds : List (Key × D)} {vs : List (Key × V)}, RepK K F ds vs → ds.length = vs.length
  | [], _, q => by rw [repK_nil] at q; subst q; rfl
  | (k, d) :: ds, _, q => by
    obtain ⟨v, r, rfl, _, b⟩ := repK_cons.mp q
    simp [RepK.length b]
theorem call_lenDR {X : Cx} : CallR X (.builtin "len") (fun xs H Q => ∃ a kvs, xs = [V.ref a] ∧ Rd H a (.dK kvs) ∧ Q (.int kvs.length) H) := by
  intro pins s σ H xs us Q I r h
  obtain ⟨a, kvs, rfl, ha, q⟩ := h
  obtain ⟨u, rfl, ru⟩ := vals1 r
  cases ru
  exact d_len I ha fun t s' I' => ⟨.int kvs.length, H, I', ⟨t, rfl⟩, q⟩
theorem linkLen {X : Cx} : LinkL X (l1 sLen) (rLenA X.K) := link_l1 fun F μ H x v Qd Q w r h p => by
  unfold sLen at h
  split at h
  · rename_i z e
    cases look_str_inv e
    rw [rep_str] at r; subst r
    exact .inl ⟨_, _, rfl, ⟨h.1, rfl⟩, p F _ H _ μ (Same.refl _) w (rep_int.mpr rfl) h.2⟩
  · rename_i xs e
    obtain ⟨a, vs, rfl, ha, ra⟩ := w.lst r e
    exact .inl ⟨_, vs.length, rfl, .inl ⟨vs, SqL.of ha, rfl⟩, p F _ H _ μ (Same.refl _) w (rep_int.mpr (by rw [ra.length])) h⟩
  · rename_i xs e
    cases look_rol_inv e
    obtain ⟨a, vs, rfl, ha, ra⟩ := rep_rol.mp r
    exact .inl ⟨_, vs.length, rfl, .inl ⟨vs, SqL.le w.le ha, rfl⟩, p F _ H _ μ (Same.refl _) w (rep_int.mpr (by rw [ra.length])) h⟩
  · rename_i xs e
    obtain ⟨a, vs, rfl, ha, ra⟩ := w.tup r e
    exact .inl ⟨_, vs.length, rfl, .inr ⟨vs, ha, rfl⟩, p F _ H _ μ (Same.refl _) w (rep_int.mpr (by rw [ra.length])) h⟩
  · rename_i xs e
    obtain ⟨a, vs, rfl, ha, ra⟩ := w.dct r e
    exact .inr ⟨a, vs, rfl, ha, p F _ H _ μ (Same.refl _) w (rep_int.mpr (by rw [ra.length])) h⟩
  · exact h.elim
def oLen : Std := ⟨⟨pCall "len", lf (l1 sLen), fun _ _ => True⟩, fun c => callB_std c (by decide +kernel) (call_len.or call_lenDR) linkLen boot_len⟩

theorem linkBs {X : Cx} {f : List Bool → Bool} : LinkL X (l1 fun x μ Q => ∃ bs : List Bool, look μ x = .lst (bs.map D.bl) ∧ Q (.bl (f bs)) μ)
    (fun vs H Q => ∃ (a : Addr) (bs : List Bool), vs = [V.ref a] ∧ SqL X.K H a (bs.map V.bl) ∧ Q (.bl (f bs)) H) := link_l1 fun F μ H x v Qd Q w r h p => by
  obtain ⟨bs, e, h⟩ := h
  obtain ⟨a, vs, rfl, ha, ra⟩ := w.lst r e
  have := ra.bls; subst this
  exact ⟨a, bs, rfl, SqL.of ha, p F _ H _ μ (Same.refl _) w (rep_bl.mpr rfl) h⟩
def oAll : Std := ⟨⟨pCall "all", lf (l1 fun x μ Q => ∃ bs : List Bool, look μ x = .lst (bs.map D.bl) ∧ Q (.bl (bs.all id)) μ), fun _ _ => True⟩, fun c => callB_std c (by decide +kernel) (cr_all c.calm) linkBs PyProof.Rows.boot_all⟩
def oAny : Std := ⟨⟨pCall "any", lf (l1 fun x μ Q => ∃ bs : List Bool, look μ x = .lst (bs.map D.bl) ∧ Q (.bl (bs.any id)) μ), fun _ _ => True⟩, fun c => callB_std c (by decide +kernel) (cr_any c.calm) linkBs PyProof.Rows.boot_any⟩
theorem linkSum {X : Cx} : LinkL X (l1 fun x μ Q => ∃ ns : List Int, look μ x = .lst (ns.map D.int) ∧ Q (.int ns.sum) μ) (rSum X.K) := link_l1 fun F μ H x v Qd Q w r h p => by
  obtain ⟨ns, e, h⟩ := h
  obtain ⟨a, vs, rfl, ha, ra⟩ := w.lst r e
  have := ra.ints; subst this
  exact ⟨a, ns, rfl, SqL.of ha, p F _ H _ μ (Same.refl _) w (rep_int.mpr rfl) h⟩
def oSum : Std := ⟨⟨pCall "sum", lf (l1 fun x μ Q => ∃ ns : List Int, look μ x = .lst (ns.map D.int) ∧ Q (.int ns.sum) μ), fun _ _ => True⟩, fun c => callB_std c (by decide +kernel) (cr_sum c.calm) linkSum PyProof.Rows.boot_sum⟩
def isort (ns : List Int) : List Int := ns.mergeSort fun a b => decide (a ≤ b)
theorem isort_perm (ns : List Int) : (isort ns).Perm ns := List.mergeSort_perm _ _
theorem isort_sorted (ns : List Int) : (isort ns).Pairwise (· ≤ ·) := by
  have := List.pairwise_mergeSort (le := fun a b : Int => decide (a ≤ b)) (fun a b c h1 h2 => by simp at *; omega) (fun a b => by simp; omega) ns
  exact this.imp fun h => by simpa using h
theorem isort_eq {ns ms : List Int} (h : ms.Perm ns) (s : ms.Pairwise (· ≤ ·)) : ms = isort ns :=
  (h.trans (isort_perm ns).symm).eq_of_pairwise (le := (· ≤ ·)) (fun a b _ _ h1 h2 => by omega) s (isort_sorted ns)
def sSortI : S1 := fun x μ Q => ∃ ns : List Int, look μ x = .lst (ns.map D.int) ∧ Q (.lst ((isort ns).map D.int)) μ
theorem linkSortI {X : Cx} : LinkL X (l1 sSortI) (rSortedI X.K) := link_l1 fun F μ H x v Qd Q w r h p => by
  obtain ⟨ns, e, h⟩ := h
  obtain ⟨a, vs, rfl, ha, ra⟩ := w.lst r e
  have := ra.ints; subst this
  refine ⟨a, ns, rfl, SqL.of ha, fun ns' q hp hs hq => ?_⟩
  obtain rfl := isort_eq hp hs
  obtain ⟨w', l⟩ := w.newF hq (.lst ((isort ns).map V.int))
  exact p _ _ _ _ μ l w' (rep_lst.mpr ⟨q, _, rfl, upd_same, RepL.of_ints _⟩) h
def oSortI : Std := ⟨⟨pCall "sorted", lf (l1 sSortI), fun _ _ => True⟩, fun c => callB_std c (by decide +kernel) cr_sortedI linkSortI PyProof.Rows.boot_sorted⟩
def oMax2 : Std := ⟨⟨pCall "max", lf (l2 fun x y μ Q => ∃ i j, x = .int i ∧ y = .int j ∧ Q (.int (if j > i then j else i)) μ), fun _ _ => True⟩, fun c => callB_std c (by decide +kernel) (call_max2 c.calm) (link_l2 fun F μ H x y v u Qd Q w r1 r2 h p => by
  obtain ⟨i, j, rfl, rfl, h⟩ := h
  rw [rep_int] at r1 r2; subst r1; subst r2
  exact ⟨i, j, rfl, p F _ H _ μ (Same.refl _) w (rep_int.mpr rfl) h⟩) PyProof.Rows.boot_max⟩
def oMin2 : Std := ⟨⟨pCall "min", lf (l2 fun x y μ Q => ∃ i j, x = .int i ∧ y = .int j ∧ Q (.int (if j < i then j else i)) μ), fun _ _ => True⟩, fun c => callB_std c (by decide +kernel) (call_min2 c.calm) (link_l2 fun F μ H x y v u Qd Q w r1 r2 h p => by
  obtain ⟨i, j, rfl, rfl, h⟩ := h
  rw [rep_int] at r1 r2; subst r1; subst r2
  exact ⟨i, j, rfl, p F _ H _ μ (Same.refl _) w (rep_int.mpr rfl) h⟩) PyProof.Rows.boot_min⟩

def seqOf (μ : Mem) (x : D) : Option (List D) := match look μ x with
  | .lst xs => some xs
  | .rol xs => some xs
  | .tup xs => some xs
  | _ => none
theorem Wd.seq {K : KW} {F : Hp} {μ : Mem} {H : Hp} (w : Wd K F μ H) {x : D} {v : V} {xs : List D} (r : Rep K F x v) (h : seqOf μ x = some xs) : ∃ a vs, v = .ref a ∧ (SqL K H a vs ∨ SqT K H a vs) ∧ RepL K F xs vs := by
  unfold seqOf at h
  split at h
  · rename_i ys e
    cases h
    obtain ⟨a, vs, e, h, r⟩ := w.lst r e
    exact ⟨a, vs, e, .inl (SqL.of h), r⟩
  · rename_i ys e
    cases h
    cases look_rol_inv e
    obtain ⟨a, vs, rfl, ha, ra⟩ := rep_rol.mp r
    exact ⟨a, vs, rfl, .inl (SqL.le w.le ha), ra⟩
  · rename_i ys e
    cases h
    obtain ⟨a, vs, e, h, r⟩ := w.tup r e
    exact ⟨a, vs, e, .inr h, r⟩
  · cases h
def sList : S1 := fun x μ Q => ∃ xs, seqOf μ x = some xs ∧ Q (.lst xs) μ
def sListM : S1 := fun x μ Q => ∃ xs, seqOf μ x = some xs ∧ ∀ a, μ a = none → Q (.ref a) (μ.set a (.lst xs))
def rList (K : PySem.W.Frag) : List V → Hp → VK → Prop := fun xs H Q => ∃ p ys, xs = [.ref p] ∧ (SqL K H p ys ∨ SqT K H p ys) ∧ ∀ l, H l = none → Q (.ref l) (upd H l (.lst ys))
def oList : Std := ⟨⟨pCall "list", lf (l1 sList), fun _ _ => True⟩, fun c => callT_std c (by decide +kernel) (r := rList _) call_list_of (link_l1 fun F μ H x v Qd Q w r h p => by
  obtain ⟨xs, e, h⟩ := h
  obtain ⟨a, vs, rfl, ha, ra⟩ := w.seq r e
  refine ⟨a, vs, rfl, ha, fun q hq => ?_⟩
  obtain ⟨w', l⟩ := w.newF hq (.lst vs)
  exact p _ _ _ _ μ l w' (rep_lst.mpr ⟨q, _, rfl, upd_same, RepL.le l _ _ ra⟩) h) PyProof.Rows.boot_list⟩
def oListM : Std := ⟨⟨pCall "list", lf (l1 sListM), fun _ _ => True⟩, fun c => callT_std c (by decide +kernel) (r := rList _) call_list_of (link_l1 fun F μ H x v Qd Q w r h p => by
  obtain ⟨xs, e, h⟩ := h
  obtain ⟨a, vs, rfl, ha, ra⟩ := w.seq r e
  refine ⟨a, vs, rfl, ha, fun q hq => ?_⟩
  exact p _ _ _ _ _ (Same.refl _) (w.newM hq (m := .lst xs) (o := .lst vs) ⟨vs, rfl, ra⟩) (rep_ref.mpr rfl) (h q (w.freeM hq))) PyProof.Rows.boot_list⟩
def sTuple : S1 := fun x μ Q => match look μ x with
  | .lst xs => Q (.tup xs) μ
  | .tup xs => Q (.tup xs) μ
  | _ => False
def rTuple (K : PySem.W.Frag) : List V → Hp → VK → Prop := fun xs H Q => ∃ p ys, xs = [.ref p] ∧ ((SqL K H p ys ∧ ∀ l, H l = none → Q (.ref l) (upd H l (.tup ys))) ∨ (SqT K H p ys ∧ Q (.ref p) H))
def oTuple : Std := ⟨⟨pCall "tuple", lf (l1 sTuple), fun _ _ => True⟩, fun c => callT_std c (by decide +kernel) (r := rTuple _) call_tuple_of (link_l1 fun F μ H x v Qd Q w r h p => by
  unfold sTuple at h
  split at h
  · rename_i xs e
    obtain ⟨a, vs, rfl, ha, ra⟩ := w.lst r e
    refine ⟨a, vs, rfl, .inl ⟨SqL.of ha, fun q hq => ?_⟩⟩
    obtain ⟨w', l⟩ := w.newF hq (.tup vs)
    exact p _ _ _ _ μ l w' (rep_tup.mpr ⟨q, _, rfl, .inl upd_same, RepL.le l _ _ ra⟩) h
  · rename_i xs e
    obtain ⟨a, vs, rfl, ha, ra⟩ := w.tup r e
    cases look_tup_inv e
    exact ⟨a, vs, rfl, .inr ⟨ha, p F _ H _ μ (Same.refl _) w r h⟩⟩
  · exact h.elim) PyProof.Rows.boot_tuple⟩
def oIntB : Std := ⟨⟨pCall "int", lf (l1 fun x μ Q => match x with
    | .int i => Q (.int i) μ
    | .bl b => Q (.int (if b then 1 else 0)) μ
    | _ => False), fun _ _ => True⟩, fun c => callT_std c (by decide +kernel) call_int1 (link_l1 fun F μ H x v Qd Q w r h p => by
  cases x <;> try exact h.elim
  · rw [rep_bl] at r; subst r
    exact .inr ⟨_, rfl, p F _ H _ μ (Same.refl _) w (rep_int.mpr rfl) h⟩
  · rw [rep_int] at r; subst r
    exact .inl ⟨_, rfl, p F _ H _ μ (Same.refl _) w (rep_int.mpr rfl) h⟩) PyProof.Rows.boot_int⟩
def oStrI : Std := ⟨⟨pCall "str", lf (l1 fun x μ Q => match x with
    | .int i => i.natAbs.log2 < 1920 ∧ Q (.str (toString i)) μ
    | _ => False), fun _ _ => True⟩, fun c => callT_std c (by decide +kernel) call_str_int (link_l1 fun F μ H x v Qd Q w r h p => by
  cases x <;> try exact h.elim
  rw [rep_int] at r; subst r
  exact ⟨_, rfl, h.1, p F _ H _ μ (Same.refl _) w (rep_str.mpr rfl) h.2⟩) PyProof.Rows.boot_str⟩
end DL
end
section
set_option Elab.async false
set_option linter.all false
set_option maxRecDepth 100000
set_option maxHeartbeats 400000
namespace DL
open PySem PySem.Spec L2

def tyN (μ : Mem) (x : D) : Option String := match look μ x with
  | .non => some "NoneType"
  | .bl _ => some "bool"
  | .int _ => some "int"
  | .str _ => some "str"
  | .tup _ => some "tuple"
  | .lst _ => some "list"
  | .dct _ => some "dict"
  | _ => none
theorem look_non_inv {μ : Mem} {x : D} (h : look μ x = .non) : x = .non := by
  cases x with
  | ref a =>
    rw [look_ref_eq] at h
    cases q : μ a with
    | none => rw [q] at h; cases h
    | some m => rw [q] at h; cases m <;> cases h
  | non => rfl
  | _ => cases h
theorem look_bl_inv {μ : Mem} {x : D} {b : Bool} (h : look μ x = .bl b) : x = .bl b := by
  cases x with
  | ref a =>
    rw [look_ref_eq] at h
    cases q : μ a with
    | none => rw [q] at h; cases h
    | some m => rw [q] at h; cases m <;> cases h
  | bl c => cases h; rfl
  | _ => cases h
theorem tyN_ok {K : KW} {F : Hp} {μ : Mem} {H : Hp} (w : Wd K F μ H) {x : D} {v : V} {t : String} (r : Rep K F x v) (h : tyN μ x = some t) : TyX K H v (.type t) := by
  unfold tyN at h
  split at h
  · rename_i e; cases h; cases look_non_inv e; rw [rep_non] at r; subst r; exact .base .non
  · rename_i e; cases h; cases look_bl_inv e; rw [rep_bl] at r; subst r; exact .base (.bl _)
  · rename_i e; cases h; cases look_int_inv e; rw [rep_int] at r; subst r; exact .base (.int _)
  · rename_i e; cases h; cases look_str_inv e; rw [rep_str] at r; subst r; exact .base (.str _)
  · rename_i e; cases h; cases look_tup_inv e
    obtain ⟨a, vs, rfl, s, _⟩ := rep_tup.mp r
    rcases s with s | ⟨o, its, n, e1, e2, _⟩
    · exact .base (.tup (w.le _ _ s))
    · exact .kTuple e1 e2
  · rename_i e; cases h
    obtain ⟨a, vs, rfl, s, _⟩ := w.lst r e
    exact .base (.lst s)
  · rename_i e; cases h
    obtain ⟨a, vs, rfl, s, _⟩ := w.dct r e
    rcases s with s | ⟨o, s⟩
    · exact .base (.dK s)
    · exact .fDict s
  · cases h
def tyList : D → Option (List String)
  | .ty n => some [n]
  | .tup xs => xs.mapM fun d => match d with
    | .ty n => some n
    | _ => none
  | _ => none
def kitAll (t : String) : List String → Option Bool
  | [] => some false
  | n :: ns => match kitB t n with
    | some true => some true
    | some false => kitAll t ns
    | none => none
def sIsi : S2 := fun x y μ Q => ∃ t ns b, tyN μ x = some t ∧ tyList y = some ns ∧ kitAll t ns = some b ∧ Q (.bl b) μ
def rIsiA (K : PySem.W.Frag) : List V → Hp → VK → Prop := fun xs H Q => rIsi K xs H Q ∨ rIsiT K xs H Q ∨ rIsiK K xs H Q
theorem kitAll_ok {K : PySem.W.Frag} {t : String} : ∀ {ns : List String} {b : Bool}, kitAll t ns = some b → PySem.W.kitAny K (.type t) (ns.map Value.type) = some b
  | [], b, h => by cases h; exact kitAny_nil
  | n :: ns, b, h => by
    unfold kitAll at h
    split at h
    · rename_i e
      cases h
      exact kitAny_cons (kit_ty e) (fun q => nomatch q) fun _ => rfl
    · rename_i e
      exact kitAny_cons (kit_ty e) (fun _ => kitAll_ok h) fun q => nomatch q
    · cases h
theorem mapM_ty : ∀ {xs : List D} {ns : List String}, xs.mapM (fun d => match d with
    | .ty n => some n
    | _ => none) = some ns → xs = ns.map D.ty
  | [], ns, h => by simp at h; subst h; rfl
  | x :: xs, ns, h => by
    simp only [List.mapM_cons] at h
    cases x with
    | ty n =>
      cases q : xs.mapM (fun d => match d with
        | .ty n => some n
        | _ => none) with
      | none => rw [q] at h; simp at h
      | some ms =>
        rw [q] at h
        simp at h
        subst h
        rw [mapM_ty q, List.map_cons]
    | _ => simp at h
theorem RepL.tys {K : PySem.W.Frag} {F : Hp} : ∀ {ns : List String} {vs : List V}, RepL K F (ns.map D.ty) vs → vs = ns.map V.ty
  | [], _, q => by rw [List.map_nil, repL_nil] at q; exact q
  | n :: ns, _, q => by
    rw [List.map_cons] at q
    obtain ⟨v, r, rfl, a, b⟩ := repL_cons.mp q
    rw [rep_ty] at a
    rw [a, RepL.tys b, List.map_cons]
theorem clsV_tys : ∀ ns : List String, Paired ClsV (ns.map V.ty) (ns.map Value.type)
  | [] => .nil
  | n :: ns => .cons (.ty n) (clsV_tys ns)
theorem vals_tys : ∀ {ns : List String} {us : List Value}, Vals (ns.map V.ty) us → us = ns.map Value.type
  | [], _, .nil => rfl
  | n :: ns, _, .cons r t => by
    have r' : _ = Value.type n := r
    rw [r', vals_tys t]; rfl
theorem linkIsi {X : Cx} : LinkL X (l2 sIsi) (rIsiA X.K) := link_l2 fun F μ H x y v u Qd Q w r1 r2 h p => by
  obtain ⟨t, ns, b, h1, h2, h3, h⟩ := h
  have ht := tyN_ok w r1 h1
  have fin : Q (.bl b) H := p F _ H _ μ (Same.refl _) w (rep_bl.mpr rfl) h
  cases y with
  | ty n =>
    rw [rep_ty] at r2; subst r2
    cases h2
    have : PySem.W.kitOne X.K (.type t) (.type n) = some b := by
      unfold kitAll at h3
      split at h3
      · rename_i e; cases h3; exact kit_ty e
      · rename_i e; cases h3; exact kit_ty e
      · cases h3
    exact .inl ⟨v, _, _, _, b, rfl, .ty n, ht, this, fin⟩
  | tup xs =>
    have e : xs = ns.map D.ty := mapM_ty h2
    subst e
    obtain ⟨a, vs, rfl, s, q⟩ := rep_tup.mp r2
    have := q.tys; subst this
    rcases s with s | ⟨o, its, n, e1, e2, e3, e4, e5⟩
    · exact .inr (.inl ⟨v, a, _, _, _, b, rfl, w.le _ _ s, clsV_tys ns, ht, kitAll_ok h3, fin⟩)
    · obtain ⟨oc, od, dt, sl⟩ := o
      have e2' : oc = .type "tuple" := e2
      have e3' : dt = .seq its n := e3
      subst e2'; subst e3'
      have e6 : its = (ns.map Value.type).toArray := by
        have := vals_tys e5
        rw [← this]
      subst e6
      exact .inr (.inr ⟨v, a, od, ns.map Value.type, n, sl, _, b, rfl, e1, ht, kitAll_ok h3, fin⟩)
  | _ => cases h2
def oIsi : Std := ⟨⟨pCall "isinstance", lf (l2 sIsi), fun _ _ => True⟩, fun c => callB_std c (by decide +kernel) (call_isi.or (call_isiT.or call_isiK)) linkIsi PyProof.Rows.boot_isinstance⟩

def notSuper : Expr → Bool
  | .Call (.Name _ _) [] [] _ => false
  | _ => true
theorem base_of {o : Expr} {m : Str} {env : PySem.Env} (h : notSuper o = true) : attributeBase o m env (eval o env) = eval o env := by
  unfold attributeBase
  split
  · cases h
  · rfl
def pMeth (m : Str) : Expr → Option (List Expr)
  | .Call (.Attribute o n ap) es [] cp => if decide (n = m) && (notSuper o && (es.all notStar && (decide (es.length < 29) && ap.endLine == cp.line))) then some (o :: es) else none
  | _ => none
theorem pMeth_inv {m : Str} {e : Expr} {xs : List Expr} (h : pMeth m e = some xs) : ∃ o ap es cp, e = .Call (.Attribute o m ap) es [] cp ∧ xs = o :: es ∧ notSuper o = true ∧ es.all notStar = true ∧ es.length < 29 ∧ (ap.endLine == cp.line) = true := by
  unfold pMeth at h
  split at h
  · rename_i o n ap es cp
    split at h
    · rename_i q
      simp only [Bool.and_eq_true, decide_eq_true_eq] at q
      obtain ⟨q1, q2, q3, q4, q5⟩ := q
      subst q1
      cases h
      exact ⟨o, ap, es, cp, rfl, rfl, q2, q3, q4, q5⟩
    · cases h
  · cases h
def preOne (P : D → Mem → Prop) : List D → Mem → Prop
  | [x], μ => P x μ
  | _, _ => True
theorem preOne_more (P : D → Mem → Prop) (x y : D) (acc : List D) (μ : Mem) : preOne P (x :: acc ++ [y]) μ = True := by
  cases acc <;> rfl
theorem dArgsP_one (P : D → Mem → Prop) : ∀ (ts : List DT) (x : D) (acc : List D), dArgsP (preOne P) (x :: acc) ts = dArgsA (x :: acc) ts
  | [], x, acc => by funext env μ Q Ex; simp [dArgsA]
  | t :: ts, x, acc => by
    funext env μ Q Ex
    simp only [dArgsP_cons, preOne_more, true_and, dArgsA, dArgs_cons]
    congr 1
    funext y μ1
    rw [List.cons_append, dArgsP_one P ts]
    simp [dArgsA]
theorem dApp_one {o : Opn} {P : D → Mem → Prop} (hp : o.pre = preOne P) {t : DT} {ts : List DT} {env : Env} {μ : Mem} {Q : QD} {Ex : QX} (h : dApp o (t :: ts) env μ Q Ex) :
    t env μ (fun x μ1 => P x μ1 ∧ dArgs ts env μ1 (fun xs μ2 => o.sem (x :: xs) μ2 Q Ex) Ex) Ex := by
  unfold dApp at h
  rw [hp] at h
  simp only [dArgsP_cons, List.nil_append, dArgsP_one, dArgsA, List.cons_append] at h
  exact h
def isLM : D → Mem → Prop := fun x μ => match x with
  | .ref a => ∃ xs, μ a = some (.lst xs)
  | _ => False
theorem kwEach_nil (env : PySem.Env) (pos : Pos) : (backToKw pos (keywordEach [] env)).all (fun x => x.1.isSome) = true := rfl
section
variable {X : Cx} {E : XK} {k : Nat}
theorem methL_std {m : Str} {id : String} {s : SL} {r : V → List V → Hp → VK → Prop} (pa : PySem.PlainAttrs "list") (slot : PySem.Slot "list" m id) (hty : typeOf (.builtin id) = pure (.type "method_descriptor")) (hm : MtR X id r)
    (hl : LinkL X s (fun vs H Q => match vs with
      | v :: vs => r v vs H Q
      | [] => False)) : OpnOk X E ⟨fun _ => pMeth m, lf s, preOne isLM⟩ := by
  refine OpnOk.plain (fun e es h => by obtain ⟨o, ap, es, cp, rfl, _⟩ := pMeth_inv h; rfl) fun {e es ts} h l => ?_
  obtain ⟨o, ap, es, cp, rfl, rfl, h1, h2, h3, h4⟩ := pMeth_inv h
  cases l with
  | cons ho hr =>
  rename_i t ts
  have recv : ∀ {F1 : Hp} {μ1 : Mem} {H1 : Hp} {d : D} {v : V}, Wd X.kw F1 μ1 H1 → Rep X.K F1 d v → isLM d μ1 → tyV X.K "list" v H1 := fun {F1 μ1 H1 d v} w1 r1 h5 => by
    cases d <;> try exact h5.elim
    rename_i a
    obtain ⟨xs, h5⟩ := h5
    rw [rep_ref] at r1
    subst r1
    obtain ⟨o', e1, vs, rfl, _⟩ := w1.mem a _ h5
    exact .inl ⟨rfl, vs, SqL.of e1⟩
  cases es with
  | nil =>
    cases hr
    refine PE.imp (pe_bm0 pa slot hty hm ho (base_of h1) h4) fun σ H Q ⟨F, μ, env, Qd, Ex, w, re, x, h, p⟩ => ?_
    refine ⟨F, μ, env, _, Ex, w, re, x, dApp_one rfl h, fun F1 v H1 d μ1 l1 w1 r1 h1 => ?_⟩
    exact ⟨recv w1 r1 h1.1, hl F1 μ1 H1 [d] [v] Qd Q w1 (RepL.one r1) h1.2 (p.le l1)⟩
  | cons a es =>
    have h2' : notStar a = true ∧ es.all notStar = true := by simpa using h2
    have h3' : es.length + 1 < 29 := by simpa using h3
    refine PE.imp (pe_bm pa slot hty hm ho (hr.pa h2) (base_of h1) (by rw [noStar_all h2]; simp [keywordEach, backToKw]; omega) h4 (starEach_cons h2'.1) (noStar_any h2'.2)) fun σ H Q ⟨F, μ, env, Qd, Ex, w, re, x, h, p⟩ => ?_
    refine ⟨F, μ, env, _, Ex, w, re, x, dApp_one rfl h, fun F1 v H1 d μ1 l1 w1 r1 h1 => ?_⟩
    refine ⟨recv w1 r1 h1.1, F1, μ1, env, _, Ex, w1, re.le l1, x.le l1, h1.2, fun F2 us H2 ds μ2 l2 w2 r2 h2 => ?_⟩
    exact hl F2 μ2 H2 (d :: ds) (v :: us) Qd Q w2 (RepL.mk (Rep.le l2 _ _ r1) r2) h2 (p.le (l1.trans l2))
end
def sAppend : SL := fun ds μ Q => match ds with
  | [.ref a, y] => ∃ xs, μ a = some (.lst xs) ∧ xs.length < sizeLine ∧ Q .non (μ.set a (.lst (xs ++ [y])))
  | _ => False
def oAppend : Std := ⟨⟨fun _ => pMeth "append", lf sAppend, preOne isLM⟩, fun c => methL_std PySem.F.plainAttrs_list PySem.F.slot_list_append PySem.F.type_list_append mt_append (fun F μ H xs vs Qd Q w r h p => by
  unfold sAppend at h
  split at h
  · rename_i a y
    obtain ⟨xs, e, hz, h⟩ := h
    obtain ⟨v, u, rfl, r1, r2⟩ := r.two
    rw [rep_ref] at r1; subst r1
    obtain ⟨o', e1, vs, rfl, rl⟩ := w.mem a _ e
    exact ⟨a, vs, u, rfl, rfl, e1, by rw [← rl.length]; exact hz, p F _ _ _ _ (Same.refl _) (w.setM e (.ofL (rl.app (RepL.one r2)))) (rep_non.mpr rfl) h⟩
  · exact h.elim)⟩
def sExtend : SL := fun ds μ Q => match ds with
  | [.ref a, y] => ∃ xs ys, μ a = some (.lst xs) ∧ look μ y = .lst ys ∧ xs.length + ys.length ≤ sizeLine ∧ Q .non (μ.set a (.lst (xs ++ ys)))
  | _ => False
def oExtend : Std := ⟨⟨fun _ => pMeth "extend", lf sExtend, preOne isLM⟩, fun c => methL_std PySem.F.plainAttrs_list PySem.F.slot_list_extend PySem.F.type_list_extend mt_extend (fun F μ H xs vs Qd Q w r h p => by
  unfold sExtend at h
  split at h
  · rename_i a y
    obtain ⟨xs, ys, e, ey, hz, h⟩ := h
    obtain ⟨v, u, rfl, r1, r2⟩ := r.two
    rw [rep_ref] at r1; subst r1
    obtain ⟨o', e1, vs, rfl, rl⟩ := w.mem a _ e
    obtain ⟨b, us, rfl, hb, rb⟩ := w.lst r2 ey
    exact ⟨a, b, vs, us, rfl, rfl, e1, hb, by rw [← rl.length, ← rb.length]; exact hz, p F _ _ _ _ (Same.refl _) (w.setM e (.ofL (rl.app rb))) (rep_non.mpr rfl) h⟩
  · exact h.elim)⟩
def sPop : SL := fun ds μ Q => match ds with
  | [.ref a] => ∃ xs y, μ a = some (.lst xs) ∧ xs[xs.length - 1]? = some y ∧ Q y (μ.set a (.lst xs.dropLast))
  | [.ref a, .int i] => ∃ xs k y, μ a = some (.lst xs) ∧ -(2 ^ 63) ≤ i ∧ i < 2 ^ 63 ∧ seqIndex? i xs.length = some k ∧ xs[k]? = some y ∧ Q y (μ.set a (.lst (xs.eraseIdx k)))
  | _ => False
def oPop : Std := ⟨⟨fun _ => pMeth "pop", lf sPop, preOne isLM⟩, fun c => methL_std PySem.F.plainAttrs_list PySem.F.slot_list_pop PySem.F.type_list_pop (r := fun x vs H Q => rPop x vs H Q ∨ rPopAt x vs H Q) (MtR.or mt_pop mt_popAt) (fun F μ H xs vs Qd Q w r h p => by
  unfold sPop at h
  split at h
  · rename_i a
    obtain ⟨xs, y, e, hy, h⟩ := h
    obtain ⟨v, rfl, r1⟩ := r.single
    rw [rep_ref] at r1; subst r1
    obtain ⟨o', e1, vs, rfl, rl⟩ := w.mem a _ e
    obtain ⟨vy, e2, ry⟩ := rl.get hy
    rw [rl.length] at e2
    exact .inl ⟨a, vs, vy, rfl, rfl, e1, e2, p F _ _ _ _ (Same.refl _) (w.setM e (.ofL rl.dropLast)) ry h⟩
  · rename_i a i
    obtain ⟨xs, k, y, e, b1, b2, hk, hy, h⟩ := h
    obtain ⟨v, u, rfl, r1, r2⟩ := r.two
    rw [rep_ref] at r1; subst r1
    rw [rep_int] at r2; subst r2
    obtain ⟨o', e1, vs, rfl, rl⟩ := w.mem a _ e
    obtain ⟨vy, e2, ry⟩ := rl.get hy
    exact .inr ⟨a, vs, i, k, vy, rfl, rfl, e1, b1, b2, by rw [← rl.length]; exact hk, e2, p F _ _ _ _ (Same.refl _) (w.setM e (.ofL (rl.erase k))) ry h⟩
  · exact h.elim)⟩
def sInsert : SL := fun ds μ Q => match ds with
  | [.ref a, .int i, y] => ∃ xs, μ a = some (.lst xs) ∧ xs.length < sizeLine ∧ 0 ≤ i ∧ i < 2 ^ 63 ∧ Q .non (μ.set a (.lst (xs.take i.toNat ++ [y] ++ xs.drop i.toNat)))
  | _ => False
def oInsert : Std := ⟨⟨fun _ => pMeth "insert", lf sInsert, preOne isLM⟩, fun c => methL_std PySem.F.plainAttrs_list PySem.F.slot_list_insert PySem.F.type_list_insert mt_insert (fun F μ H xs vs Qd Q w r h p => by
  unfold sInsert at h
  split at h
  · rename_i a i y
    obtain ⟨xs, e, hz, b1, b2, h⟩ := h
    obtain ⟨v, q, rfl, r1, r2⟩ := repL_cons.mp r
    obtain ⟨u, t, rfl, r2, r3⟩ := r2.two
    rw [rep_ref] at r1; subst r1
    rw [rep_int] at r2; subst r2
    obtain ⟨o', e1, vs, rfl, rl⟩ := w.mem a _ e
    exact ⟨a, vs, i, t, rfl, rfl, e1, by rw [← rl.length]; exact hz, b1, b2, p F _ _ _ _ (Same.refl _) (w.setM e (.ofL (((rl.take _).app (RepL.one r3)).app (rl.drop _)))) (rep_non.mpr rfl) h⟩
  · exact h.elim)⟩

def sInSign (neg : Bool) : S2 := fun x y μ Q => ∃ c z, x = .str ⟨#[c]⟩ ∧ y = .str z ∧ Q (.bl (neg ^^ decide (c ∈ z.cps.toList))) μ
def oInSign : Std := ⟨⟨fun _ => pCmp .In, bi2 (sInSign false), fun _ _ => True⟩, fun c => cmp_std op_in_sign (fun F μ H x y v u Qd Q w r1 r2 h p => by
  obtain ⟨c, z, rfl, rfl, h⟩ := h
  rw [rep_str] at r1 r2
  exact ⟨c, z, r1, r2, p F _ H _ μ (Same.refl _) w (rep_bl.mpr rfl) (by simpa using h)⟩)⟩
def keyOf : D → Option Key
  | .int i => some (.inl i)
  | .str x => some (.inr x)
  | _ => none
def keyD : Key → D
  | .inl i => .int i
  | .inr x => .str x
def getK (kvs : List (Key × D)) (k : Key) : Option D := (kvs.find? fun kv => decide (kv.1 = k)).map (·.2)
theorem keyOf_rep {K : PySem.W.Frag} {F : Hp} {x : D} {v : V} {k : Key} (h : keyOf x = some k) (r : Rep K F x v) : v = kV k := by
  cases x <;> simp [keyOf] at h
  · subst h; rw [rep_int] at r; exact r
  · subst h; rw [rep_str] at r; exact r
theorem getK_rep {K : PySem.W.Frag} {F : Hp} {k : Key} : ∀ {kvs : List (Key × D)} {ws : List (Key × V)}, RepK K F kvs ws →
    (∀ d, getK kvs k = some d → ∃ v, valV ws k = some v ∧ Rep K F d v) ∧ (getK kvs k = none → valV ws k = none)
  | [], _, q => by rw [repK_nil] at q; subst q; simp [getK, valV]
  | (g, d) :: ds, _, q => by
    obtain ⟨v, r, rfl, a, b⟩ := repK_cons.mp q
    have ih := getK_rep (k := k) b
    by_cases e : g = k
    · subst e
      simp only [getK, valV, List.find?_cons, decide_true, Option.map_some]
      exact ⟨fun d' h => ⟨v, rfl, by cases h; exact a⟩, fun h => nomatch h⟩
    · have e' : decide (g = k) = false := decide_eq_false e
      simp only [getK, valV, List.find?_cons, e'] at ih ⊢
      exact ih
def sInDct (neg : Bool) : S2 := fun x y μ Q => ∃ k kvs, keyOf x = some k ∧ look μ y = .dct kvs ∧ Q (.bl (neg ^^ (getK kvs k).isSome)) μ
theorem isSome_getK {K : PySem.W.Frag} {F : Hp} {k : Key} {kvs : List (Key × D)} {ws : List (Key × V)} (r : RepK K F kvs ws) : (valV ws k).isSome = (getK kvs k).isSome := by
  have h := getK_rep (k := k) r
  cases q : getK kvs k with
  | none => rw [h.2 q]; rfl
  | some d => obtain ⟨v, e, _⟩ := h.1 d q; rw [e]; rfl
section
variable {X : Cx} {E : XK} {k : Nat}
theorem inD_val (c : Ctx X E k) : OpnOk X E ⟨fun _ => pCmp .In, bi2 (sInDct false), fun _ _ => True⟩ := by
  have key : ∀ {a b : Expr} {t u : DT} {pos : Pos}, DEj X E a t → DEj X E b u → behindInMarks .In b = false →
      PC X .In a b (teOf X.kw E (dApp ⟨fun _ => pCmp .In, bi2 (sInDct false), fun _ _ => True⟩ [t, u])) := by
    intro a b t u pos h1 h2 hm
    refine ⟨fun pins s σ H Q I h => (pc_din c.hu h1 h2).run pins s σ H Q I ?_⟩
    obtain ⟨F, μ, env, Qd, Ex, w, re, x, h, p⟩ := h
    refine ⟨F, μ, env, _, Ex, w, re, x, h, fun F1 v H1 d μ1 l1 w1 r1 h1 => ?_⟩
    refine ⟨F1, μ1, env, _, Ex, w1, re.le l1, x.le l1, h1.2, fun F2 v2 H2 d2 μ2 l2 w2 r2 h2 => ?_⟩
    obtain ⟨_, k, kvs, e1, e2, h3⟩ := h2
    obtain ⟨a, ws, rfl, ha, rk⟩ := w2.dct r2 e2
    have := keyOf_rep e1 r1; subst this
    refine ⟨a, _, rfl, (.inl ⟨ws, k, ha, rfl, rfl⟩), ?_⟩
    rw [isSome_getK rk]
    exact p F2 _ H2 _ μ2 (l1.trans l2) w2 (rep_bl.mpr rfl) (by simpa using h3)
  have inv : ∀ {e : Expr} {es : List Expr}, pCmp .In e = some es → ∃ a b pos, e = .Compare a [.In] [b] pos ∧ es = [a, b] ∧ behindInMarks .In b = false := by
    intro e es h
    unfold pCmp at h
    split at h
    · rename_i a o b pos
      split at h
      · rename_i q
        simp only [Bool.and_eq_true, decide_eq_true_eq, Bool.not_eq_true'] at q
        obtain ⟨q1, q2⟩ := q
        subst q1
        cases h
        exact ⟨a, b, pos, rfl, rfl, q2⟩
      · cases h
    · cases h
  refine ⟨fun {e es ts} h l => ?_, fun {e es ts} h l => ?_⟩
  · obtain ⟨a, b, pos, rfl, rfl, hm⟩ := inv h
    obtain ⟨t, u, rfl, h1, h2⟩ := l.two
    exact pe_cmp (key (pos := pos) h1 h2 hm) hm
  · obtain ⟨a, b, pos, rfl, rfl, hm⟩ := inv h
    obtain ⟨t, u, rfl, h1, h2⟩ := l.two
    refine PT.imp (pt_cmp (key (pos := pos) h1 h2 hm) hm) fun σ H Q ⟨F, μ, env, Qd, Ex, w, re, x, h, p⟩ => ?_
    refine ⟨F, μ, env, _, Ex, w, re, x, h, fun F1 v H1 d μ1 l1 w1 r1 ⟨b, e, h1⟩ => ?_⟩
    subst e
    rw [rep_bl] at r1
    exact ⟨b, r1, p F1 H1 b μ1 l1 w1 h1⟩
end
def oInD : Std := ⟨⟨fun _ => pCmp .In, bi2 (sInDct false), fun _ _ => True⟩, fun c => inD_val c⟩
def sGetD : S2 := fun x y μ Q => ∃ k kvs d, keyOf y = some k ∧ look μ x = .dct kvs ∧ getK kvs k = some d ∧ Q d μ
def oGetD : Std := ⟨⟨fun _ => pSub, bi2 sGetD, fun _ _ => True⟩, fun c => by
  refine OpnOk.plain (fun e es h => ?_) fun {e es ts} h l => ?_
  · cases e <;> first | rfl | cases h
  · cases e <;> try (cases h; done)
    rename_i a b pos
    have h2 : (if notSlice b then some [a, b] else none) = some es := h
    clear h
    split at h2
    · rename_i q; cases h2
      obtain ⟨t, u, rfl, h1, h2⟩ := l.two
      refine PE.imp (pe_dget c.hu h1 h2 (plainIx_of q)) fun σ H Q ⟨F, μ, env, Qd, Ex, w, re, x, h, p⟩ => ?_
      refine ⟨F, μ, env, _, Ex, w, re, x, h, fun F1 v H1 d μ1 l1 w1 r1 h1 => ?_⟩
      refine ⟨F1, μ1, env, _, Ex, w1, re.le l1, x.le l1, h1.2, fun F2 v2 H2 d2 μ2 l2 w2 r2 h2 => ?_⟩
      obtain ⟨_, k, kvs, d3, e1, e2, e3, h3⟩ := h2
      obtain ⟨a, ws, rfl, ha, rk⟩ := w2.dct (Rep.le l2 _ _ r1) e2
      have := keyOf_rep e1 r2; subst this
      obtain ⟨v3, e4, r4⟩ := (getK_rep (k := k) rk).1 _ e3
      refine ⟨a, v3, rfl, ?_, p F2 _ H2 _ μ2 (l1.trans l2) w2 r4 h3⟩
      rw [← e4]
      exact (.inl ⟨ws, k, ha, rfl, rfl⟩)
    · cases h2⟩
end DL
end
section
set_option Elab.async false
set_option linter.all false
set_option maxRecDepth 100000
set_option maxHeartbeats 400000
namespace DL
open PySem PySem.Spec L2

structure WalkD (K : KW) (F : Hp) (J : It) (items : List D) (keep : Mem → Prop) : Prop where
  go : ∀ i F2 μ2 H2, Le F F2 → Wd K F2 μ2 H2 → keep μ2 → i < items.length → J.go i H2
  stop : ∀ F2 μ2 H2, Le F F2 → Wd K F2 μ2 H2 → keep μ2 → J.stop items.length H2
  yld : ∀ i F2 μ2 H2 x H3, Le F F2 → Wd K F2 μ2 H2 → keep μ2 → i < items.length → J.yld i H2 x H3 →
    ∃ F3 d, Le F2 F3 ∧ Wd K F3 μ2 H3 ∧ items[i]? = some d ∧ Rep K F3 d x
abbrev QI := List D → (Mem → Prop) → Mem → Prop
abbrev DTI := Env → Mem → QI → QX → Prop
def tiOf (K : KW) (E : XK) (t : DTI) : TI := fun σ H R => ∃ F μ env Qi Ex, Wd K F μ H ∧ RepE K F env σ ∧ XOk K F Ex E ∧ t env μ Qi Ex ∧
  ∀ F' H' items keep μ' J, Le F F' → Wd K F' μ' H' → WalkD K F' J items keep → Qi items keep μ' → R J H'
abbrev DIj (X : Cx) (E : XK) (tg iter : Expr) (t : DTI) : Prop := PI X tg iter (tiOf X.kw E t)
structure Itn where
  parts : Scope → Expr → Expr → Option (List Expr)
  sem : List D → Mem → QI → Prop
def dItr (o : Itn) (ts : List DT) : DTI := fun env μ Qi Ex => dArgs ts env μ (fun xs μ1 => o.sem xs μ1 Qi) Ex
def ItnOk (X : Cx) (E : XK) (o : Itn) : Prop := ∀ {tg it : Expr} {es : List Expr} {ts : List DT}, o.parts X.env.scope tg it = some es → DLj X E es ts → DIj X E tg it (dItr o ts)
structure StdI where
  o : Itn
  ok : ∀ {X : Cx} {E : XK} {k : Nat}, Ctx X E k → ItnOk X E o
  nset : ∀ sc tg it es, o.parts sc tg it = some es → ∀ (env : PySem.Env) (x : Value), foldedSetIterable it env x = pure x

def keepOf (x : D) (xs : List D) : Mem → Prop := match x with
  | .ref a => fun μ => μ a = some (.lst xs)
  | _ => fun _ => True
def sSeqI : List D → Mem → QI → Prop := fun ds μ Qi => match ds with
  | [x] => ∃ xs, seqOf μ x = some xs ∧ Qi xs (keepOf x xs) μ
  | _ => False
def notSet : Expr → Bool
  | .Set .. => false
  | _ => true
theorem folded_of {e : Expr} (h : notSet e = true) (env : PySem.Env) (x : Value) : foldedSetIterable e env x = pure x := by
  cases e <;> first | rfl | cases h
theorem walk_l {K : KW} {F : Hp} {a : Addr} {vs : List V} {xs : List D} {keep : Mem → Prop} (hl : ∀ F2 μ2 H2, Le F F2 → Wd K F2 μ2 H2 → keep μ2 → ∃ vs', SqL K H2 a vs' ∧ RepL K F2 xs vs') : WalkD K F (Itl K a) xs keep := by
  refine ⟨fun i F2 μ2 H2 l w k hi => ?_, fun F2 μ2 H2 l w k => ?_, fun i F2 μ2 H2 x H3 l w k hi y => ?_⟩
  · obtain ⟨vs', s, r⟩ := hl F2 μ2 H2 l w k
    have := r.length
    exact (walk_list (K := K) (a := a) (xs := vs')).goes i H2 (by omega) s
  · obtain ⟨vs', s, r⟩ := hl F2 μ2 H2 l w k
    rw [r.length]
    exact (walk_list (K := K) (a := a) (xs := vs')).stops H2 s
  · obtain ⟨vs', s, r⟩ := hl F2 μ2 H2 l w k
    have := r.length
    obtain ⟨e1, e2⟩ := (walk_list (K := K) (a := a) (xs := vs')).yields i H2 x H3 (by omega) s y
    subst e1
    obtain ⟨d, e3, e4⟩ := r.getV e2
    exact ⟨F2, d, Same.refl _, w, e3, e4⟩
theorem walk_t {K : KW} {F : Hp} {a : Addr} {vs : List V} {xs : List D} {keep : Mem → Prop} (hl : ∀ F2 μ2 H2, Le F F2 → Wd K F2 μ2 H2 → keep μ2 → ∃ vs', SqT K H2 a vs' ∧ RepL K F2 xs vs') : WalkD K F (Itt K a) xs keep := by
  refine ⟨fun i F2 μ2 H2 l w k hi => ?_, fun F2 μ2 H2 l w k => ?_, fun i F2 μ2 H2 x H3 l w k hi y => ?_⟩
  · obtain ⟨vs', s, r⟩ := hl F2 μ2 H2 l w k
    have := r.length
    exact (walk_tup (K := K) (a := a) (xs := vs')).goes i H2 (by omega) s
  · obtain ⟨vs', s, r⟩ := hl F2 μ2 H2 l w k
    rw [r.length]
    exact (walk_tup (K := K) (a := a) (xs := vs')).stops H2 s
  · obtain ⟨vs', s, r⟩ := hl F2 μ2 H2 l w k
    have := r.length
    obtain ⟨e1, e2⟩ := (walk_tup (K := K) (a := a) (xs := vs')).yields i H2 x H3 (by omega) s y
    subst e1
    obtain ⟨d, e3, e4⟩ := r.getV e2
    exact ⟨F2, d, Same.refl _, w, e3, e4⟩
theorem seq_keeps {K : KW} {F : Hp} {μ : Mem} {H : Hp} (w : Wd K F μ H) {x : D} {v : V} {xs : List D} (r : Rep K F x v) (h : seqOf μ x = some xs) :
    ∃ a, v = .ref a ∧ ((∀ F2 μ2 H2, Le F F2 → Wd K F2 μ2 H2 → keepOf x xs μ2 → ∃ vs', SqL K H2 a vs' ∧ RepL K F2 xs vs') ∨ (∀ F2 μ2 H2, Le F F2 → Wd K F2 μ2 H2 → keepOf x xs μ2 → ∃ vs', SqT K H2 a vs' ∧ RepL K F2 xs vs')) := by
  unfold seqOf at h
  split at h
  · rename_i ys e
    cases h
    rcases look_lst_inv e with rfl | ⟨a, rfl, q⟩
    · obtain ⟨a, vs, rfl, ha, ra⟩ := rep_lst.mp r
      exact ⟨a, rfl, .inl fun F2 μ2 H2 l w2 k => ⟨vs, SqL.of (w2.le _ _ (l _ _ ha)), RepL.le l _ _ ra⟩⟩
    · rw [rep_ref] at r
      refine ⟨a, r, .inl fun F2 μ2 H2 l w2 k => ?_⟩
      obtain ⟨o, e1, vs, rfl, r'⟩ := w2.mem a _ k
      exact ⟨vs, SqL.of e1, r'⟩
  · rename_i ys e
    cases h
    cases look_rol_inv e
    obtain ⟨a, vs, rfl, ha, ra⟩ := rep_rol.mp r
    exact ⟨a, rfl, .inl fun F2 μ2 H2 l w2 k => ⟨vs, SqL.le w2.le (SqL.le l ha), RepL.le l _ _ ra⟩⟩
  · rename_i ys e
    cases h
    cases look_tup_inv e
    obtain ⟨a, vs, rfl, ha, ra⟩ := rep_tup.mp r
    exact ⟨a, rfl, .inr fun F2 μ2 H2 l w2 k => ⟨vs, SqT.le w2.le (SqT.le l ha.sq), RepL.le l _ _ ra⟩⟩
  · cases h
theorem Wd.keep {K : KW} {F : Hp} {μ : Mem} {H : Hp} (w : Wd K F μ H) {x : D} {v : V} {xs : List D} (r : Rep K F x v) (h : seqOf μ x = some xs) : keepOf x xs μ := by
  unfold seqOf at h
  split at h
  · rename_i ys e
    cases h
    rcases look_lst_inv e with rfl | ⟨a, rfl, q⟩
    · trivial
    · exact q
  · rename_i ys e
    cases look_rol_inv e; trivial
  · rename_i ys e
    cases look_tup_inv e; trivial
  · cases h
section
variable {X : Cx} {E : XK} {k : Nat}
theorem itl_start {pins : List (Addr × Obj)} {σ : L2.St} {H : Hp} {s : Shared} {tg : Expr} {a : Addr} {xs : List V} {R : It → Hp → Prop} (I : Inv X pins σ H s) (hq : SqL X.K H a xs) (q : R (Itl X.K a) H) :
    wpAny (model X.prog X.w) X.A (pyIter (.ref a)) (PIE X pins σ tg R) X.xe s := by
  obtain ⟨its, rv, p, hz⟩ := I.list hq
  refine wpAny_pyIter_list p.isList ?_
  refine ⟨s.heap.objs.size, [s.heap.objs.size], _, _, H, rfl, I.kept (t' := s.toks) fun b o e => Heap.get?_push_of_some _ e, turn_list a _, ⟨_, Heap.get?_push_size _ rfl, rfl, rfl⟩, fun b hb => ?_, q⟩
  have e : b = s.heap.objs.size := by simpa using hb
  subst e
  exact I.fpOk (Nat.le_refl _) (I.hok.fresh (Nat.le_refl _))
theorem itt_start {pins : List (Addr × Obj)} {σ : L2.St} {H : Hp} {s : Shared} {tg : Expr} {a : Addr} {xs : List V} {R : It → Hp → Prop} (I : Inv X pins σ H s) (hq : SqT X.K H a xs) (q : R (Itt X.K a) H) :
    wpAny (model X.prog X.w) X.A (pyIter (.ref a)) (PIE X pins σ tg R) X.xe s := by
  obtain ⟨its, rv, p, hz⟩ := I.tuple hq
  refine wpAny_pyIter_tuple (show s.heap.IsTuple a its.toArray from p) ?_
  refine ⟨s.heap.objs.size, [s.heap.objs.size], _, _, H, rfl, I.kept (t' := s.toks) fun b o e => Heap.get?_push_of_some _ e, turn_tuple a _, ⟨_, Heap.get?_push_size _ rfl, rfl, rfl⟩, fun b hb => ?_, q⟩
  have e : b = s.heap.objs.size := by simpa using hb
  subst e
  exact I.fpOk (Nat.le_refl _) (I.hok.fresh (Nat.le_refl _))
theorem seqI_ok : ItnOk X E ⟨fun _ _ e => if notSet e then some [e] else none, sSeqI⟩ := by
  intro tg it es ts h l
  have h2 : (if notSet it then some [it] else none) = some es := h
  split at h2
  · cases h2
    obtain ⟨t, rfl, he⟩ := l.one
    refine ⟨fun pins s σ H R I hw => ?_⟩
    obtain ⟨F, μ, env, Qi, Ex, w, re, x, h, p⟩ := hw
    refine thn (he.run pins s σ H (fun v H1 => ∃ F1 μ1 d xs, Le F F1 ∧ Wd X.kw F1 μ1 H1 ∧ Rep X.K F1 d v ∧ seqOf μ1 d = some xs ∧ Qi xs (keepOf d xs) μ1) I ⟨F, μ, env, _, Ex, w, re, x, h, fun F1 v H1 d μ1 l1 w1 r1 h1 => ?_⟩) fun v s1 ⟨x, H1, I1, rv, F1, μ1, d, xs, l1, w1, r1, e1, h1⟩ => ?_
    · obtain ⟨xs, e, h1⟩ := h1
      exact ⟨F1, μ1, d, xs, l1, w1, r1, e, h1⟩
    · obtain ⟨a, rfl, hk⟩ := seq_keeps w1 r1 e1
      obtain rfl : v = Value.ref a := rv
      have k1 := w1.keep r1 e1
      rcases hk with hk | hk
      · obtain ⟨vs, s, _⟩ := hk F1 μ1 H1 (Same.refl _) w1 k1
        exact itl_start I1 s (p F1 H1 xs _ μ1 _ l1 w1 (walk_l (vs := vs) hk) h1)
      · obtain ⟨vs, s, _⟩ := hk F1 μ1 H1 (Same.refl _) w1 k1
        exact itt_start I1 s (p F1 H1 xs _ μ1 _ l1 w1 (walk_t (vs := vs) hk) h1)
  · cases h2
end
def iSeq : StdI := ⟨⟨fun _ _ e => if notSet e then some [e] else none, sSeqI⟩, fun _ => seqI_ok, fun sc tg it es h env x => by
  have h2 : (if notSet it then some [it] else none) = some es := h
  split at h2
  · rename_i q; exact folded_of q env x
  · cases h2⟩
def rngD (lo : Int) (n : Nat) : List D := (List.range n).map fun i => .int (lo + (i : Nat))
theorem rngD_length (lo : Int) (n : Nat) : (rngD lo n).length = n := by simp [rngD]
theorem walk_r {K : KW} {F : Hp} {lo : Int} {n : Nat} : WalkD K F (Itr lo n) (rngD lo n) (fun _ => True) := by
  refine ⟨fun i F2 μ2 H2 l w k hi => ?_, fun F2 μ2 H2 l w k => ?_, fun i F2 μ2 H2 x H3 l w k hi y => ?_⟩
  · rw [rngD_length] at hi; exact hi
  · rw [rngD_length]; exact Nat.le_refl _
  · rw [rngD_length] at hi
    obtain ⟨e1, e2⟩ := y
    subst e1
    exact ⟨F2, .int (lo + (i : Nat)), Same.refl _, w, by simp [rngD, hi], rep_int.mpr e2⟩
def sRng1 : List D → Mem → QI → Prop := fun ds μ Qi => match ds with
  | [.int n] => -(2 ^ 62) ≤ n ∧ n < 2 ^ 62 ∧ Qi (rngD 0 n.toNat) (fun _ => True) μ
  | _ => False
def sRng2 : List D → Mem → QI → Prop := fun ds μ Qi => match ds with
  | [.int i, .int j] => (-(2 ^ 62) ≤ i ∧ i < 2 ^ 62 ∧ -(2 ^ 62) ≤ j ∧ j < 2 ^ 62) ∧ Qi (rngD i (j - i).toNat) (fun _ => True) μ
  | _ => False
def pRng (n : Nat) (sc : Scope) : Expr → Expr → Option (List Expr) := fun _ e => match pCall "range" sc e with
  | some es => if es.length = n then some es else none
  | none => none
theorem pRng_inv {n : Nat} {sc : Scope} {tg e : Expr} {es : List Expr} (h : pRng n sc tg e = some es) : pCall "range" sc e = some es ∧ es.length = n := by
  unfold pRng at h
  split at h
  · split at h
    · rename_i q1 q2; cases h; exact ⟨q1, q2⟩
    · cases h
  · cases h
section
variable {X : Cx} {E : XK} {k : Nat}
theorem rng1_ok (c : Ctx X E k) : ItnOk X E ⟨pRng 1, sRng1⟩ := by
  intro tg it es ts h l
  obtain ⟨q, hn⟩ := pRng_inv (tg := tg) h
  obtain ⟨p, a, r, pos, rfl, rfl, hg, hs⟩ := pCall_inv q
  have : r = [] := by simpa using hn
  subst this
  have hs' : notStar a = true := by simpa using hs
  refine ⟨fun pins s σ H R I hw => (pi_range1 hg (c.free _ (by decide +kernel)) (l.pa hs) (by rw [starEach_cons hs']; rfl)).run pins s σ H R I ?_⟩
  obtain ⟨F, μ, env, Qi, Ex, w, re, x, h, p⟩ := hw
  refine ⟨F, μ, env, _, Ex, w, re, x, h, fun F1 vs H1 ds μ1 l1 w1 r1 h1 => ?_⟩
  have h1 : sRng1 ds μ1 Qi := h1
  unfold sRng1 at h1
  split at h1
  · obtain ⟨v, rfl, r2⟩ := r1.single
    rw [rep_int] at r2; subst r2
    exact ⟨_, rfl, h1.1, h1.2.1, p F1 H1 _ _ μ1 _ l1 w1 walk_r h1.2.2⟩
  · exact h1.elim
theorem rng2_ok (c : Ctx X E k) : ItnOk X E ⟨pRng 2, sRng2⟩ := by
  intro tg it es ts h l
  obtain ⟨q, hn⟩ := pRng_inv (tg := tg) h
  obtain ⟨p, a, r, pos, rfl, rfl, hg, hs⟩ := pCall_inv q
  obtain ⟨b, rfl⟩ : ∃ b, r = [b] := by
    cases r with
    | nil => simp at hn
    | cons b r => cases r with
      | nil => exact ⟨b, rfl⟩
      | cons => simp at hn
  have hs' : notStar a = true ∧ notStar b = true := by simpa using hs
  refine ⟨fun pins s σ H R I hw => (pi_range2 hg (c.free _ (by decide +kernel)) (l.pa hs) (by rw [starEach_cons hs'.1, starEach_cons hs'.2]; rfl) (by rw [starEach_cons hs'.2]; rfl)).run pins s σ H R I ?_⟩
  obtain ⟨F, μ, env, Qi, Ex, w, re, x, h, p⟩ := hw
  refine ⟨F, μ, env, _, Ex, w, re, x, h, fun F1 vs H1 ds μ1 l1 w1 r1 h1 => ?_⟩
  have h1 : sRng2 ds μ1 Qi := h1
  unfold sRng2 at h1
  split at h1
  · obtain ⟨v, u, rfl, r2, r3⟩ := r1.two
    rw [rep_int] at r2 r3; subst r2; subst r3
    exact ⟨_, _, rfl, h1.1, p F1 H1 _ _ μ1 _ l1 w1 walk_r h1.2⟩
  · exact h1.elim
end
theorem pCall_nset {x : Str} {sc : Scope} {e : Expr} {es : List Expr} (h : pCall x sc e = some es) (env : PySem.Env) (v : Value) : foldedSetIterable e env v = pure v := by
  obtain ⟨p, a, r, pos, rfl, _⟩ := pCall_inv h
  rfl
def iRng1 : StdI := ⟨⟨pRng 1, sRng1⟩, rng1_ok, fun sc tg it es h => pCall_nset (pRng_inv (tg := tg) h).1⟩
def iRng2 : StdI := ⟨⟨pRng 2, sRng2⟩, rng2_ok, fun sc tg it es h => pCall_nset (pRng_inv (tg := tg) h).1⟩
end DL
end
section
set_option Elab.async false
set_option linter.all false
set_option maxRecDepth 100000
set_option maxHeartbeats 400000
namespace DL
open PySem PySem.Spec L2

/- targets -/
mutual
inductive DG where
  | name (i : Nat) | tup (gs : DGs)
inductive DGs where
  | nil | cons (g : DG) (gs : DGs)
end
mutual
inductive DE where
  | var (i : Nat) | con (d : D) | bty (n : String)
  | std (s : Std) (es : DEs) | app (o : Opn) (es : DEs)
  | bop (all : Bool) (es : DEs) | not (e : DE) | ife (t a b : DE)
  | chain (f g : Bool) (a b c : DE)
  | lc (m : Bool) (it : StdI) (src : DEs) (g : DG) (ifs : DEs) (elt : DE) (own : List (Str × Nat))
  | frz (e : DE)
inductive DEs where
  | nil | cons (e : DE) (es : DEs)
end
def DEs.len : DEs → Nat
  | .nil => 0
  | .cons _ es => es.len + 1

mutual
def dG : DG → D → Env → (Env → Prop) → Prop
  | .name i, x, env, Q => Q (env.set i (some x))
  | .tup gs, x, env, Q => ∃ xs, x = .tup xs ∧ dGs gs xs env Q
def dGs : DGs → List D → Env → (Env → Prop) → Prop
  | .nil, xs, env, Q => xs = [] ∧ Q env
  | .cons g gs, xs, env, Q => ∃ x r, xs = x :: r ∧ dG g x env fun env' => dGs gs r env' Q
end
def dBop (all : Bool) : List DT → DT
  | [] => fun _ _ _ _ => False
  | [t] => t
  | t :: ts => fun env μ Q Ex => t env μ (fun x μ1 => ∃ c, x = .bl c ∧ if c = all then dBop all ts env μ1 Q Ex else Q (.bl c) μ1) Ex
def dNot (t : DT) : DT := fun env μ Q Ex => t env μ (fun x μ1 => ∃ c, x = .bl c ∧ Q (.bl (!c)) μ1) Ex
def dIfe (t a b : DT) : DT := fun env μ Q Ex => t env μ (fun x μ1 => ∃ c, x = .bl c ∧ if c = true then a env μ1 Q Ex else b env μ1 Q Ex) Ex
def cmpOf (f : Bool) (i j : Int) : Bool := if f then decide (i ≤ j) else decide (i < j)
def dChain (f g : Bool) (a b c : DT) : DT := fun env μ Q Ex => a env μ (fun x μ1 => b env μ1 (fun y μ2 => ∃ i j, x = .int i ∧ y = .int j ∧
  if cmpOf f i j = true then c env μ2 (fun z μ3 => ∃ l, z = .int l ∧ Q (.bl (cmpOf g j l)) μ3) Ex else Q (.bl false) μ2) Ex) Ex
def lcGo (a : Addr) (m : Bool) (keep : Mem → Prop) (g : DG) (tt : DTT) (te : DT) (env : Env) (Q : QD) : List D → List D → Mem → Prop
  | [], acc, μ => keep μ ∧ μ a = some (.lst acc) ∧ if m then Q (.ref a) μ else ∃ μ', Mem.Sub μ' μ ∧ μ' a = none ∧ Q (.lst acc) μ'
  | x :: xs, acc, μ => keep μ ∧ dG g x env fun env' => tt env' μ (fun b μ1 => if b = true then
      te env' μ1 (fun y μ2 => μ2 a = some (.lst acc) ∧ acc.length < sizeLine ∧ lcGo a m keep g tt te env Q xs (acc ++ [y]) (μ2.set a (.lst (acc ++ [y])))) (fun _ _ => False)
      else lcGo a m keep g tt te env Q xs acc μ1) (fun _ _ => False)
def dLc (m : Bool) (it : DTI) (g : DG) (tt : DTT) (te : DT) (vs : List Nat) : DT := fun env μ Q Ex =>
  it env μ (fun items keep μ1 => ∀ a, μ1 a = none → lcGo a m keep g tt te (wipeD env vs) Q items [] (μ1.set a (.lst []))) Ex
def dYes : DTT := fun _ μ Q _ => Q true μ
def dTests : List DT → DTT
  | [] => dYes
  | t :: _ => dTst t
mutual
def den : DE → DT
  | .var i => dVar i
  | .con d => dCon d
  | .bty n => dCon (.ty n)
  | .std s es => dApp s.o (dens es)
  | .app o es => dApp o (dens es)
  | .bop all es => dBop all (dens es)
  | .not e => dNot (den e)
  | .ife t a b => dIfe (den t) (den a) (den b)
  | .chain f g a b c => dChain f g (den a) (den b) (den c)
  | .lc m it src g ifs elt own => dLc m (dItr it.o (dens src)) g (dTests (dens ifs)) (den elt) (own.map (·.2))
  | .frz e => fun env μ Q Ex => den e env μ (fun x μ1 => ∃ a xs μ', x = .ref a ∧ μ1 a = some (.lst xs) ∧ Mem.Sub μ' μ1 ∧ μ' a = none ∧ Q (.lst xs) μ') Ex
def dens : DEs → List DT
  | .nil => []
  | .cons e es => den e :: dens es
end

def visB (sc : Scope) (x : Str) : Bool := match sc.names.lookup x with
  | some .local => true
  | some .cell => true
  | some .free => true
  | _ => false
theorem vis_of {sc : Scope} {x : Str} (h : visB sc x = true) : Vis sc x := by
  unfold visB at h
  split at h
  · rename_i e; exact .inl e
  · rename_i e; exact .inr (.inl e)
  · rename_i e; exact .inr (.inr e)
  · cases h
def locB (sc : Scope) (fb : Str → Bool) (x : Str) : Bool := match sc.names.lookup x with
  | some .local => true
  | some .cell => fb x
  | _ => false
def plainName (x : Str) : Bool := (x != ("__debug__" : Str)) && x != ("__classdict__" : Str)
def conOk : D → Const → Bool
  | .non, .none => true
  | .bl b, .bool c => b == c
  | .int i, .int j => decide (i = j)
  | .str x, .str y => decide (x = y)
  | _, _ => false
def btyNames : List (Str × String) := [("int", "int"), ("bool", "bool"), ("str", "str"), ("tuple", "tuple"), ("list", "list"), ("dict", "dict")]
mutual
def chkG (N : List Str) (sc : Scope) (fb : Str → Bool) (vs : Option (List Nat)) : DG → Expr → Bool
  | .name i, .Name x _ => decide (N[i]? = some x) && (locB sc fb x && (match vs with
    | none => true
    | some vs => decide (i ∈ vs)))
  | .tup gs, .Tuple es _ _ => chkGs N sc fb vs gs es
  | _, _ => false
def chkGs (N : List Str) (sc : Scope) (fb : Str → Bool) (vs : Option (List Nat)) : DGs → List Expr → Bool
  | .nil, [] => true
  | .cons g gs, e :: es => chkG N sc fb vs g e && chkGs N sc fb vs gs es
  | _, _ => false
end
def vis2 : Expr → Bool
  | .Compare _ [.LtE] _ _ => true
  | _ => false
def opB (f : Bool) : CmpOp := if f then .LtE else .Lt
mutual
def chk (N : List Str) (sc : Scope) : DE → Expr → Bool
  | .var i, .Name x _ => decide (N[i]? = some x) && (visB sc x && plainName x)
  | .con d, .Constant c _ _ => conOk d c
  | .bty n, .Name x _ => decide ((x, n) ∈ btyNames) && decide (sc.names.lookup x = some .globalImplicit)
  | .std s es, e => match s.o.parts sc e with
    | some xs => chks N sc es xs
    | none => false
  | .app o es, e => match o.parts sc e with
    | some xs => chks N sc es xs
    | none => false
  | .bop all es, .BoolOp op xs _ => decide (op = if all then .And else .Or) && (decide (xs ≠ []) && chks N sc es xs)
  | .not d, .UnaryOp .Not x _ => chk N sc d x
  | .ife t a b, .IfExp x y z _ => chk N sc t x && (chk N sc a y && chk N sc b z)
  | .chain f g a b c, .Compare x [o1, o2] [y, z] _ => decide (o1 = opB f) && (decide (o2 = opB g) && (chk N sc a x && (chk N sc b y && chk N sc c z)))
  | .lc _ it src g ifs elt own, .ListComp x [⟨tg, iter, cs, as⟩] scope _ => decide (as = 0) && (blkC N sc scope own && ((match it.o.parts sc tg iter with
      | some xs => chks N sc src xs
      | none => false) && (chkG N (relS scope sc) (fun x => scope.names.lookup x == some .cell) (some (own.map (·.2))) g tg && ((decide (cs.length ≤ 1) && chks N (relS scope sc) ifs cs) && chk N (relS scope sc) elt x))))
  | .frz d, e => chk N sc d e
  | _, _ => false
def chks (N : List Str) (sc : Scope) : DEs → List Expr → Bool
  | .nil, [] => true
  | .cons d ds, e :: es => chk N sc d e && chks N sc ds es
  | _, _ => false
end
/- what the program's own operations must be -/
mutual
def usesE (U : Opn → Prop) : DE → Prop
  | .var _ => True
  | .con _ => True
  | .bty _ => True
  | .std _ es => usesEs U es
  | .app o es => U o ∧ usesEs U es
  | .bop _ es => usesEs U es
  | .not e => usesE U e
  | .ife t a b => usesE U t ∧ usesE U a ∧ usesE U b
  | .chain _ _ a b c => usesE U a ∧ usesE U b ∧ usesE U c
  | .lc _ _ src _ ifs elt _ => usesEs U src ∧ usesEs U ifs ∧ usesE U elt
  | .frz e => usesE U e
def usesEs (U : Opn → Prop) : DEs → Prop
  | .nil => True
  | .cons e es => usesE U e ∧ usesEs U es
end
structure Pl where
  P : Program
  w : World
  K : PySem.W.Frag
  mg : Str → Option Value
  base : Heap
  k : Nat
abbrev Pl.kw (p : Pl) : KW := ⟨p.K, p.P, p.w⟩
structure At (p : Pl) (X : Cx) : Prop where
  P : X.prog = p.P
  w : X.w = p.w
  K : X.K = p.K
  mg : X.mg = p.mg
  base : X.base = p.base
theorem At.kw {p : Pl} {X : Cx} (a : At p X) : X.kw = p.kw := by unfold L2.Cx.kw Pl.kw; rw [a.K, a.P, a.w]
def Good (p : Pl) (o : Opn) : Prop := ∀ {X : Cx} {E : XK}, At p X → Ctx X E p.k → OpnOk X E o

section
variable {X : Cx} {E : XK} {k : Nat}
mutual
def DG.slots : DG → List Nat
  | .name i => [i]
  | .tup gs => gs.slots
def DGs.slots : DGs → List Nat
  | .nil => []
  | .cons g gs => g.slots ++ gs.slots
end
def tgOf (K : KW) (g : DG) (vo : Option (List Nat)) : TG := fun v σ H Q => ∃ F μ env d Qe, Wd K F μ H ∧ RepE K F env σ ∧ Rep K F d v ∧ dG g d env Qe ∧
  ∀ env' σ', RepE K F env' σ' → Qe env' → (∀ vs, vo = some vs → wipe σ' vs = wipe σ vs) → Q σ' H
def tgsOf (K : KW) (g : DGs) (vo : Option (List Nat)) : TGs := fun ws σ H Q => ∃ F μ env ds Qe, Wd K F μ H ∧ RepE K F env σ ∧ RepL K F ds ws ∧ dGs g ds env Qe ∧
  ∀ env' σ', RepE K F env' σ' → Qe env' → (∀ vs, vo = some vs → wipe σ' vs = wipe σ vs) → Q σ' H
theorem wipe_set {σ : L2.St} {i : Nat} {x : Option V} : ∀ {vs : List Nat}, i ∈ vs → wipe (σ.set i x) vs = wipe σ vs
  | j :: vs, h => by
    unfold wipe
    by_cases e : i ∈ vs
    · rw [wipe_set e]
    · have hj : i = j := by
        rcases List.mem_cons.mp h with z | z
        · exact z
        · exact absurd z e
      subst hj
      have comm : ∀ (ws : List Nat), i ∉ ws → wipe (σ.set i x) ws = (wipe σ ws).set i x := by
        intro ws
        induction ws with
        | nil => intro _; rfl
        | cons l ws ih =>
          intro hn
          have h1 : i ≠ l := fun z => hn (by simp [z])
          have h2 : i ∉ ws := fun z => hn (by simp [z])
          unfold wipe
          rw [ih h2, List.set_comm _ _ h1]
      rw [comm vs e, List.set_set]
theorem PG.imp {tg : Expr} {t t' : TG} (h : PG X tg t) (i : ∀ v σ H Q, t' v σ H Q → t v σ H Q) : PG X tg t' := ⟨fun pins s σ H v u Q I r hw => h.run pins s σ H v u Q I r (i _ _ _ _ hw)⟩
theorem PGs.imp {tg : List Expr} {t t' : TGs} (h : PGs X tg t) (i : ∀ v σ H Q, t' v σ H Q → t v σ H Q) : PGs X tg t' := ⟨fun pins s σ H v u Q I r hw => h.run pins s σ H v u Q I r (i _ _ _ _ hw)⟩
theorem loc_of {sc : Scope} {fb : Str → Bool} {x : Str} (h : locB sc fb x = true) : Loc sc x ∧ (fb x = true ∨ sc.names.lookup x = some .local) := by
  unfold locB at h
  split at h
  · rename_i e; exact ⟨.inl e, .inr e⟩
  · rename_i e; exact ⟨.inr e, .inl h⟩
  · cases h
theorem assignEach_cons {e : Expr} {es : List Expr} {env : PySem.Env} (h : notStar e = true) : assignEach (e :: es) env = (false, assign e env) :: assignEach es env := by
  cases e <;> first | rfl | cases h
theorem each_len : ∀ {es : List Expr} {env : PySem.Env}, (assignEach es env).length = es.length
  | [], _ => rfl
  | e :: es, env => by
    cases e <;> (show (_ :: assignEach es env).length = _; rw [List.length_cons, each_len]; rfl)
theorem each_star : ∀ {es : List Expr} {env : PySem.Env}, es.all notStar = true → (assignEach es env).findIdx? (fun x => x.fst) = none
  | [], _, _ => rfl
  | e :: es, env, h => by
    have h' : notStar e = true ∧ es.all notStar = true := by simpa using h
    rw [assignEach_cons h'.1, List.findIdx?_cons, each_star h'.2]; rfl
theorem dGs_len : ∀ (gs : DGs) (es : List Expr) (N : List Str) (sc : Scope) (fb : Str → Bool) (vo : Option (List Nat)) (xs : List D) (env : Env) (Q : Env → Prop), chkGs N sc fb vo gs es = true → dGs gs xs env Q → xs.length = es.length
  | .nil, es, N, sc, fb, vo, xs, env, Q, h, d => by
    cases es <;> try (simp [chkGs] at h; done)
    rw [d.1]; rfl
  | .cons g gs, es, N, sc, fb, vo, xs, env, Q, h, d => by
    cases es <;> try (simp [chkGs] at h; done)
    rename_i e es
    simp only [chkGs, Bool.and_eq_true] at h
    obtain ⟨x, r, rfl, d⟩ := d
    have key : ∀ (g : DG) (x : D) (env : Env) (P : Env → Prop), dG g x env P → ∃ env', P env' := dG_some
    obtain ⟨env', d'⟩ := key g x env _ d
    simp [dGs_len gs es N sc fb vo r env' Q h.2 d']
where
  dG_some : ∀ (g : DG) (x : D) (env : Env) (P : Env → Prop), dG g x env P → ∃ env', P env'
    | .name i, x, env, P, h => ⟨_, h⟩
    | .tup gs, x, env, P, h => by
      obtain ⟨xs, _, h⟩ := h
      exact dGs_some gs xs env P h
  dGs_some : ∀ (gs : DGs) (xs : List D) (env : Env) (P : Env → Prop), dGs gs xs env P → ∃ env', P env'
    | .nil, xs, env, P, h => ⟨_, h.2⟩
    | .cons g gs, xs, env, P, h => by
      obtain ⟨x, r, _, h⟩ := h
      obtain ⟨env', h⟩ := dG_some g x env _ h
      exact dGs_some gs r env' P h
mutual
theorem snd_g {fb : Str → Bool} {vo : Option (List Nat)} (hc : X.calm = true) (hN : X.N.Nodup) (hf : X.fn = fb) :
    ∀ (g : DG) (e : Expr), chkG X.N X.env.scope fb vo g e = true → PG X e (tgOf X.kw g vo) ∧ notStar e = true
  | .name i, e, h => by
    cases e <;> try (simp [chkG] at h; done)
    rename_i x pos
    simp only [chkG, Bool.and_eq_true, decide_eq_true_eq] at h
    obtain ⟨h1, h2, h3⟩ := h
    obtain ⟨l1, l2⟩ := loc_of h2
    refine ⟨PG.imp (pg_name hN h1 l1 (by rw [hf]; exact l2)) fun v σ H Q ⟨F, μ, env, d, Qe, w, re, rd, hg, p⟩ => ?_, rfl⟩
    refine p _ _ (RepE.set rd i re) hg fun vs hv => ?_
    subst hv
    exact wipe_set (by simpa using h3)
  | .tup gs, e, h => by
    cases e <;> try (simp [chkG] at h; done)
    rename_i es n pos
    simp only [chkG] at h
    obtain ⟨p1, p2⟩ := snd_gs hc hN hf gs es h
    refine ⟨PG.imp (pg_tup (n := es.length) hc p1 each_len (each_star p2)) fun v σ H Q ⟨F, μ, env, d, Qe, w, re, rd, hg, p⟩ => ?_, rfl⟩
    obtain ⟨xs, rfl, hg⟩ := hg
    obtain ⟨a, ws, rfl, s, rl⟩ := rep_tup.mp rd
    refine ⟨a, ws, rfl, SqT.le w.le s.sq, ?_, F, μ, env, xs, Qe, w, re, rl, hg, p⟩
    rw [← rl.length]
    exact dGs_len gs es _ _ _ _ _ _ _ h hg
theorem snd_gs {fb : Str → Bool} {vo : Option (List Nat)} (hc : X.calm = true) (hN : X.N.Nodup) (hf : X.fn = fb) :
    ∀ (gs : DGs) (es : List Expr), chkGs X.N X.env.scope fb vo gs es = true → PGs X es (tgsOf X.kw gs vo) ∧ es.all notStar = true
  | .nil, es, h => by
    cases es <;> try (simp [chkGs] at h; done)
    refine ⟨PGs.imp pgs_nil fun v σ H Q ⟨F, μ, env, ds, Qe, w, re, rd, hg, p⟩ => ?_, rfl⟩
    obtain ⟨rfl, hg⟩ := hg
    rw [repL_nil] at rd; subst rd
    exact ⟨rfl, p _ _ re hg fun _ _ => rfl⟩
  | .cons g gs, es, h => by
    cases es <;> try (simp [chkGs] at h; done)
    rename_i e es
    simp only [chkGs, Bool.and_eq_true] at h
    obtain ⟨g1, g2⟩ := snd_g hc hN hf g e h.1
    obtain ⟨g3, g4⟩ := snd_gs hc hN hf gs es h.2
    refine ⟨PGs.imp (pgs_cons g1 g3 (by rw [assignEach_cons g2]; rfl)) fun v σ H Q ⟨F, μ, env, ds, Qe, w, re, rd, hg, p⟩ => ?_, by simp [g2, g4]⟩
    obtain ⟨x, r, rfl, hg⟩ := hg
    obtain ⟨v1, vr, rfl, r1, r2⟩ := repL_cons.mp rd
    refine ⟨v1, vr, rfl, F, μ, env, x, _, w, re, r1, hg, fun env' σ' re' hg' hw => ?_⟩
    exact ⟨F, μ, env', r, Qe, w, re', r2, hg', fun env2 σ2 re2 q2 hw2 => p env2 σ2 re2 q2 fun vs hv => (hw2 vs hv).trans (hw vs hv)⟩
end
end
end DL
end
section
set_option Elab.async false
set_option linter.all false
set_option maxRecDepth 100000
set_option maxHeartbeats 400000
namespace DL
open PySem PySem.Spec L2

inductive SLj (X : Cx) (E : XK) : List Expr → List DT → Prop where
  | nil : SLj X E [] []
  | cons {e : Expr} {es : List Expr} {t : DT} {ts : List DT} (h : DEj X E e t) (h' : DTj X E e (dTst t)) (r : SLj X E es ts) : SLj X E (e :: es) (t :: ts)
section
variable {X : Cx} {E : XK} {k : Nat}
theorem SLj.dl {es : List Expr} {ts : List DT} (h : SLj X E es ts) : DLj X E es ts := by
  induction h with
  | nil => exact .nil
  | cons a _ _ ih => exact .cons a ih
theorem snd_con {d : D} {c : Const} {n : Nat} {pos : Pos} (h : conOk d c = true) : DEj X E (.Constant c n pos) (dCon d) := by
  cases d <;> cases c <;> try (simp [conOk] at h; done)
  · exact de_con pe_non fun F => rep_non.mpr rfl
  · rename_i a b
    have : a = b := by simpa [conOk] using h
    subst this
    exact de_con pe_bl fun F => rep_bl.mpr rfl
  · rename_i a b
    have : a = b := by simpa [conOk] using h
    subst this
    exact de_con pe_int fun F => rep_int.mpr rfl
  · rename_i a b
    have : a = b := by simpa [conOk] using h
    subst this
    exact de_con pe_str fun F => rep_str.mpr rfl
theorem snd_bty (c : Ctx X E k) {x : Str} {n : String} {pos : Pos} (h1 : (x, n) ∈ btyNames) (h2 : X.env.scope.names.lookup x = some .globalImplicit) : DEj X E (.Name x pos) (dCon (.ty n)) := by
  have hm : X.mg x = none := by
    refine c.free x ?_
    simp only [btyNames, List.mem_cons, Prod.mk.injEq, List.not_mem_nil, or_false] at h1
    rcases h1 with ⟨rfl, _⟩ | ⟨rfl, _⟩ | ⟨rfl, _⟩ | ⟨rfl, _⟩ | ⟨rfl, _⟩ | ⟨rfl, _⟩ <;> decide +kernel
  have hb : bootBuiltins x = some (.type n) ∧ x ≠ "__name__" ∧ (x == ("__debug__" : Str)) = false := by
    simp only [btyNames, List.mem_cons, Prod.mk.injEq, List.not_mem_nil, or_false] at h1
    rcases h1 with ⟨rfl, rfl⟩ | ⟨rfl, rfl⟩ | ⟨rfl, rfl⟩ | ⟨rfl, rfl⟩ | ⟨rfl, rfl⟩ | ⟨rfl, rfl⟩ <;> decide +kernel
  exact de_con (v := .ty n) (pe_bltn h2 hm hb.1 rfl hb.2.1 hb.2.2) fun F => rep_ty.mpr rfl
theorem bop_val (all : Bool) {pos : Pos} : ∀ {es : List Expr} {ts : List DT}, SLj X E es ts → es ≠ [] → DEj X E (.BoolOp (if all then .And else .Or) es pos) (dBop all ts)
  | [], _, _, h => absurd rfl h
  | [e], _, .cons a _ .nil, _ => pe_one a
  | e :: f :: es, _, .cons (t := t) a _ (.cons (t := u) (ts := ts) b b' r), _ => by
    have ih := bop_val all (pos := pos) (SLj.cons b b' r) (List.cons_ne_nil _ _)
    cases all with
    | true =>
      refine PE.imp (pe_and a ih) fun σ H Q ⟨F, μ, env, Qd, Ex, w, re, x, h, p⟩ => ?_
      refine ⟨F, μ, env, _, Ex, w, re, x, h, fun F1 v H1 d μ1 l1 w1 r1 ⟨c, e, h1⟩ => ?_⟩
      subst e
      rw [rep_bl] at r1
      refine ⟨c, r1, ?_⟩
      cases c with
      | true => exact ⟨F1, μ1, env, Qd, Ex, w1, re.le l1, x.le l1, by simpa using h1, p.le l1⟩
      | false => exact p F1 _ H1 _ μ1 l1 w1 (rep_bl.mpr rfl) (by simpa using h1)
    | false =>
      refine PE.imp (pe_or a ih) fun σ H Q ⟨F, μ, env, Qd, Ex, w, re, x, h, p⟩ => ?_
      refine ⟨F, μ, env, _, Ex, w, re, x, h, fun F1 v H1 d μ1 l1 w1 r1 ⟨c, e, h1⟩ => ?_⟩
      subst e
      rw [rep_bl] at r1
      refine ⟨c, r1, ?_⟩
      cases c with
      | false => exact ⟨F1, μ1, env, Qd, Ex, w1, re.le l1, x.le l1, by simpa using h1, p.le l1⟩
      | true => exact p F1 _ H1 _ μ1 l1 w1 (rep_bl.mpr rfl) (by simpa using h1)
theorem bop_tst (all : Bool) {pos : Pos} : ∀ {es : List Expr} {ts : List DT}, SLj X E es ts → es ≠ [] → PW X (.BoolOp (if all then .And else .Or) es pos) (ttOf X.kw E (dTst (dBop all ts)))
  | [], _, _, h => absurd rfl h
  | [e], _, .cons _ a .nil, _ => by
    cases all with
    | true => exact pw_and1 a
    | false => exact pw_or1 a
  | e :: f :: es, _, .cons (t := t) _ a (.cons (t := u) (ts := ts) b b' r), _ => by
    have ih := bop_tst all (pos := pos) (SLj.cons b b' r) (List.cons_ne_nil _ _)
    cases all with
    | true =>
      refine PW.imp (pw_and a ih) fun σ H Q ⟨F, μ, env, Qd, Ex, w, re, x, h, p⟩ => ?_
      refine ⟨F, μ, env, fun c μ1 => if c = true then dTst (dBop true (u :: ts)) env μ1 Qd Ex else Qd false μ1, Ex, w, re, x, ?_, fun F1 H1 c μ1 l1 w1 h1 => ?_⟩
      · have e : dTst t env μ (fun c μ1 => if c = true then dTst (dBop true (u :: ts)) env μ1 Qd Ex else Qd false μ1) Ex = dTst (dBop true (t :: u :: ts)) env μ Qd Ex := by
          unfold dTst
          simp only [dBop]
          congr 1
          funext y μ1
          simp only [eq_iff_iff]
          constructor
          · rintro ⟨c, rfl, h⟩
            refine ⟨c, rfl, ?_⟩
            cases c with
            | true => exact h
            | false => exact ⟨false, rfl, h⟩
          · rintro ⟨c, rfl, h⟩
            refine ⟨c, rfl, ?_⟩
            cases c with
            | true => exact h
            | false =>
              obtain ⟨b, e, h⟩ := (show ∃ b, D.bl false = D.bl b ∧ Qd b μ1 from h)
              cases e
              exact h
        rw [e]; exact h
      · cases c with
        | true => exact ⟨F1, μ1, env, Qd, Ex, w1, re.le l1, x.le l1, by simpa using h1, p.le l1⟩
        | false => exact p F1 H1 false μ1 l1 w1 (by simpa using h1)
    | false =>
      refine PW.imp (pw_or a ih) fun σ H Q ⟨F, μ, env, Qd, Ex, w, re, x, h, p⟩ => ?_
      refine ⟨F, μ, env, fun c μ1 => if c = true then Qd true μ1 else dTst (dBop false (u :: ts)) env μ1 Qd Ex, Ex, w, re, x, ?_, fun F1 H1 c μ1 l1 w1 h1 => ?_⟩
      · have e : dTst t env μ (fun c μ1 => if c = true then Qd true μ1 else dTst (dBop false (u :: ts)) env μ1 Qd Ex) Ex = dTst (dBop false (t :: u :: ts)) env μ Qd Ex := by
          unfold dTst
          simp only [dBop]
          congr 1
          funext y μ1
          simp only [eq_iff_iff]
          constructor
          · rintro ⟨c, rfl, h⟩
            refine ⟨c, rfl, ?_⟩
            cases c with
            | false => exact h
            | true => exact ⟨true, rfl, h⟩
          · rintro ⟨c, rfl, h⟩
            refine ⟨c, rfl, ?_⟩
            cases c with
            | false => exact h
            | true =>
              obtain ⟨b, e, h⟩ := (show ∃ b, D.bl true = D.bl b ∧ Qd b μ1 from h)
              cases e
              exact h
        rw [e]; exact h
      · cases c with
        | false => exact ⟨F1, μ1, env, Qd, Ex, w1, re.le l1, x.le l1, by simpa using h1, p.le l1⟩
        | true => exact p F1 H1 true μ1 l1 w1 (by simpa using h1)
theorem not_both {e : Expr} {t : DT} {pos : Pos} (hv : DEj X E e t) (h : DTj X E e (dTst t)) : DEj X E (.UnaryOp .Not e pos) (dNot t) ∧ DTj X E (.UnaryOp .Not e pos) (dTst (dNot t)) := by
  constructor
  · refine PE.imp (pe_not hv) fun σ H Q ⟨F, μ, env, Qd, Ex, w, re, x, h, p⟩ => ?_
    refine ⟨F, μ, env, _, Ex, w, re, x, h, fun F1 v H1 d μ1 l1 w1 r1 ⟨c, e, h1⟩ => ?_⟩
    subst e
    rw [rep_bl] at r1
    exact ⟨c, r1, p F1 _ H1 _ μ1 l1 w1 (rep_bl.mpr rfl) h1⟩
  · refine PT.imp (pt_not h) fun σ H Q ⟨F, μ, env, Qd, Ex, w, re, x, h, p⟩ => ?_
    refine ⟨F, μ, env, fun c μ1 => Qd (!c) μ1, Ex, w, re, x, ?_, fun F1 H1 c μ1 l1 w1 h1 => p F1 H1 _ μ1 l1 w1 h1⟩
    unfold dTst dNot at h
    unfold dTst
    have e : (fun (x : D) μ1 => ∃ c, x = .bl c ∧ ∃ b, D.bl (!c) = D.bl b ∧ Qd b μ1) = (fun x μ1 => ∃ b, x = .bl b ∧ Qd (!b) μ1) := by
      funext y μ1
      simp only [eq_iff_iff]
      constructor
      · rintro ⟨c, rfl, b, e, h⟩; cases e; exact ⟨c, rfl, h⟩
      · rintro ⟨c, rfl, h⟩; exact ⟨c, rfl, _, rfl, h⟩
    rw [e] at h
    exact h
theorem tst_eq (t : DT) (Qd : QD) (P : Bool → Mem → Prop) (env : Env) (μ : Mem) (Ex : QX) : dTst t env μ P Ex = t env μ (fun x μ1 => ∃ c, x = .bl c ∧ P c μ1) Ex := rfl
theorem ife_both {e f g : Expr} {t a b : DT} {pos : Pos} (ht : DTj X E e (dTst t)) (ha : DEj X E f a) (hb : DEj X E g b) (ha' : DTj X E f (dTst a)) (hb' : DTj X E g (dTst b)) :
    DEj X E (.IfExp e f g pos) (dIfe t a b) ∧ DTj X E (.IfExp e f g pos) (dTst (dIfe t a b)) := by
  constructor
  · refine PE.imp (pe_ifExp ht ha hb) fun σ H Q ⟨F, μ, env, Qd, Ex, w, re, x, h, p⟩ => ?_
    refine ⟨F, μ, env, _, Ex, w, re, x, h, fun F1 H1 c μ1 l1 w1 h1 => ?_⟩
    cases c with
    | true => exact ⟨F1, μ1, env, Qd, Ex, w1, re.le l1, x.le l1, by simpa using h1, p.le l1⟩
    | false => exact ⟨F1, μ1, env, Qd, Ex, w1, re.le l1, x.le l1, by simpa using h1, p.le l1⟩
  · refine ⟨fun pins s σ H Q I hw => ?_⟩
    obtain ⟨F, μ, env, Qd, Ex, w, re, x, h, p⟩ := hw
    refine PyProof.Rows.isTrue_IfExp (thn (ht.run pins s σ H (fun c H1 => ∃ F1 μ1, Le F F1 ∧ Wd X.kw F1 μ1 H1 ∧ (if c = true then a env μ1 (fun x μ2 => ∃ b, x = .bl b ∧ Qd b μ2) Ex else b env μ1 (fun x μ2 => ∃ b, x = .bl b ∧ Qd b μ2) Ex)) I ⟨F, μ, env, _, Ex, w, re, x, h, fun F1 H1 c μ1 l1 w1 h1 => ⟨F1, μ1, l1, w1, h1⟩⟩) fun c s1 ⟨H1, I1, F1, μ1, l1, w1, h1⟩ => ?_)
    cases c with
    | true =>
      simp only [if_pos] at h1 ⊢
      exact ha'.run pins s1 σ H1 Q I1 ⟨F1, μ1, env, Qd, Ex, w1, re.le l1, x.le l1, h1, p.le l1⟩
    | false =>
      simp only [Bool.false_eq_true, if_false] at h1 ⊢
      exact hb'.run pins s1 σ H1 Q I1 ⟨F1, μ1, env, Qd, Ex, w1, re.le l1, x.le l1, h1, p.le l1⟩
def rCmpB (f : Bool) : R2 := rI0 fun i j => .bl (cmpOf f i j)
theorem op_cmpB (f : Bool) : OpR X (compareOp (opB f)) (rCmpB f) := by
  cases f with
  | true => exact op_le
  | false => exact op_lt
theorem chain_to {f g : Bool} {a b c : DT} (σ : L2.St) (H : Hp) (Q : VK) (h : teOf X.kw E (dChain f g a b c) σ H Q) : tChain (rCmpB f) (rCmpB g) (teOf X.kw E a) (teOf X.kw E b) (teOf X.kw E c) σ H Q := by
  obtain ⟨F, μ, env, Qd, Ex, w, re, x, h, p⟩ := h
  refine ⟨F, μ, env, _, Ex, w, re, x, h, fun F1 v H1 d μ1 l1 w1 r1 h1 => ?_⟩
  refine ⟨F1, μ1, env, _, Ex, w1, re.le l1, x.le l1, h1, fun F2 u H2 d2 μ2 l2 w2 r2 ⟨i, j, e1, e2, h2⟩ => ?_⟩
  subst e1; subst e2
  rw [rep_int] at r1 r2
  refine ⟨i, j, r1, r2, cmpOf f i j, rfl, ?_⟩
  cases q : cmpOf f i j with
  | true =>
    rw [q] at h2
    simp only [if_pos] at h2 ⊢
    refine ⟨F2, μ2, env, _, Ex, w2, re.le (l1.trans l2), x.le (l1.trans l2), h2, fun F3 u3 H3 d3 μ3 l3 w3 r3 ⟨l, e3, h3⟩ => ?_⟩
    subst e3
    rw [rep_int] at r3
    exact ⟨j, l, r2, r3, p F3 _ H3 _ μ3 ((l1.trans l2).trans l3) w3 (rep_bl.mpr rfl) h3⟩
  | false =>
    rw [q] at h2
    simp only [Bool.false_eq_true, if_false] at h2 ⊢
    exact p F2 _ H2 _ μ2 (l1.trans l2) w2 (rep_bl.mpr rfl) h2
theorem chain_both {f g : Bool} {x y z : Expr} {a b c : DT} {pos : Pos} (ha : DEj X E x a) (hb : DEj X E y b) (hc : DEj X E z c) :
    DEj X E (.Compare x [opB f, opB g] [y, z] pos) (dChain f g a b c) ∧ DTj X E (.Compare x [opB f, opB g] [y, z] pos) (dTst (dChain f g a b c)) := by
  have hm : lastMarks [opB f, opB g] [y, z] = false := by
    show behindInMarks (opB g) z = false
    cases g <;> exact nomark z (by decide) (by decide)
  constructor
  · exact PE.imp (pe_chain (op_cmpB f) (op_cmpB g) ha hb hc hm) chain_to
  · refine PT.imp (pt_chain (op_cmpB f) (op_cmpB g) ha hb hc hm) fun σ H Q ⟨F, μ, env, Qd, Ex, w, re, x, h, p⟩ => ?_
    refine chain_to σ H _ ⟨F, μ, env, _, Ex, w, re, x, h, fun F1 v H1 d μ1 l1 w1 r1 ⟨b, e, h1⟩ => ?_⟩
    subst e
    rw [rep_bl] at r1
    exact ⟨b, r1, p F1 H1 b μ1 l1 w1 h1⟩

theorem wipe_wipe (σ : L2.St) (vs : List Nat) : wipe (wipe σ vs) vs = wipe σ vs := by
  have key : ∀ (ws us : List Nat) (σ : L2.St), (∀ i ∈ ws, i ∈ us) → wipe (wipe σ ws) us = wipe σ us := by
    intro ws
    induction ws with
    | nil => intro us σ _; rfl
    | cons i ws ih =>
      intro us σ h
      show wipe ((wipe σ ws).set i none) us = wipe σ us
      rw [wipe_set (h i (by simp)), ih us σ fun j hj => h j (by simp [hj])]
  exact key vs vs σ fun _ h => h
theorem xok_none {K : KW} {F : Hp} : XOk K F (fun _ _ => False) E0 := fun _ _ _ _ _ _ _ _ _ h => h.elim
theorem lc_to {m : Bool} {it : DTI} {g : DG} {tt : DTT} {te : DT} {vs : List Nat} (σ : L2.St) (H : Hp) (Q : VK) (h : teOf X.kw E (dLc m it g tt te vs) σ H Q) :
    tLc (tiOf X.kw E it) (tgOf X.kw g (some vs)) (ttOf X.kw E0 tt) (teOf X.kw E0 te) vs σ H Q := by
  obtain ⟨F, μ, env, Qd, Ex, w, re, x, h, p⟩ := h
  refine ⟨F, μ, env, _, Ex, w, re, x, h, fun F1 H1 items keep μ1 J l1 w1 wk h1 D hD => ?_⟩
  have h1 := h1 D (w1.freeM hD)
  refine ⟨fun i n H' => n = items.length - i ∧ i ≤ items.length ∧ ∃ F' μ' acc, Le F1 F' ∧ Wd X.kw F' μ' H' ∧ lcGo D m keep g tt te (wipeD env vs) Qd (items.drop i) acc μ', ⟨items.length, by simp, Nat.zero_le _, F1, _, [], Same.refl _, w1.newM hD (.ofL RepL.nil), by simpa using h1⟩, ?_⟩
  rintro i n H' ⟨rfl, hi, F', μ', acc, l', w', go⟩
  by_cases hlt : i < items.length
  · right
    rw [List.drop_eq_getElem_cons hlt] at go
    obtain ⟨kp, go⟩ := go
    refine ⟨wk.go i F' μ' H' l' w' kp hlt, fun H2 => ∃ F2 μ2 acc2, Le F1 F2 ∧ Wd X.kw F2 μ2 H2 ∧ lcGo D m keep g tt te (wipeD env vs) Qd (items.drop (i + 1)) acc2 μ2, fun H2 ⟨F2, μ2, acc2, a, b, c⟩ => ⟨items.length - (i + 1), by omega, rfl, hlt, F2, μ2, acc2, a, b, c⟩, fun xv H3 y => ?_⟩
    obtain ⟨F3, d, l3, w3, e3, r3⟩ := wk.yld i F' μ' H' xv H3 l' w' kp hlt y
    have ed : d = items[i] := by
      rw [List.getElem?_eq_getElem hlt] at e3; exact (Option.some.inj e3).symm
    subst ed
    refine ⟨F3, μ', wipeD env vs, _, _, w3, (RepE.wipe vs re).le ((l1.trans l').trans l3), r3, go, fun env2 σ2 re2 qe hw => ⟨?_, ?_⟩⟩
    · rw [hw vs rfl, wipe_wipe]
    · refine ⟨F3, μ', env2, _, _, w3, re2, xok_none, qe, fun F4 H4 b μ4 l4 w4 hb => ?_⟩
      cases b with
      | true =>
        simp only [if_pos] at hb ⊢
        refine ⟨F4, μ4, env2, _, _, w4, re2.le l4, xok_none, hb, fun F5 v5 H5 d5 μ5 l5 w5 r5 ⟨e5, z5, go5⟩ => ?_⟩
        obtain ⟨o, eo, vs5, rfl, rl⟩ := w5.mem D _ e5
        refine ⟨vs5, eo, by rw [← rl.length]; exact z5, F5, _, _, ((l'.trans l3).trans l4).trans l5, w5.setM e5 (.ofL (rl.app (RepL.one r5))), go5⟩
      | false =>
        simp only [Bool.false_eq_true, if_false] at hb ⊢
        exact ⟨F4, μ4, acc, (l'.trans l3).trans l4, w4, hb⟩
  · left
    have e : i = items.length := by omega
    subst e
    rw [List.drop_length] at go
    obtain ⟨kp, ea, go⟩ := go
    refine ⟨wk.stop F' μ' H' l' w' kp, ?_⟩
    obtain ⟨o, eo, vs5, rfl, rl⟩ := w'.mem D _ ea
    cases m with
    | true =>
      simp only [if_pos] at go
      exact p F' _ H' (.ref D) μ' (l1.trans l') w' (rep_ref.mpr rfl) go
    | false =>
      simp only [Bool.false_eq_true, if_false] at go
      obtain ⟨μ2, hs, hn, go⟩ := go
      obtain ⟨w2, l2⟩ := w'.freeze eo (w'.sep D _ ea) hs hn
      exact p _ _ H' (.lst acc) μ2 ((l1.trans l').trans l2) w2 (rep_lst.mpr ⟨D, vs5, rfl, upd_same, RepL.le l2 _ _ rl⟩) go
theorem frz_to {t : DT} (σ : L2.St) (H : Hp) (Q : VK) (h : teOf X.kw E (fun env μ Q Ex => t env μ (fun x μ1 => ∃ a xs μ', x = .ref a ∧ μ1 a = some (.lst xs) ∧ Mem.Sub μ' μ1 ∧ μ' a = none ∧ Q (.lst xs) μ') Ex) σ H Q) : teOf X.kw E t σ H Q := by
  obtain ⟨F, μ, env, Qd, Ex, w, re, x, h, p⟩ := h
  refine ⟨F, μ, env, _, Ex, w, re, x, h, fun F1 v H1 d μ1 l1 w1 r1 ⟨a, xs, μ', e, ea, hs, hn, h1⟩ => ?_⟩
  subst e
  rw [rep_ref] at r1; subst r1
  obtain ⟨o, eo, vs5, rfl, rl⟩ := w1.mem a _ ea
  obtain ⟨w2, l2⟩ := w1.freeze eo (w1.sep a _ ea) hs hn
  exact p _ _ H1 (.lst xs) μ' (l1.trans l2) w2 (rep_lst.mpr ⟨a, vs5, rfl, upd_same, RepL.le l2 _ _ rl⟩) h1
end
theorem Ctx.blk {X : Cx} {E : XK} {k : Nat} (c : Ctx X E k) (s : Shared) (H : Hp) (scope : Scope) (env : PySem.Env) (fp : List Addr) : Ctx (X.blk s H scope env fp) E0 k := by
  refine ⟨c.calm, c.nd, c.room, fun u s' h => ?_, c.free⟩
  obtain ⟨_, _, _, _, _, _, _, _, _, _, _, _, _, _, _, _, w⟩ := h
  exact w.elim
end DL
end
section
set_option Elab.async false
set_option linter.all false
set_option maxRecDepth 100000
set_option maxHeartbeats 400000
namespace DL
open PySem PySem.Spec L2

theorem chk_std {N : List Str} {sc : Scope} {s : Std} {es : DEs} {e : Expr} : chk N sc (.std s es) e = (match s.o.parts sc e with
    | some xs => chks N sc es xs
    | none => false) := by cases e <;> rfl
theorem chk_app {N : List Str} {sc : Scope} {o : Opn} {es : DEs} {e : Expr} : chk N sc (.app o es) e = (match o.parts sc e with
    | some xs => chks N sc es xs
    | none => false) := by cases e <;> rfl
theorem chk_frz {N : List Str} {sc : Scope} {d : DE} {e : Expr} : chk N sc (.frz d) e = chk N sc d e := by cases e <;> rfl
theorem chk_chain {N : List Str} {sc : Scope} {f g : Bool} {a b c : DE} {e : Expr} (h : chk N sc (.chain f g a b c) e = true) :
    ∃ x y z pos, e = .Compare x [opB f, opB g] [y, z] pos ∧ chk N sc a x = true ∧ chk N sc b y = true ∧ chk N sc c z = true := by
  cases e <;> try (simp [chk] at h; done)
  rename_i x ops ys pos
  rcases ops with _ | ⟨o1, _ | ⟨o2, _ | ⟨o3, r⟩⟩⟩ <;> try (simp [chk] at h; done)
  rcases ys with _ | ⟨y, _ | ⟨z, _ | ⟨y3, r⟩⟩⟩ <;> try (simp [chk] at h; done)
  simp only [chk, Bool.and_eq_true, decide_eq_true_eq] at h
  obtain ⟨h1, h2, h3, h4, h5⟩ := h
  subst h1; subst h2
  exact ⟨x, y, z, pos, rfl, h3, h4, h5⟩
theorem chk_lc {N : List Str} {sc : Scope} {m : Bool} {it : StdI} {src ifs : DEs} {g : DG} {elt : DE} {own : List (Str × Nat)} {e : Expr} (h : chk N sc (.lc m it src g ifs elt own) e = true) :
    ∃ x tg iter cs scope pos xs, e = .ListComp x [⟨tg, iter, cs, 0⟩] scope pos ∧ blkC N sc scope own = true ∧ it.o.parts sc tg iter = some xs ∧ chks N sc src xs = true ∧
      chkG N (relS scope sc) (fun x => scope.names.lookup x == some .cell) (some (own.map (·.2))) g tg = true ∧ cs.length ≤ 1 ∧ chks N (relS scope sc) ifs cs = true ∧ chk N (relS scope sc) elt x = true := by
  cases e <;> try (simp [chk] at h; done)
  rename_i x gs scope pos
  rcases gs with _ | ⟨⟨tg, iter, cs, as⟩, _ | ⟨g2, r⟩⟩ <;> try (simp [chk] at h; done)
  simp only [chk, Bool.and_eq_true, decide_eq_true_eq] at h
  obtain ⟨h1, h2, h3, h4, ⟨h5, h6⟩, h7⟩ := h
  subst h1
  cases q : it.o.parts sc tg iter with
  | none => rw [q] at h3; cases h3
  | some xs =>
    rw [q] at h3
    exact ⟨x, tg, iter, cs, scope, pos, xs, rfl, h2, q, h3, h4, h5, h6, h7⟩
theorem At.blk {p : Pl} {X : Cx} (a : At p X) (s : Shared) (H : Hp) (scope : Scope) (env : PySem.Env) (fp : List Addr) : At p (X.blk s H scope env fp) := ⟨a.P, a.w, a.K, a.mg, a.base⟩
theorem tests_ok {X : Cx} {E : XK} {cs : List Expr} {ts : List DT} (h : SLj X E cs ts) (hl : cs.length ≤ 1) : PTs X cs (ttOf X.kw E (dTests ts)) := by
  cases h with
  | nil =>
    refine ⟨fun pins s σ H Q I hw => pts_nil.run pins s σ H Q I ?_⟩
    obtain ⟨F, μ, env, Qd, Ex, w, re, x, h, p⟩ := hw
    exact p F H true μ (Same.refl _) w h
  | cons a b r =>
    cases r with
    | nil => exact pts_one b
    | cons => simp at hl
mutual
theorem snd_e (p : Pl) : ∀ (d : DE) (X : Cx) (E : XK) (e : Expr), At p X → Ctx X E p.k → usesE (Good p) d → chk X.N X.env.scope d e = true → DEj X E e (den d) ∧ DTj X E e (dTst (den d))
  | .var i, X, E, e, a, c, u, h => by
    cases e <;> try (simp [chk] at h; done)
    rename_i x pos
    simp only [chk, Bool.and_eq_true, decide_eq_true_eq, plainName, bne_iff_ne, ne_eq] at h
    obtain ⟨h1, h2, h3, h4⟩ := h
    have hv := de_var (E := E) (pos := pos) h1 (vis_of h2) (beq_eq_false_iff_ne.mpr h3) (beq_eq_false_iff_ne.mpr h4)
    exact ⟨hv, dt_val hv (isTrue_plain rfl)⟩
  | .con d, X, E, e, a, c, u, h => by
    cases e <;> try (simp [chk] at h; done)
    simp only [chk] at h
    rename_i cc n pos
    have hv := snd_con (X := X) (E := E) (n := n) (pos := pos) h
    exact ⟨hv, dt_val hv (isTrue_plain rfl)⟩
  | .bty n, X, E, e, a, c, u, h => by
    cases e <;> try (simp [chk] at h; done)
    rename_i x pos
    simp only [chk, Bool.and_eq_true, decide_eq_true_eq] at h
    have hv := snd_bty (E := E) (pos := pos) c h.1 h.2
    exact ⟨hv, dt_val hv (isTrue_plain rfl)⟩
  | .std s es, X, E, e, a, c, u, h => by
    rw [chk_std] at h
    cases q : s.o.parts X.env.scope e with
    | none => rw [q] at h; cases h
    | some xs =>
      rw [q] at h
      have l := snd_es p es X E xs a c (by simpa [usesE] using u) h
      exact ⟨(s.ok c).val q l.dl, (s.ok c).tst q l.dl⟩
  | .app o es, X, E, e, a, c, u, h => by
    rw [chk_app] at h
    have u : Good p o ∧ usesEs (Good p) es := by simpa [usesE] using u
    cases q : o.parts X.env.scope e with
    | none => rw [q] at h; cases h
    | some xs =>
      rw [q] at h
      have l := snd_es p es X E xs a c u.2 h
      exact ⟨(u.1 a c).val q l.dl, (u.1 a c).tst q l.dl⟩
  | .bop all es, X, E, e, a, c, u, h => by
    cases e <;> try (simp [chk] at h; done)
    rename_i op xs pos
    simp only [chk, Bool.and_eq_true, decide_eq_true_eq] at h
    obtain ⟨h1, h2, h3⟩ := h
    subst h1
    have l := snd_es p es X E xs a c (by simpa [usesE] using u) h3
    exact ⟨bop_val all l h2, (bop_tst all l h2).pt⟩
  | .not d, X, E, e, a, c, u, h => by
    cases e <;> try (simp [chk] at h; done)
    rename_i op x pos
    cases op <;> try (simp [chk] at h; done)
    simp only [chk] at h
    obtain ⟨h1, h2⟩ := snd_e p d X E x a c (by simpa [usesE] using u) h
    exact not_both h1 h2
  | .ife t d1 d2, X, E, e, a, c, u, h => by
    cases e <;> try (simp [chk] at h; done)
    rename_i x y z pos
    simp only [chk, Bool.and_eq_true] at h
    have u : usesE (Good p) t ∧ usesE (Good p) d1 ∧ usesE (Good p) d2 := by simpa [usesE] using u
    obtain ⟨a1, a2⟩ := snd_e p t X E x a c u.1 h.1
    obtain ⟨b1, b2⟩ := snd_e p d1 X E y a c u.2.1 h.2.1
    obtain ⟨c1, c2⟩ := snd_e p d2 X E z a c u.2.2 h.2.2
    exact ife_both a2 b1 c1 b2 c2
  | .chain f g d1 d2 d3, X, E, e, a, c, u, h => by
    obtain ⟨x, y, z, pos, rfl, h1, h2, h3⟩ := chk_chain h
    have u : usesE (Good p) d1 ∧ usesE (Good p) d2 ∧ usesE (Good p) d3 := by simpa [usesE] using u
    exact chain_both (snd_e p d1 X E x a c u.1 h1).1 (snd_e p d2 X E y a c u.2.1 h2).1 (snd_e p d3 X E z a c u.2.2 h3).1
  | .lc m it src g ifs elt own, X, E, e, a, c, u, h => by
    obtain ⟨x, tg, iter, cs, scope, pos, xs, rfl, h1, h2, h3, h4, h5, h6, h7⟩ := chk_lc h
    have u : usesEs (Good p) src ∧ usesEs (Good p) ifs ∧ usesE (Good p) elt := by simpa [usesE] using u
    have hi := it.ok c h2 (snd_es p src X E xs a c u.1 h3).dl
    have hv : DEj X E (.ListComp x [⟨tg, iter, cs, 0⟩] scope pos) (den (.lc m it src g ifs elt own)) := by
      refine PE.imp (pe_lc c.calm c.nd hi (blkOk_by h1) (g := tgOf X.kw g (some (own.map (·.2)))) (tt := ttOf X.kw E0 (dTests (dens ifs))) (te := teOf X.kw E0 (den elt)) (fun s H C cl fp => ?_) (fun s H C cl fp => ?_) (fun s H C cl fp => ?_) (it.nset _ _ _ _ h2 _)) lc_to
      · have h4' : chkG (X.blk s H scope (compEnvC scope cl C X.env) fp).N (X.blk s H scope (compEnvC scope cl C X.env) fp).env.scope (fun x => scope.names.lookup x == some .cell) (some (own.map (·.2))) g tg = true := h4
        exact (snd_g (X := X.blk s H scope (compEnvC scope cl C X.env) fp) c.calm c.nd rfl g tg h4').1
      · exact tests_ok (X := X.blk s H scope (compEnvC scope cl C X.env) fp) (snd_es p ifs (X.blk s H scope (compEnvC scope cl C X.env) fp) E0 cs (a.blk ..) (c.blk ..) u.2.1 h6) h5
      · exact (snd_e p elt (X.blk s H scope (compEnvC scope cl C X.env) fp) E0 x (a.blk ..) (c.blk ..) u.2.2 h7).1
    exact ⟨hv, dt_val hv (isTrue_plain rfl)⟩
  | .frz d, X, E, e, a, c, u, h => by
    rw [chk_frz] at h
    obtain ⟨h1, h2⟩ := snd_e p d X E e a c (by simpa [usesE] using u) h
    refine ⟨PE.imp h1 frz_to, PT.imp h2 fun σ H Q ⟨F, μ, env, Qd, Ex, w, re, x, h, q⟩ => ?_⟩
    refine ⟨F, μ, env, fun _ _ => False, Ex, w, re, x, ?_, fun _ _ _ _ _ _ h => h.elim⟩
    have e1 : (fun (x : D) (μ1 : Mem) => ∃ a xs μ', x = .ref a ∧ μ1 a = some (.lst xs) ∧ Mem.Sub μ' μ1 ∧ μ' a = none ∧ ∃ b, D.lst xs = .bl b ∧ Qd b μ') = (fun _ _ => False) := by
      funext y μ1
      simp
    have e2 : (fun (x : D) (μ1 : Mem) => ∃ c, x = D.bl c ∧ False) = (fun _ _ => False) := by
      funext y μ1
      simp
    have h' : den d env μ (fun _ _ => False) Ex := by rw [← e1]; exact h
    show den d env μ (fun (x : D) (μ1 : Mem) => ∃ c, x = D.bl c ∧ False) Ex
    rw [e2]
    exact h'
theorem snd_es (p : Pl) : ∀ (ds : DEs) (X : Cx) (E : XK) (es : List Expr), At p X → Ctx X E p.k → usesEs (Good p) ds → chks X.N X.env.scope ds es = true → SLj X E es (dens ds)
  | .nil, X, E, es, a, c, u, h => by
    cases es <;> try (simp [chks] at h; done)
    exact .nil
  | .cons d ds, X, E, es, a, c, u, h => by
    cases es <;> try (simp [chks] at h; done)
    rename_i e es
    simp only [chks, Bool.and_eq_true] at h
    have u : usesE (Good p) d ∧ usesEs (Good p) ds := by simpa [usesEs] using u
    obtain ⟨h1, h2⟩ := snd_e p d X E e a c u.1 h.1
    exact .cons h1 h2 (snd_es p ds X E es a c u.2 h.2)
end
end DL
end
section
set_option Elab.async false
set_option linter.all false
set_option maxRecDepth 100000
set_option maxHeartbeats 400000
namespace DL
open PySem PySem.Spec L2

structure CtxS (X : Cx) (E : XK) (k : Nat) : Prop extends Ctx X E k where
  own : PassesOwn (model X.prog X.w) X.A X.env X.xe
  fn : X.fn = fun _ => true
  kind : X.env.scope.kind = .function
abbrev DSj (X : Cx) (E : XK) (st : Stmt) (t : DTS) : Prop := PS X st (tsOf X.kw E t)
abbrev DSsj (X : Cx) (E : XK) (st : List Stmt) (t : DTS) : Prop := PSs X st (tsOf X.kw E t)
structure SOpn where
  parts : Scope → Stmt → Option (List Expr)
  sem : List D → KD → Env → Mem → Prop
  pre : List D → Mem → Prop := fun _ _ => True
def dStm (o : SOpn) (ts : List DT) : DTS := fun k env μ => dArgsP o.pre [] ts env μ (fun xs μ1 => o.sem xs k env μ1) k.ex
def SOpnOk (X : Cx) (E : XK) (o : SOpn) : Prop := ∀ {st : Stmt} {es : List Expr} {ts : List DT}, o.parts X.env.scope st = some es → DLj X E es ts → DSj X E st (dStm o ts)
structure StdS where
  o : SOpn
  ok : ∀ {X : Cx} {E : XK} {k : Nat}, CtxS X E k → SOpnOk X E o
def SGood (p : Pl) (o : SOpn) : Prop := ∀ {X : Cx} {E : XK}, At p X → CtxS X E p.k → SOpnOk X E o

mutual
inductive DS where
  | asg (g : DG) (e : DE) | par (is : List Nat) (es : DEs)
  | aug (sub : Bool) (i : Nat) (e : DE) | unp (gs : DGs) (e : DE)
  | std (s : StdS) (es : DEs) | app (o : SOpn) (es : DEs)
  | expr (e : DE) | if_ (t : DE) (a b : DSs)
  | for_ (it : StdI) (src : DEs) (g : DG) (body : DSs)
  | while_ (t : DE) (body : DSs)
  | ret (e : DE) | retN | pass | brk | cont
inductive DSs where
  | nil | cons (s : DS) (ss : DSs)
end
def setAll : List Nat → List D → Env → Env
  | i :: is, x :: xs, env => setAll is xs (env.set i (some x))
  | _, _, env => env
def dAsg (g : DG) (t : DT) : DTS := fun k env μ => t env μ (fun x μ1 => dG g x env fun env' => k.nx env' μ1) k.ex
def dPar (is : List Nat) (ts : List DT) : DTS := fun k env μ => dArgs ts env μ (fun xs μ1 => k.nx (setAll is xs env) μ1) k.ex
def dAug (sub : Bool) (i : Nat) (t : DT) : DTS := fun k env μ => ∃ n : Int, env[i]? = some (some (.int n)) ∧ t env μ (fun y μ1 => ∃ m : Int, y = .int m ∧ k.nx (env.set i (some (.int (if sub then n - m else n + m)))) μ1) k.ex
def dUnp (gs : DGs) (t : DT) : DTS := fun k env μ => t env μ (fun x μ1 => ∃ xs, look μ1 x = .lst xs ∧ dGs gs xs env fun env' => k.nx env' μ1) k.ex
def dExp (t : DT) : DTS := fun k env μ => t env μ (fun _ μ1 => k.nx env μ1) k.ex
def dIf (t : DT) (a b : DTS) : DTS := fun k env μ => t env μ (fun x μ1 => ∃ c, x = .bl c ∧ if c = true then a k env μ1 else b k env μ1) k.ex
def dRet (t : DT) : DTS := fun k env μ => t env μ k.rt k.ex
def forGo (keep : Mem → Prop) (g : DG) (body : DTS) (k : KD) : List D → Env → Mem → Prop
  | [], env, μ => keep μ ∧ k.nx env μ
  | x :: xs, env, μ => keep μ ∧ dG g x env fun env' => body { k with nx := forGo keep g body k xs, ct := forGo keep g body k xs, bk := k.nx } env' μ
def dFor (it : DTI) (g : DG) (body : DTS) : DTS := fun k env μ => it env μ (fun items keep μ1 => forGo keep g body k items env μ1) k.ex
def dWhile (t : DT) (body : DTS) : DTS := fun k env μ => ∃ P : Nat → Env → Mem → Prop, (∃ n, P n env μ) ∧ ∀ n env μ, P n env μ →
  t env μ (fun x μ1 => ∃ c, x = .bl c ∧ if c = true then body { k with nx := fun e m => ∃ n', n' < n ∧ P n' e m, ct := fun e m => ∃ n', n' < n ∧ P n' e m, bk := k.nx } env μ1 else k.nx env μ1) k.ex
mutual
def denS : DS → DTS
  | .asg g e => dAsg g (den e)
  | .par is es => dPar is (dens es)
  | .aug sub i e => dAug sub i (den e)
  | .unp gs e => dUnp gs (den e)
  | .std s es => dStm s.o (dens es)
  | .app o es => dStm o (dens es)
  | .expr e => dExp (den e)
  | .if_ t a b => dIf (den t) (denSs a) (denSs b)
  | .for_ it src g body => dFor (dItr it.o (dens src)) g (denSs body)
  | .while_ t body => dWhile (den t) (denSs body)
  | .ret e => dRet (den e)
  | .retN => fun k _ μ => k.rt .non μ
  | .pass => fun k env μ => k.nx env μ
  | .brk => fun k env μ => k.bk env μ
  | .cont => fun k env μ => k.ct env μ
def denSs : DSs → DTS
  | .nil => fun k env μ => k.nx env μ
  | .cons s ss => fun k env μ => denS s { k with nx := fun e m => denSs ss k e m } env μ
end
mutual
def usesS (U : Opn → Prop) (V : SOpn → Prop) : DS → Prop
  | .asg _ e => usesE U e
  | .par _ es => usesEs U es
  | .aug _ _ e => usesE U e
  | .unp _ e => usesE U e
  | .std _ es => usesEs U es
  | .app o es => V o ∧ usesEs U es
  | .expr e => usesE U e
  | .if_ t a b => usesE U t ∧ usesSs U V a ∧ usesSs U V b
  | .for_ _ src _ body => usesEs U src ∧ usesSs U V body
  | .while_ t body => usesE U t ∧ usesSs U V body
  | .ret e => usesE U e
  | _ => True
def usesSs (U : Opn → Prop) (V : SOpn → Prop) : DSs → Prop
  | .nil => True
  | .cons s ss => usesS U V s ∧ usesSs U V ss
end

def isComp : Expr → Bool
  | .ListComp .. => true
  | .SetComp .. => true
  | .DictComp .. => true
  | _ => false
def isTup : Expr → Bool
  | .Tuple .. => true
  | _ => false
def notLoc (sc : Scope) : Expr → Bool
  | .Name id _ => !decide (sc.names.lookup id = some .local)
  | _ => true
def parFree (sc : Scope) (ts : List Expr) : Bool := ts.any (notLoc sc)
def asgKind (sc : Scope) : Expr → Expr → Nat
  | .Name y py, .ListComp _ _ scope pos => if sc.names.lookup y = some .local then (if (py.line == pos.line) && !(scope.names.any fun (n, k) => n == y && (k == .local || k == .cell)) then 1 else 2) else (if sc.names.lookup y = some .cell then 0 else 2)
  | .Name _ _, e => if isComp e then 2 else 0
  | .Tuple ts _ _, e => if isTup e && !parFree sc ts then 2 else 0
  | _, _ => 2
def parNames : List Nat → List Expr → List Str → Scope → Bool
  | [i, j], [.Name x px, .Name y py], N, sc => decide (N[i]? = some x) && (decide (N[j]? = some y) && (decide (i ≠ j) && (decide (x ≠ y) && (decide (sc.names.lookup x = some .local) && (decide (sc.names.lookup y = some .local) && py.line == px.line)))))
  | _, _, _, _ => false
def one1 : List Expr → Option Expr
  | [t] => some t
  | _ => none
theorem one1_inv {ts : List Expr} {t : Expr} (h : one1 ts = some t) : ts = [t] := by
  rcases ts with _ | ⟨a, _ | ⟨b, r⟩⟩
  · cases h
  · cases h; rfl
  · cases h
def tupOf : Expr → Option (List Expr)
  | .Tuple es _ _ => some es
  | _ => none
theorem tupOf_inv {e : Expr} {es : List Expr} (h : tupOf e = some es) : ∃ n p, e = .Tuple es n p := by
  cases e <;> first | (cases h; done) | (cases h; exact ⟨_, _, rfl⟩)
def isLc : DE → Bool
  | .lc .. => true
  | _ => false
def parParts (ts : List Expr) (v : Expr) : Option (List Expr × List Expr) := match one1 ts with
  | some t => (match tupOf t, tupOf v with
    | some a, some b => some (a, b)
    | _, _ => none)
  | none => none
theorem parParts_inv {ts : List Expr} {v : Expr} {a b : List Expr} (h : parParts ts v = some (a, b)) : ∃ n p m q, ts = [.Tuple a n p] ∧ v = .Tuple b m q := by
  unfold parParts at h
  split at h
  · rename_i t e
    split at h
    · rename_i a' b' e1 e2
      cases h
      obtain ⟨n, p, rfl⟩ := tupOf_inv e1
      obtain ⟨m, q, rfl⟩ := tupOf_inv e2
      exact ⟨n, p, m, q, one1_inv e, rfl⟩
    · cases h
  · cases h
def augOf (t : Expr) (op : Operator) : Option (Str × Bool) := match t, op with
  | .Name y _, .Add => some (y, false)
  | .Name y _, .Sub => some (y, true)
  | _, _ => none
theorem augOf_inv {t : Expr} {op : Operator} {y : Str} {b : Bool} (h : augOf t op = some (y, b)) : ∃ p, t = .Name y p ∧ ((op = .Add ∧ b = false) ∨ (op = .Sub ∧ b = true)) := by
  unfold augOf at h
  split at h
  · cases h; exact ⟨_, rfl, .inl ⟨rfl, rfl⟩⟩
  · cases h; exact ⟨_, rfl, .inr ⟨rfl, rfl⟩⟩
  · cases h
mutual
def chkS (N : List Str) (sc : Scope) : DS → Stmt → Bool
  | .asg g e, .Assign ts v _ => (match one1 ts with
    | some tg => (decide (asgKind sc tg v = 0) || (decide (asgKind sc tg v = 1) && isLc e)) && (chkG N sc (fun _ => true) none g tg && chk N sc e v)
    | none => false)
  | .par is es, .Assign ts v _ => (match parParts ts v with
    | some (ts, vs) => parNames is ts N sc && (decide (vs.length = 2) && (vs.all notStar && (!(vs.all (foldedForSure 8)) && (!(vs.all (constantsAlone 8)) && chks N sc es vs))))
    | none => false)
  | .aug sub i e, .AugAssign t op v _ => (match augOf t op with
    | some (y, b) => decide (b = sub) && (decide (N[i]? = some y) && (locB sc (fun _ => true) y && chk N sc e v))
    | none => false)
  | .unp gs e, .Assign ts v _ => (match one1 ts with
    | some tg => decide (asgKind sc tg v = 0) && ((match tupOf tg with
      | some es => chkGs N sc (fun _ => true) none gs es
      | none => false) && chk N sc e v)
    | none => false)
  | .std s es, st => match s.o.parts sc st with
    | some xs => chks N sc es xs
    | none => false
  | .app o es, st => match o.parts sc st with
    | some xs => chks N sc es xs
    | none => false
  | .expr e, .Expr v _ => !isComp v && chk N sc e v
  | .if_ t a b, .If c x y _ => chk N sc t c && (chkSs N sc a x && chkSs N sc b y)
  | .for_ it src g body, .For tg iter x orelse _ => orelse.isEmpty && ((match it.o.parts sc tg iter with
      | some xs => chks N sc src xs
      | none => false) && (chkG N sc (fun _ => true) none g tg && chkSs N sc body x))
  | .while_ t body, .While c x orelse _ => orelse.isEmpty && (chk N sc t c && chkSs N sc body x)
  | .ret e, .Return v _ => (match v with
    | some v => chk N sc e v
    | none => false)
  | .retN, .Return v _ => v.isNone
  | .pass, .Pass _ => true
  | .brk, .Break _ => true
  | .cont, .Continue _ => true
  | _, _ => false
def chkSs (N : List Str) (sc : Scope) : DSs → List Stmt → Bool
  | .nil, [] => true
  | .cons s ss, x :: r => chkS N sc s x && chkSs N sc ss r
  | _, _ => false
end
section
variable {X : Cx} {E : XK} {k : Nat}
theorem swaps_plain {e : Expr} {t : Option Expr} {l : Nat} {env : PySem.Env} (h : isComp e = false) : swapsWith e t l env = pure false := by
  cases e <;> first | rfl | cases h
theorem asg_ok {g : DG} {tg e : Expr} {t : DT} {pos : Pos} (he : DEj X E e t) (hg : PG X tg (tgOf X.kw g none)) (hs : swapsWithSole [tg] e pos.line X.env = pure false) (hw : swappedStores [tg] e X.env = pure none) (hn : notStar tg = true) : DSj X E (.Assign [tg] e pos) (dAsg g t) := by
  refine PS.imp (ps_asg he hg hs hw (by rw [assignEach_cons hn]; rfl)) fun D σ H ⟨F, μ, env, k, w, re, x, h, en⟩ => ?_
  refine ⟨F, μ, env, _, k.ex, w, re, x, h, fun F1 v H1 d μ1 l1 w1 r1 h1 => ?_⟩
  exact ⟨F1, μ1, env, d, _, w1, re.le l1, r1, h1, fun env' σ' re' q _ => en.nx F1 σ' H1 env' μ1 l1 w1 re' q⟩
theorem asgLc_ok {y : Str} {py : Pos} {elt : Expr} {gs : List Comprehension} {scope : Scope} {pos spos : Pos} {i : Nat} {t : DT} {te : TE} (hp : PS X (.Assign [.Name y py] (.ListComp elt gs scope pos) spos) (tAsg te (gName i))) (hi : ∀ σ H Q, teOf X.kw E t σ H Q → te σ H Q) :
    DSj X E (.Assign [.Name y py] (.ListComp elt gs scope pos) spos) (dAsg (.name i) t) := by
  refine PS.imp hp fun D σ H ⟨F, μ, env, k, w, re, x, h, en⟩ => ?_
  refine hi σ H _ ⟨F, μ, env, _, k.ex, w, re, x, h, fun F1 v H1 d μ1 l1 w1 r1 h1 => ?_⟩
  exact en.nx F1 _ H1 _ μ1 l1 w1 (RepE.set r1 i (re.le l1)) h1
theorem swapped_par {x y : Str} {px py tp vp : Pos} {n m : Nat} {a b : Expr} {env : PySem.Env} (hk : env.scope.kind = .function) (hx : env.scope.names.lookup x = some .local) (hy : env.scope.names.lookup y = some .local) (hne : x ≠ y) (hl : (py.line == px.line) = true)
    (hs : [a, b].all notStar = true) (hf : [a, b].all (foldedForSure 8) = false) (hc : [a, b].all (constantsAlone 8) = false) :
    swappedStores [.Tuple [.Name x px, .Name y py] n tp] (.Tuple [a, b] m vp) env = pure (some [x, y]) := by
  have hb : env.blockKind = .function := by unfold PySem.Env.blockKind; rw [hk]; rfl
  have kx : env.kindOf x = some .local := hx
  have ky : env.kindOf y = some .local := hy
  have h1 : notStar a = true ∧ notStar b = true := by simpa using hs
  have hl' : py.line = px.line := by simpa using hl
  have hxy : ([x, y].eraseDups).length = 2 := by
    simp [List.eraseDups_cons, hne, Ne.symm hne]
  unfold swappedStores
  simp only [List.length_cons, List.length_nil, hb, hf, hc]
  simp [Expr.pos, kx, ky, hl', hxy]
  intro h
  exfalso
  rcases h with h | h
  · cases a <;> first | (simp at h; done) | (simp [notStar] at h1; done)
  · cases b <;> first | (simp at h; done) | (simp [notStar] at h1; done)
theorem par_ok {i j : Nat} {x y : Str} {px py tp vp pos : Pos} {n m : Nat} {a b : Expr} {ts : List DT} (c : CtxS X E k) (hi : X.N[i]? = some x) (hj : X.N[j]? = some y) (hij : i ≠ j) (hne : x ≠ y) (hx : X.env.scope.names.lookup x = some .local) (hy : X.env.scope.names.lookup y = some .local)
    (hl : (py.line == px.line) = true) (hs : [a, b].all notStar = true) (hf : [a, b].all (foldedForSure 8) = false) (hc : [a, b].all (constantsAlone 8) = false) (l : DLj X E [a, b] ts) :
    DSj X E (.Assign [.Tuple [.Name x px, .Name y py] n tp] (.Tuple [a, b] m vp) pos) (dPar [i, j] ts) := by
  refine PS.imp (ps_par c.calm c.nd hi hj hij hx hy (l.pa hs) (swapped_par c.kind hx hy hne hl hs hf hc)) fun D σ H ⟨F, μ, env, k, w, re, x, h, en⟩ => ?_
  obtain ⟨t, u, rfl, _, _⟩ := l.two
  refine ⟨F, μ, env, fun ds μ1 => ds.length = 2 ∧ k.nx (setAll [i, j] ds env) μ1, k.ex, w, re, x, by simpa [dPar] using h, fun F1 vs H1 ds μ1 l1 w1 r1 ⟨hl, h1⟩ => ?_⟩
  obtain ⟨d1, d2, rfl⟩ : ∃ d1 d2, ds = [d1, d2] := by
    match ds, hl with
    | [d1, d2], _ => exact ⟨d1, d2, rfl⟩
  obtain ⟨v, u, rfl, r2, r3⟩ := r1.two
  exact ⟨v, u, rfl, en.nx F1 _ H1 _ μ1 l1 w1 (RepE.set r3 j (RepE.set r2 i (re.le l1))) h1⟩
theorem aug_ok {i : Nat} {y : Str} {e : Expr} {t : DT} {sub : Bool} {pos py : Pos} {op : Operator} (c : CtxS X E k) (hi : X.N[i]? = some y) (hy : locB X.env.scope (fun _ => true) y = true) (he : DEj X E e t) (ho : (op = .Add ∧ sub = false) ∨ (op = .Sub ∧ sub = true)) :
    DSj X E (.AugAssign (.Name y py) op e pos) (dAug sub i t) := by
  have key : ∀ {f : Int → Int → Int}, PIp X op (ipI f) → (∀ n m, f n m = if sub then n - m else n + m) → DSj X E (.AugAssign (.Name y py) op e pos) (dAug sub i t) := by
    intro f hp hf
    refine PS.imp (ps_aug c.nd hi (loc_of hy).1 he hp (by rw [c.fn]; exact (loc_of hy).2)) fun D σ H ⟨F, μ, env, k, w, re, x, h, en⟩ => ?_
    obtain ⟨n, e1, h⟩ := h
    obtain ⟨v, e2, r⟩ := re.get e1
    obtain rfl := rep_int.mp r
    refine ⟨_, e2, F, μ, env, _, k.ex, w, re, x, h, fun F1 v H1 d μ1 l1 w1 r1 ⟨m, ed, h1⟩ => ?_⟩
    subst ed
    obtain rfl := rep_int.mp r1
    refine ⟨n, m, rfl, rfl, ?_⟩
    rw [hf]
    exact en.nx F1 _ H1 _ μ1 l1 w1 (RepE.set (rep_int.mpr rfl) i (re.le l1)) h1
  rcases ho with ⟨rfl, rfl⟩ | ⟨rfl, rfl⟩
  · exact key ip_add fun n m => rfl
  · exact key ip_sub fun n m => rfl
theorem unp_ok {gs : DGs} {es : List Expr} {n : Nat} {tp : Pos} {e : Expr} {t : DT} {pos : Pos} (c : CtxS X E k) (hg : PGs X es (tgsOf X.kw gs none)) (hs : es.all notStar = true) (hl : ∀ xs env Q, dGs gs xs env Q → xs.length = es.length) (he : DEj X E e t)
    (h1 : swapsWithSole [.Tuple es n tp] e pos.line X.env = pure false) (h2 : swappedStores [.Tuple es n tp] e X.env = pure none) : DSj X E (.Assign [.Tuple es n tp] e pos) (dUnp gs t) := by
  refine PS.imp (ps_asg he (pg_unl (n := es.length) c.calm hg each_len (each_star hs)) h1 h2 (by rw [assignEach_cons (by rfl)]; rfl)) fun D σ H ⟨F, μ, env, k, w, re, x, h, en⟩ => ?_
  refine ⟨F, μ, env, _, k.ex, w, re, x, h, fun F1 v H1 d μ1 l1 w1 r1 ⟨xs, e1, h1⟩ => ?_⟩
  have go : ∀ a vs, v = .ref a → SqL X.K H1 a vs → RepL X.K F1 xs vs → gUnl X.K es.length (tgsOf X.kw gs none) v σ H1 fun σ2 H2 => D.nx σ2 H2 := by
    intro a vs ev sq rl
    refine ⟨a, vs, ev, sq, by rw [← rl.length]; exact hl _ _ _ h1, F1, μ1, env, xs, _, w1, re.le l1, rl, h1, fun env' σ' re' q _ => en.nx F1 σ' H1 env' μ1 l1 w1 re' q⟩
  rcases look_lst_inv e1 with rfl | ⟨a, rfl, q⟩
  · obtain ⟨a, vs, rfl, ha, ra⟩ := rep_lst.mp r1
    exact go a vs rfl (SqL.of (w1.le _ _ ha)) ra
  · rw [rep_ref] at r1
    obtain ⟨o, e2, vs, rfl, r'⟩ := w1.mem a _ q
    exact go a vs r1 (SqL.of e2) r'
theorem exp_ok {e : Expr} {t : DT} {pos : Pos} (he : DEj X E e t) (hc : isComp e = false) : DSj X E (.Expr e pos) (dExp t) := by
  refine PS.imp (ps_expr he (swaps_plain hc)) fun D σ H ⟨F, μ, env, k, w, re, x, h, en⟩ => ?_
  exact ⟨F, μ, env, _, k.ex, w, re, x, h, fun F1 v H1 d μ1 l1 w1 r1 h1 => en.nx F1 σ H1 env μ1 l1 w1 (re.le l1) h1⟩
theorem if_ok {c : Expr} {a b : List Stmt} {t : DT} {u v : DTS} {pos : Pos} (hc : DTj X E c (dTst t)) (ha : DSsj X E a u) (hb : DSsj X E b v) : DSj X E (.If c a b pos) (dIf t u v) := by
  refine PS.imp (ps_if hc ha hb) fun D σ H ⟨F, μ, env, k, w, re, x, h, en⟩ => ?_
  refine ⟨F, μ, env, _, k.ex, w, re, x, h, fun F1 H1 c μ1 l1 w1 h1 => ?_⟩
  cases c with
  | true => exact ⟨F1, μ1, env, k, w1, re.le l1, x.le l1, by simpa using h1, en.le l1⟩
  | false => exact ⟨F1, μ1, env, k, w1, re.le l1, x.le l1, by simpa using h1, en.le l1⟩
theorem ret_ok {e : Expr} {t : DT} {pos : Pos} (he : DEj X E e t) : DSj X E (.Return (some e) pos) (dRet t) := by
  refine PS.imp (ps_ret he) fun D σ H ⟨F, μ, env, k, w, re, x, h, en⟩ => ?_
  exact ⟨F, μ, env, _, k.ex, w, re, x, h, en.rt⟩
theorem retN_ok {pos : Pos} : DSj X E (.Return none pos) (denS .retN) := by
  refine PS.imp ps_retN fun D σ H ⟨F, μ, env, k, w, re, x, h, en⟩ => ?_
  exact en.rt F _ H .non μ (Same.refl _) w (rep_non.mpr rfl) h
theorem nil_ok : DSsj X E [] (denSs .nil) := by
  refine PSs.imp pss_nil fun D σ H ⟨F, μ, env, k, w, re, x, h, en⟩ => ?_
  exact en.nx F σ H env μ (Same.refl _) w re h
theorem cons_ok {st : Stmt} {r : List Stmt} {t u : DTS} (h1 : DSj X E st t) (h2 : DSsj X E r u) : DSsj X E (st :: r) (fun k env μ => t { k with nx := fun e m => u k e m } env μ) := by
  refine PSs.imp (pss_cons h1 h2) fun D σ H ⟨F, μ, env, k, w, re, x, h, en⟩ => ?_
  refine ⟨F, μ, env, { k with nx := fun e m => u k e m }, w, re, x, h, ⟨fun F1 σ1 H1 env1 μ1 l1 w1 re1 h1 => ?_, en.rt, en.bk, en.ct⟩⟩
  exact ⟨F1, μ1, env1, k, w1, re1, x.le l1, h1, en.le l1⟩
theorem doc_ok {x : Str} {j : Nat} {pos pos' : Pos} {r : List Stmt} {u : DTS} (h2 : DSsj X E r u) : DSsj X E (.Expr (.Constant (.str x) j pos') pos :: r) u := by
  refine PSs.imp (pss_cons ps_doc h2) fun D σ H h => h
theorem for_ok {it : DTI} {g : DG} {tg iter : Expr} {body : List Stmt} {u : DTS} {pos : Pos} (c : CtxS X E k) (hi : DIj X E tg iter it) (hg : PG X tg (tgOf X.kw g none)) (hb : DSsj X E body u) (hs : ∀ x, foldedSetIterable iter X.env x = pure x) : DSj X E (.For tg iter body [] pos) (dFor it g u) := by
  refine PS.imp (ps_for c.own c.calm hi hg hb hs) fun D σ H ⟨F, μ, env, k, w, re, x, h, en⟩ => ?_
  refine ⟨F, μ, env, _, k.ex, w, re, x, h, fun F1 H1 items keep μ1 J l1 w1 wk h1 => ?_⟩
  refine ⟨fun i n σ' H' => n = items.length - i ∧ i ≤ items.length ∧ ∃ F' μ' env', Le F1 F' ∧ Wd X.kw F' μ' H' ∧ RepE X.K F' env' σ' ∧ forGo keep g u k (items.drop i) env' μ', ⟨items.length, by simp, Nat.zero_le _, F1, μ1, env, Same.refl _, w1, re.le l1, by simpa using h1⟩, ?_⟩
  rintro i n σ' H' ⟨rfl, hi, F', μ', env', l', w', re', go⟩
  by_cases hlt : i < items.length
  · right
    rw [List.drop_eq_getElem_cons hlt] at go
    obtain ⟨kp, go⟩ := go
    refine ⟨wk.go i F' μ' H' l' w' kp hlt, fun σ2 H2 => ∃ F2 μ2 env2, Le F1 F2 ∧ Wd X.kw F2 μ2 H2 ∧ RepE X.K F2 env2 σ2 ∧ forGo keep g u k (items.drop (i + 1)) env2 μ2, fun σ2 H2 ⟨F2, μ2, env2, a, b, c, d⟩ => ⟨items.length - (i + 1), by omega, rfl, hlt, F2, μ2, env2, a, b, c, d⟩, fun xv H3 y => ?_⟩
    obtain ⟨F3, d, l3, w3, e3, r3⟩ := wk.yld i F' μ' H' xv H3 l' w' kp hlt y
    have ed : d = items[i] := by
      rw [List.getElem?_eq_getElem hlt] at e3; exact (Option.some.inj e3).symm
    subst ed
    refine ⟨F3, μ', env', _, _, w3, re'.le l3, r3, go, fun env2 σ2 re2 qe _ => ?_⟩
    refine ⟨F3, μ', env2, { k with nx := forGo keep g u k (items.drop (i + 1)), ct := forGo keep g u k (items.drop (i + 1)), bk := k.nx }, w3, re2, x.le ((l1.trans l').trans l3), qe, ⟨fun F4 σ4 H4 env4 μ4 l4 w4 re4 h4 => ⟨F4, μ4, env4, (l'.trans l3).trans l4, w4, re4, h4⟩, (en.le ((l1.trans l').trans l3)).rt, fun F4 σ4 H4 env4 μ4 l4 w4 re4 h4 => ?_, fun F4 σ4 H4 env4 μ4 l4 w4 re4 h4 => ⟨F4, μ4, env4, (l'.trans l3).trans l4, w4, re4, h4⟩⟩⟩
    exact en.nx F4 σ4 H4 env4 μ4 (((l1.trans l').trans l3).trans l4) w4 re4 h4
  · left
    have e : i = items.length := by omega
    subst e
    rw [List.drop_length] at go
    obtain ⟨kp, go⟩ := go
    exact ⟨wk.stop F' μ' H' l' w' kp, en.nx F' σ' H' env' μ' (l1.trans l') w' re' go⟩
theorem while_ok {c : Expr} {body : List Stmt} {t : DT} {u : DTS} {pos : Pos} (cx : CtxS X E k) (hc : DTj X E c (dTst t)) (hb : DSsj X E body u) : DSj X E (.While c body [] pos) (dWhile t u) := by
  refine PS.imp (ps_while cx.own hc hb) fun D σ H ⟨F, μ, env, k, w, re, x, ⟨P, ⟨n, hn⟩, step⟩, en⟩ => ?_
  refine ⟨fun n σ' H' => ∃ F' μ' env', Le F F' ∧ Wd X.kw F' μ' H' ∧ RepE X.K F' env' σ' ∧ P n env' μ', ⟨n, F, μ, env, Same.refl _, w, re, hn⟩, fun n σ' H' ⟨F', μ', env', l', w', re', hp⟩ => ?_⟩
  refine ⟨F', μ', env', _, k.ex, w', re', x.le l', step n env' μ' hp, fun F1 H1 c μ1 l1 w1 h1 => ?_⟩
  cases c with
  | true =>
    simp only [if_pos] at h1 ⊢
    refine ⟨fun σ2 H2 => ∃ n', n' < n ∧ ∃ F2 μ2 env2, Le F F2 ∧ Wd X.kw F2 μ2 H2 ∧ RepE X.K F2 env2 σ2 ∧ P n' env2 μ2, fun σ2 H2 h => h, F1, μ1, env', { k with nx := fun e m => ∃ n', n' < n ∧ P n' e m, ct := fun e m => ∃ n', n' < n ∧ P n' e m, bk := k.nx }, w1, re'.le l1, x.le (l'.trans l1), h1, ⟨fun F4 σ4 H4 env4 μ4 l4 w4 re4 ⟨n', hn', h4⟩ => ⟨n', hn', F4, μ4, env4, (l'.trans l1).trans l4, w4, re4, h4⟩, (en.le (l'.trans l1)).rt, fun F4 σ4 H4 env4 μ4 l4 w4 re4 h4 => ?_, fun F4 σ4 H4 env4 μ4 l4 w4 re4 ⟨n', hn', h4⟩ => ⟨n', hn', F4, μ4, env4, (l'.trans l1).trans l4, w4, re4, h4⟩⟩⟩
    exact en.nx F4 σ4 H4 env4 μ4 ((l'.trans l1).trans l4) w4 re4 h4
  | false =>
    simp only [Bool.false_eq_true, if_false] at h1 ⊢
    exact en.nx F1 σ' H1 env' μ1 (l'.trans l1) w1 (re'.le l1) h1

theorem chkS_std {N : List Str} {sc : Scope} {s : StdS} {es : DEs} {e : Stmt} : chkS N sc (.std s es) e = (match s.o.parts sc e with
    | some xs => chks N sc es xs
    | none => false) := by cases e <;> rfl
theorem chkS_app {N : List Str} {sc : Scope} {o : SOpn} {es : DEs} {e : Stmt} : chkS N sc (.app o es) e = (match o.parts sc e with
    | some xs => chks N sc es xs
    | none => false) := by cases e <;> rfl
theorem filterMap_short {α β : Type} {f : α → Option β} : ∀ {xs : List α}, (∃ x ∈ xs, f x = none) → (xs.filterMap f).length < xs.length
  | [], ⟨_, h, _⟩ => nomatch h
  | x :: xs, ⟨y, h, e⟩ => by
    have hl := List.length_filterMap_le f xs
    rw [List.filterMap_cons]
    cases q : f x with
    | none => simp only [List.length_cons]; omega
    | some z =>
      have : y ∈ xs := by
        rcases List.mem_cons.mp h with rfl | h
        · rw [q] at e; cases e
        · exact h
      have := filterMap_short ⟨y, this, e⟩
      simp only [List.length_cons]; omega
theorem swapped_free {es vs : List Expr} {n m : Nat} {pos vp : Pos} {env : PySem.Env} (h : parFree env.scope es = true) : swappedStores [.Tuple es n pos] (.Tuple vs m vp) env = pure none := by
  have hs : ∀ line : Nat, (es.filterMap fun x => match x with
      | .Name id pos => if (env.kindOf id == some .local && pos.line == line) = true then some id else none
      | _ => none).length < es.length := fun line => filterMap_short (by
    obtain ⟨x, hx, q⟩ := List.any_eq_true.mp h
    refine ⟨x, hx, ?_⟩
    cases x <;> try rfl
    rename_i id p
    have q2 : ¬ env.scope.names.lookup id = some .local := by simpa [notLoc] using q
    have : (env.kindOf id == some .local) = false := beq_eq_false_iff_ne.mpr q2
    simp [this])
  unfold swappedStores
  dsimp only
  split
  · rfl
  split
  · rfl
  split
  · rfl
  · rename_i h3
    exfalso
    apply h3
    simp only [Bool.or_eq_true, bne_iff_ne, ne_eq]
    exact .inl (Nat.ne_of_lt (hs _))
theorem asg_sides {tg v : Expr} {l : Nat} (h : asgKind X.env.scope tg v = 0) : swapsWithSole [tg] v l X.env = pure false ∧ swappedStores [tg] v X.env = pure none ∧ notStar tg = true := by
  cases tg <;> try (simp [asgKind] at h; done)
  · rename_i y py
    refine ⟨?_, by rfl, rfl⟩
    show swapsWith v (some (.Name y py)) l X.env = pure false
    cases v <;> try (exact swaps_plain rfl)
    · rename_i elt gs scope pos
      simp only [asgKind] at h
      split at h
      · split at h <;> simp at h
      · rename_i h1
        split at h
        · rename_i h2
          have ky : X.env.kindOf y = some .cell := h2
          have hcl : (NameKind.cell == NameKind.local) = false := by decide
          unfold swapsWith
          simp [ky, hcl]
        · simp at h
    · simp [asgKind, isComp] at h
    · simp [asgKind, isComp] at h
  · rename_i es n pos
    cases hv : isTup v with
    | false =>
      refine ⟨?_, ?_, rfl⟩
      · show swapsWith v (some (.Tuple es n pos)) l X.env = pure false
        cases v <;> first | (exact swaps_plain rfl) | rfl
      · cases v <;> first | rfl | (simp [isTup] at hv)
    | true =>
      have hp : parFree X.env.scope es = true := by
        cases q : parFree X.env.scope es with
        | true => rfl
        | false => simp [asgKind, hv, q] at h
      refine ⟨?_, ?_, rfl⟩
      · show swapsWith v (some (.Tuple es n pos)) l X.env = pure false
        cases v <;> first | (exact swaps_plain rfl) | rfl
      · cases v <;> try (simp [isTup] at hv; done)
        rename_i vs m vp
        exact swapped_free hp
theorem chkS_asgLc {N : List Str} {sc : Scope} {g : DG} {e : DE} {tg v : Expr} {pos : Pos} (hk : asgKind sc tg v = 1) (h : chkG N sc (fun _ => true) none g tg = true) :
    ∃ i y py elt gs scope p, g = .name i ∧ tg = .Name y py ∧ v = .ListComp elt gs scope p ∧ N[i]? = some y ∧ sc.names.lookup y = some .local ∧ (py.line == p.line) = true ∧ (scope.names.any fun (n, k) => n == y && (k == .local || k == .cell)) = false := by
  cases tg <;> try (simp [asgKind] at hk; done)
  · rename_i y py
    cases v <;> try (simp [asgKind, isComp] at hk; done)
    rename_i elt gs scope p
    cases g <;> try (simp [chkG] at h; done)
    rename_i i
    simp only [chkG, Bool.and_eq_true, decide_eq_true_eq] at h
    simp only [asgKind] at hk
    split at hk
    · rename_i h1
      split at hk
      · rename_i h2
        simp only [Bool.and_eq_true, Bool.not_eq_true'] at h2
        exact ⟨i, y, py, elt, gs, scope, p, rfl, rfl, rfl, h.1, h1, h2.1, h2.2⟩
      · simp at hk
    · split at hk <;> simp at hk
  · rename_i es n pos
    simp only [asgKind] at hk
    split at hk <;> simp at hk
end
end DL
end
section
set_option Elab.async false
set_option linter.all false
set_option maxRecDepth 100000
set_option maxHeartbeats 400000
namespace DL
open PySem PySem.Spec L2
theorem asgLc_snd (p : Pl) {X : Cx} {E : XK} {i : Nat} {y : Str} {py pos spos : Pos} {elt : Expr} {gs : List Comprehension} {scope : Scope} {d : DE} (a : At p X) (c : CtxS X E p.k) (u : usesE (Good p) d) (hi : X.N[i]? = some y) (hy : X.env.scope.names.lookup y = some .local) (hl : (py.line == pos.line) = true)
    (ha : (scope.names.any fun (n, k) => n == y && (k == .local || k == .cell)) = false) (h : chk X.N X.env.scope d (.ListComp elt gs scope pos) = true) (hd : isLc d = true) (hv : DEj X E (.ListComp elt gs scope pos) (den d)) : DSj X E (.Assign [.Name y py] (.ListComp elt gs scope pos) spos) (dAsg (.name i) (den d)) := by
  cases d with
  | lc m it src g ifs x own =>
    obtain ⟨x', tg, iter, cs, scope', pos', xs, e, h1, h2, h3, h4, h5, h6, h7⟩ := chk_lc h
    cases e
    have u : usesEs (Good p) src ∧ usesEs (Good p) ifs ∧ usesE (Good p) x := by simpa [usesE] using u
    have hI := it.ok c.toCtx h2 (snd_es p src X E xs a c.toCtx u.1 h3).dl
    refine asgLc_ok (te := tLc (tiOf X.kw E (dItr it.o (dens src))) (tgOf X.kw g (some (own.map (·.2)))) (ttOf X.kw E0 (dTests (dens ifs))) (teOf X.kw E0 (den x)) (own.map (·.2))) ?_ lc_to
    refine ps_setLc c.calm c.nd hi hy (sw_true c.kind hy hl ha) hI (blkOk_by h1) (fun s H C cl fp => ?_) (fun s H C cl fp => ?_) (fun s H C cl fp => ?_) (it.nset _ _ _ _ h2 _)
    · have h4' : chkG (X.blk s H scope (compEnvC scope cl C X.env) fp).N (X.blk s H scope (compEnvC scope cl C X.env) fp).env.scope (fun x => scope.names.lookup x == some .cell) (some (own.map (·.2))) g tg = true := h4
      exact (snd_g (X := X.blk s H scope (compEnvC scope cl C X.env) fp) c.calm c.nd rfl g tg h4').1
    · exact tests_ok (X := X.blk s H scope (compEnvC scope cl C X.env) fp) (snd_es p ifs (X.blk s H scope (compEnvC scope cl C X.env) fp) E0 cs (a.blk ..) (c.toCtx.blk ..) u.2.1 h6) h5
    · exact (snd_e p x (X.blk s H scope (compEnvC scope cl C X.env) fp) E0 elt (a.blk ..) (c.toCtx.blk ..) u.2.2 h7).1
  | _ => simp [isLc] at hd
mutual
theorem snd_s (p : Pl) {X : Cx} {E : XK} (a : At p X) (c : CtxS X E p.k) : ∀ (d : DS) (st : Stmt), usesS (Good p) (SGood p) d → chkS X.N X.env.scope d st = true → DSj X E st (denS d)
  | .asg g e, st, u, h => by
    cases st <;> try (simp [chkS] at h; done)
    rename_i ts v pos
    simp only [chkS] at h
    cases q : one1 ts with
    | none => rw [q] at h; cases h
    | some tg =>
    rw [q] at h
    have := one1_inv q
    subst this
    simp only [Bool.and_eq_true, Bool.or_eq_true, decide_eq_true_eq] at h
    obtain ⟨h1, h2, h3⟩ := h
    have hv := (snd_e p e X E v a c.toCtx (by simpa [usesS] using u) h3).1
    rcases h1 with hk | ⟨hk, hlc⟩
    · obtain ⟨s1, s2, s3⟩ := asg_sides (l := pos.line) hk
      exact asg_ok hv (snd_g c.calm c.nd c.fn g tg h2).1 s1 s2 s3
    · obtain ⟨i, y, py, elt, gs, scope, q, rfl, rfl, rfl, h5, h6, h7, h8⟩ := chkS_asgLc (e := e) (pos := pos) hk h2
      exact asgLc_snd p a c (by simpa [usesS] using u) h5 h6 h7 h8 h3 hlc hv
  | .par is es, st, u, h => by
    cases st <;> try (simp [chkS] at h; done)
    rename_i ts v pos
    simp only [chkS] at h
    cases q : parParts ts v with
    | none => rw [q] at h; cases h
    | some ab =>
    obtain ⟨tl, vl⟩ := ab
    rw [q] at h
    obtain ⟨tn, tp, vn, vp, rfl, rfl⟩ := parParts_inv q
    simp only [Bool.and_eq_true, decide_eq_true_eq, Bool.not_eq_true'] at h
    obtain ⟨h1, h2, h3, h4, h5, h6⟩ := h
    obtain ⟨e1, e2, rfl⟩ : ∃ e1 e2, vl = [e1, e2] := by
      match vl, h2 with
      | [e1, e2], _ => exact ⟨e1, e2, rfl⟩
    unfold parNames at h1
    split at h1
    · rename_i i j x px y py
      simp only [Bool.and_eq_true, decide_eq_true_eq] at h1
      obtain ⟨q1, q2, q3, q4, q5, q6, q7⟩ := h1
      exact par_ok c q1 q2 q3 q4 q5 q6 q7 h3 h4 h5 (snd_es p es X E _ a c.toCtx (by simpa [usesS] using u) h6).dl
    · cases h1
  | .aug sub i e, st, u, h => by
    cases st <;> try (simp [chkS] at h; done)
    rename_i tg op v pos
    simp only [chkS] at h
    split at h
    · rename_i y b q
      simp only [Bool.and_eq_true, decide_eq_true_eq] at h
      obtain ⟨rfl, h2, h3, h4⟩ := h
      obtain ⟨py, rfl, ho⟩ := augOf_inv q
      exact aug_ok c h2 h3 (snd_e p e X E v a c.toCtx (by simpa [usesS] using u) h4).1 ho
    · cases h
  | .unp gs e, st, u, h => by
    cases st <;> try (simp [chkS] at h; done)
    rename_i ts v pos
    simp only [chkS] at h
    cases q : one1 ts with
    | none => rw [q] at h; cases h
    | some tg =>
    rw [q] at h
    have := one1_inv q
    subst this
    simp only [Bool.and_eq_true, decide_eq_true_eq] at h
    obtain ⟨hk, h2, h3⟩ := h
    cases q2 : tupOf tg with
    | none => rw [q2] at h2; cases h2
    | some es =>
    rw [q2] at h2
    obtain ⟨n, tp, rfl⟩ := tupOf_inv q2
    obtain ⟨s1, s2, s3⟩ := asg_sides (l := pos.line) hk
    obtain ⟨p1, p2⟩ := snd_gs c.calm c.nd c.fn gs es h2
    exact unp_ok c p1 p2 (fun xs env Q hd => dGs_len gs es _ _ _ _ _ _ _ h2 hd) (snd_e p e X E v a c.toCtx (by simpa [usesS] using u) h3).1 s1 s2
  | .std s es, st, u, h => by
    rw [chkS_std] at h
    cases q : s.o.parts X.env.scope st with
    | none => rw [q] at h; cases h
    | some xs =>
      rw [q] at h
      exact s.ok c q (snd_es p es X E xs a c.toCtx (by simpa [usesS] using u) h).dl
  | .app o es, st, u, h => by
    rw [chkS_app] at h
    have u : SGood p o ∧ usesEs (Good p) es := by simpa [usesS] using u
    cases q : o.parts X.env.scope st with
    | none => rw [q] at h; cases h
    | some xs =>
      rw [q] at h
      exact u.1 a c q (snd_es p es X E xs a c.toCtx u.2 h).dl
  | .expr e, st, u, h => by
    cases st <;> try (simp [chkS] at h; done)
    simp only [chkS, Bool.and_eq_true, Bool.not_eq_true'] at h
    exact exp_ok (snd_e p e X E _ a c.toCtx (by simpa [usesS] using u) h.2).1 h.1
  | .if_ t x y, st, u, h => by
    cases st <;> try (simp [chkS] at h; done)
    simp only [chkS, Bool.and_eq_true] at h
    have u : usesE (Good p) t ∧ usesSs (Good p) (SGood p) x ∧ usesSs (Good p) (SGood p) y := by simpa [usesS] using u
    exact if_ok (snd_e p t X E _ a c.toCtx u.1 h.1).2 (snd_ss p a c x _ u.2.1 h.2.1) (snd_ss p a c y _ u.2.2 h.2.2)
  | .for_ it src g body, st, u, h => by
    cases st <;> try (simp [chkS] at h; done)
    rename_i tg iter x orelse pos
    simp only [chkS, Bool.and_eq_true] at h
    have u : usesEs (Good p) src ∧ usesSs (Good p) (SGood p) body := by simpa [usesS] using u
    obtain ⟨h0, h1, h2, h3⟩ := h
    have := List.isEmpty_iff.mp h0
    subst this
    cases q : it.o.parts X.env.scope tg iter with
    | none => rw [q] at h1; cases h1
    | some xs =>
      rw [q] at h1
      exact for_ok c (it.ok c.toCtx q (snd_es p src X E xs a c.toCtx u.1 h1).dl) (snd_g c.calm c.nd c.fn g tg h2).1 (snd_ss p a c body _ u.2 h3) (it.nset _ _ _ _ q _)
  | .while_ t body, st, u, h => by
    cases st <;> try (simp [chkS] at h; done)
    rename_i cnd x orelse pos
    simp only [chkS, Bool.and_eq_true] at h
    have u : usesE (Good p) t ∧ usesSs (Good p) (SGood p) body := by simpa [usesS] using u
    have := List.isEmpty_iff.mp h.1
    subst this
    exact while_ok c (snd_e p t X E _ a c.toCtx u.1 h.2.1).2 (snd_ss p a c body _ u.2 h.2.2)
  | .ret e, st, u, h => by
    cases st <;> try (simp [chkS] at h; done)
    rename_i v pos
    cases v <;> try (simp [chkS] at h; done)
    simp only [chkS] at h
    exact ret_ok (snd_e p e X E _ a c.toCtx (by simpa [usesS] using u) h).1
  | .retN, st, u, h => by
    cases st <;> try (simp [chkS] at h; done)
    rename_i v pos
    cases v <;> try (simp [chkS] at h; done)
    exact retN_ok
  | .pass, st, u, h => by
    cases st <;> try (simp [chkS] at h; done)
    exact PS.imp ps_pass fun D σ H ⟨F, μ, env, k, w, re, x, h, en⟩ => en.nx F σ H env μ (Same.refl _) w re h
  | .brk, st, u, h => by
    cases st <;> try (simp [chkS] at h; done)
    exact PS.imp ps_break fun D σ H ⟨F, μ, env, k, w, re, x, h, en⟩ => en.bk F σ H env μ (Same.refl _) w re h
  | .cont, st, u, h => by
    cases st <;> try (simp [chkS] at h; done)
    exact PS.imp ps_continue fun D σ H ⟨F, μ, env, k, w, re, x, h, en⟩ => en.ct F σ H env μ (Same.refl _) w re h
theorem snd_ss (p : Pl) {X : Cx} {E : XK} (a : At p X) (c : CtxS X E p.k) : ∀ (ds : DSs) (sts : List Stmt), usesSs (Good p) (SGood p) ds → chkSs X.N X.env.scope ds sts = true → DSsj X E sts (denSs ds)
  | .nil, sts, u, h => by
    cases sts <;> try (simp [chkSs] at h; done)
    exact nil_ok
  | .cons d ds, sts, u, h => by
    cases sts <;> try (simp [chkSs] at h; done)
    rename_i st sts
    simp only [chkSs, Bool.and_eq_true] at h
    have u : usesS (Good p) (SGood p) d ∧ usesSs (Good p) (SGood p) ds := by simpa [usesSs] using u
    exact cons_ok (t := denS d) (u := denSs ds) (snd_s p a c d st u.1 h.1) (snd_ss p a c ds sts u.2 h.2)
end
end DL
end
section
set_option Elab.async false
set_option linter.all false
set_option maxRecDepth 100000
set_option maxHeartbeats 400000
namespace DL
open PySem PySem.Spec L2

abbrev DSpec := Sem1
def spD (K : KW) (n : Nat) (S : DSpec) : Sp := fun vs H Q E => vs.length = n ∧ ∃ F μ ds Qd Ex, Wd K F μ H ∧ RepL K F ds vs ∧ S ds μ Qd Ex ∧ Post K F Qd Q ∧ XOk K F Ex E
abbrev FnD (p : Pl) (k : Nat) (f : Addr) (fd : FuncData) (ps : List Str) (S : DSpec) : Prop := FnOk p.P p.w p.K p.mg p.base (L2.CX p.P p.w) k f fd ps (spD p.kw ps.length S)
def ends (Q : QD) : QD := fun d μ => ∃ μ', Mem.Sub μ' μ ∧ Q d μ'
theorem fn_ok {p : Pl} {x qual : Str} {params : Arguments} {body : List Stmt} {scope : Scope} {dvs : List V} {kws : List (Str × V)} {f : Addr} {fd : FuncData} {N ps : List Str} {S : DSpec} (b : DSs)
    (F : FunD p.K x qual params body scope dvs kws f fd) (sc : FnScope N ps scope) (free : ∀ x, x ∈ bltNames → p.mg x = none) (hc : chkSs N scope b body = true) (u : usesSs (Good p) (SGood p) b)
    (vc : ∀ ds μ Q Ex, ds.length = ps.length → S ds μ Q Ex → denSs b { nx := fun _ μ' => ends Q .non μ', rt := ends Q, ex := Ex } (ds.map some ++ List.replicate (N.length - ds.length) none) μ) : FnD p (p.k + 1) f fd ps S := by
  refine F.ok (CX := L2.CX p.P p.w) sc (fun vs H Q E h => h.1) fun cdv A outer s H vs Q E hr h => ?_
  obtain ⟨hl, F, μ, ds, Qd, Ex, w, r, hS, po, xo⟩ := h
  have hl2 := r.length
  have cx : CtxS (cxOf (L2.CX p.P p.w) p.P p.w p.K p.mg p.base N qual scope f cdv A outer s H E) E p.k :=
    ⟨⟨rfl, sc.nd, hr, takes_of rfl rfl rfl rfl, free⟩, passes_of rfl, rfl, sc.kind⟩
  refine ⟨_, snd_ss p ⟨rfl, rfl, rfl, rfl, rfl⟩ cx b body u hc, ?_⟩
  refine ⟨F, μ, _, { nx := fun _ μ' => ends Qd .non μ', rt := ends Qd, ex := Ex }, w, ?_, xo, vc ds μ Qd Ex (hl2.trans hl) hS, ⟨fun F' σ' H' env' μ' l w' _ ⟨μ2, hs, h⟩ => ?_, fun F' v H' d μ' l w' rd ⟨μ2, hs, h⟩ => ?_, fun _ _ _ _ _ _ _ _ h => h.elim, fun _ _ _ _ _ _ _ _ h => h.elim⟩⟩
  · have := RepE.start r (N.length - ds.length)
    unfold L2.start
    rw [← hl2]
    exact this
  · exact po F' .non H' .non μ2 l (w'.sub hs) (rep_non.mpr rfl) h
  · exact po F' v H' d μ2 l (w'.sub hs) rd h

def pFn (x : Str) (n : Nat) (sc : Scope) : Expr → Option (List Expr)
  | .Call (.Name y _) es [] _ => if decide (y = x) && (decide (sc.names.lookup x = some .globalImplicit) && (es.all notStar && decide (es.length = n))) then some es else none
  | _ => none
theorem pFn_inv {x : Str} {n : Nat} {sc : Scope} {e : Expr} {es : List Expr} (h : pFn x n sc e = some es) : ∃ p pos, e = .Call (.Name x p) es [] pos ∧ sc.names.lookup x = some .globalImplicit ∧ es.all notStar = true ∧ es.length = n := by
  unfold pFn at h
  split at h
  · rename_i y p es' pos
    split at h
    · rename_i q
      simp only [Bool.and_eq_true, decide_eq_true_eq] at q
      obtain ⟨q1, q2, q3, q4⟩ := q
      subst q1
      cases h
      exact ⟨p, pos, rfl, q2, q3, q4⟩
    · cases h
  · cases h
theorem dArgs_congr : ∀ (ts : List DT) {env : Env} {μ : Mem} {Q Q' : List D → Mem → Prop} {Ex : QX}, (∀ ds μ, ds.length = ts.length → (Q ds μ ↔ Q' ds μ)) → dArgs ts env μ Q Ex = dArgs ts env μ Q' Ex
  | [], env, μ, Q, Q', Ex, h => propext (h [] μ rfl)
  | t :: ts, env, μ, Q, Q', Ex, h => by
    rw [dArgs_cons, dArgs_cons]
    congr 1
    funext x μ1
    exact dArgs_congr ts fun ds μ' hl => h (x :: ds) μ' (by simp [hl])
theorem dArgs_len {ts : List DT} {env : Env} {μ : Mem} {Q : List D → Mem → Prop} {Ex : QX} (h : dArgs ts env μ Q Ex) : dArgs ts env μ (fun ds μ' => ds.length = ts.length ∧ Q ds μ') Ex := by
  rw [dArgs_congr ts (Q' := Q) fun ds μ' hl => ⟨fun h => h.2, fun h => ⟨hl, h⟩⟩]
  exact h
def oFn (x : Str) (n : Nat) (dd : List D) (S : DSpec) : Opn := ⟨pFn x n, fun ds μ Q Ex => S (ds ++ dd) μ Q Ex, fun _ _ => True⟩
theorem good_fn {p : Pl} {j : Nat} {f : Addr} {fd : FuncData} {ps : List Str} {S : DSpec} {x : Str} {n : Nat} {dd : List D} {dvs : List V} {dus : List Value} (F : FnD p j f fd ps S) (hj : j ≤ p.k) (hm : p.mg x = some (.ref f)) (hk : PySem.W.keepIn p.K (.ref f) = true) (hb : Binds p.K fd ps dus) (hd : Vals dvs dus) (hr : ∀ F, RepL p.K F dd dvs)
    (hn : n + dd.length = ps.length) (hdb : (x == ("__debug__" : Str)) = false) : Good p (oFn x n dd S) := by
  intro X E a c
  have akw := a.kw
  obtain ⟨aP, aw, aK, amg, ab⟩ := a
  have F := F.mono hj
  unfold FnD at F
  rw [← akw, ← aP, ← aw, ← aK, ← amg, ← ab] at F
  rw [← aK] at hk hb hr
  rw [← amg] at hm
  refine OpnOk.plain (fun e es h => ?_) fun {e es ts} h l => ?_
  · obtain ⟨q, pos, rfl, _⟩ := pFn_inv h; rfl
  · obtain ⟨q, pos, rfl, hg, hs, hl⟩ := pFn_inv h
    have key : ∀ (σ : L2.St) (H : Hp) (Q : VK), teOf X.kw E (dApp (oFn x n dd S) ts) σ H Q → tCall (spD X.kw ps.length S) dvs E (taOf X.kw E (dArgs ts)) σ H Q := by
      intro σ H Q ⟨F0, μ, env, Qd, Ex, w, re, xo, h, po⟩
      refine ⟨F0, μ, env, _, Ex, w, re, xo, dArgs_len (dApp_args rfl h), fun F1 vs H1 ds μ1 l1 w1 r1 ⟨hl1, h1⟩ => ?_⟩
      have rr := r1.app (hr F1)
      refine ⟨?_, F1, μ1, ds ++ dd, Qd, Ex, w1, rr, h1, po.le l1, xo.le l1⟩
      rw [← rr.length, List.length_append, hl1, ← l.length, hl, hn]
    cases es with
    | nil =>
      cases l
      refine PE.imp (pe_call0 F c.room hg hm hk hb hd c.pass hdb) fun σ H Q h => ?_
      obtain ⟨F0, μ, env, Qd, Ex, w, re, xo, h, po⟩ := h
      have h1 : S ([] ++ dd) μ Qd Ex := h
      refine ⟨?_, F0, μ, dd, Qd, Ex, w, hr F0, h1, po, xo⟩
      rw [List.nil_append, ← (hr F0).length]
      have : n = 0 := by simpa using hl.symm
      omega
    | cons e es =>
      have h' : notStar e = true ∧ es.all notStar = true := by simpa using hs
      exact PE.imp (pe_call F c.room hg hm hk hb hd c.pass (l.pa hs) hdb (starEach_cons h'.1) (noStar_any h'.2)) key

def pOwn (m : Str) (n : Nat) : Expr → Option (List Expr)
  | .Call (.Attribute o m' ap) es [] cp => if decide (m' = m) && (notSuper o && (es.all notStar && (decide (es.length = n) && (decide (es.length < 29) && ap.endLine == cp.line)))) then some (o :: es) else none
  | _ => none
theorem pOwn_inv {m : Str} {n : Nat} {e : Expr} {xs : List Expr} (h : pOwn m n e = some xs) : ∃ o ap es cp, e = .Call (.Attribute o m ap) es [] cp ∧ xs = o :: es ∧ notSuper o = true ∧ es.all notStar = true ∧ es.length = n ∧ es.length < 29 ∧ (ap.endLine == cp.line) = true := by
  unfold pOwn at h
  split at h
  · rename_i o m' ap es cp
    split at h
    · rename_i q
      simp only [Bool.and_eq_true, decide_eq_true_eq] at q
      obtain ⟨q1, q2, q3, q4, q5, q6⟩ := q
      subst q1
      cases h
      exact ⟨o, ap, es, cp, rfl, rfl, q2, q3, q4, q5, q6⟩
    · cases h
  · cases h
def isIns (c m : Str) : D → Mem → Prop := fun x μ => match x with
  | .obj c' fs => c' = c ∧ fs.lookup m = none
  | .ref a => ∃ fs, μ a = some (.ins c fs) ∧ fs.lookup m = none
  | _ => False
theorem isIns_ok {K : KW} {F : Hp} {μ : Mem} {H : Hp} (w : Wd K F μ H) {x : D} {v : V} {c m : Str} (r : Rep K F x v) (h : isIns c m x μ) : ∃ a dx fs, v = .ref a ∧ H a = some (.ins (He.ga K c) dx fs) ∧ fs.lookup m = none := by
  cases x <;> try exact h.elim
  · obtain ⟨rfl, hl⟩ := h
    obtain ⟨a, dx, gs, rfl, e, rf⟩ := rep_obj.mp r
    exact ⟨a, dx, gs, rfl, w.le _ _ e, (rf.look (f := m)).2.1 hl⟩
  · obtain ⟨fs, e, hl⟩ := h
    rw [rep_ref] at r; subst r
    obtain ⟨o, e1, dx, gs, rfl, rf⟩ := w.mem _ _ e
    exact ⟨_, dx, gs, rfl, e1, (rf.look (f := m)).2.1 hl⟩
def oMeth (c m : Str) (n : Nat) (dd : List D) (S : DSpec) : Opn := ⟨fun _ => pOwn m n, fun ds μ Q Ex => S (ds ++ dd) μ Q Ex, preOne (isIns c m)⟩
theorem eval_meth {o : Expr} {m : Str} {ap cp : Pos} {es : List Expr} {env : PySem.Env} (h : notSuper o = true) (hs : es.all notStar = true) (hn : es.length < 29) (hl : (ap.endLine == cp.line) = true) :
    eval (.Call (.Attribute o m ap) es [] cp) env = (do
      let ov ← eval o env
      standAt ap.atName
      let (f, first) ← holding [ov] (getMethod ov m (do return (← importBound o env).getD true))
      callWith cp f first (backTo cp (starEach es env)) (backToKw cp (keywordEach [] env))) := by
  have hf : methodCallForm (es.length + ([] : List Keyword).length) (backTo cp (starEach es env)) (backToKw cp (keywordEach [] env)) = true := by
    unfold methodCallForm
    rw [noStar_all hs]
    simp [keywordEach, backToKw]
    omega
  have hp : methodCallPos true o env ap cp = pure cp := by
    unfold methodCallPos
    simp only [Bool.not_true, Bool.false_or, hl, if_true]
  show (do
    let ov ← attributeBase o m env (eval o env)
    standAt ap.atName
    methodCall o m ap cp env ov (es.length + ([] : List Keyword).length) (backTo cp (starEach es env)) (backToKw cp (keywordEach [] env))) = _
  rw [base_of h]
  unfold methodCall
  simp only [hf, hp, calleeOf, if_true, pure_bind]
theorem good_meth {p : Pl} {j : Nat} {f : Addr} {fd : FuncData} {ps : List Str} {S : DSpec} {cn m : Str} {n : Nat} {dd : List D} {dvs : List V} {dus : List Value} (F : FnD p j f fd ps S) (hj : j ≤ p.k) (cl : Cls p.K (He.ga p.K cn)) (hm : Meth p.K (He.ga p.K cn) m f) (hb : Binds p.K fd ps dus) (hd : Vals dvs dus) (hr : ∀ F, RepL p.K F dd dvs)
    (hn : 1 + n + dd.length = ps.length) : Good p (oMeth cn m n dd S) := by
  intro X E a c
  have akw := a.kw
  obtain ⟨aP, aw, aK, amg, ab⟩ := a
  have F := F.mono hj
  unfold FnD at F
  rw [← akw, ← aP, ← aw, ← aK, ← amg, ← ab] at F
  rw [← aK] at hb hr cl hm
  refine OpnOk.plain (fun e es h => ?_) fun {e es ts} h l => ?_
  · obtain ⟨o, ap, es, cp, rfl, _⟩ := pOwn_inv h; rfl
  · obtain ⟨o, ap, es, cp, rfl, rfl, h1, h2, h3, h4, h5⟩ := pOwn_inv h
    cases l with
    | cons ho hrr =>
    rename_i t ts
    have key : ∀ (σ : L2.St) (H : Hp) (Q : VK), teOf X.kw E (dApp (oMeth cn m n dd S) (t :: ts)) σ H Q → tMeth (He.ga X.K cn) m (spD X.kw ps.length S) dvs E (teOf X.kw E t) (taOf X.kw E (dArgs ts)) σ H Q := by
      intro σ H Q ⟨F0, μ, env, Qd, Ex, w, re, xo, h, po⟩
      refine ⟨F0, μ, env, _, Ex, w, re, xo, dApp_one rfl h, fun F1 v H1 d μ1 l1 w1 r1 h1 => ?_⟩
      obtain ⟨a, dx, fs, rfl, e1, e2⟩ := isIns_ok w1 r1 h1.1
      refine ⟨a, dx, fs, rfl, e1, e2, F1, μ1, env, _, Ex, w1, re.le l1, xo.le l1, dArgs_len h1.2, fun F2 vs H2 ds μ2 l2 w2 r2 ⟨hl2, h2⟩ => ?_⟩
      have rr := (RepL.mk (Rep.le l2 _ _ r1) r2).app (hr F2)
      refine ⟨?_, F2, μ2, (d :: ds) ++ dd, Qd, Ex, w2, rr, h2, po.le (l1.trans l2), xo.le (l1.trans l2)⟩
      have e3 := rr.length
      rw [show (V.ref a :: (vs ++ dvs)) = (V.ref a :: vs) ++ dvs from rfl, ← e3, List.length_append, List.length_cons, hl2, ← hrr.length, h3, ← hn]
      omega
    cases es with
    | nil =>
      cases hrr
      refine PE.imp (pe_meth0 ho cl hm F c.room hb hd c.pass (eval_meth h1 h2 h4 h5)) fun σ H Q h => ?_
      obtain ⟨F0, μ, env, Qd, Ex, w, re, xo, h, po⟩ := h
      refine ⟨F0, μ, env, _, Ex, w, re, xo, dApp_one rfl h, fun F1 v H1 d μ1 l1 w1 r1 h1 => ?_⟩
      obtain ⟨a, dx, fs, rfl, e1, e2⟩ := isIns_ok w1 r1 h1.1
      have h2 : S ([d] ++ dd) μ1 Qd Ex := h1.2
      have rr := (RepL.one r1).app (hr F1)
      refine ⟨a, dx, fs, rfl, e1, e2, ?_, F1, μ1, [d] ++ dd, Qd, Ex, w1, rr, h2, po.le l1, xo.le l1⟩
      have e3 := rr.length
      have : n = 0 := by simpa using h3.symm
      rw [show (V.ref a :: ([] ++ dvs)) = [V.ref a] ++ dvs from rfl, ← e3, List.length_append, ← hn]
      simp; omega
    | cons e es =>
      have h' : notStar e = true ∧ es.all notStar = true := by simpa using h2
      exact PE.imp (pe_meth ho cl hm F c.room hb hd c.pass (hrr.pa h2) (starEach_cons h'.1) (noStar_any h'.2) (eval_meth h1 h2 h4 h5)) key
end DL
end
section
set_option Elab.async false
set_option linter.all false
set_option maxRecDepth 100000
set_option maxHeartbeats 400000
namespace DL
open PySem PySem.Spec L2

section
variable {K : KW} {F : Hp} {μ : Mem} {H : Hp}
theorem Wd.junk (w : Wd K F μ H) {p : Addr} (h : H p = none) (o : HO) : Wd K F μ (upd H p o) := by
  refine ⟨fun b u e => ?_, w.sep, fun a m e => ?_⟩
  · rw [upd_ne (ne_of_none e (w.freeF h))]; exact w.le _ _ e
  · have z : a ≠ p := fun z => by rw [z, w.freeM h] at e; cases e
    obtain ⟨u, q, r⟩ := w.mem a m e
    exact ⟨u, by rw [upd_ne z]; exact q, r⟩
theorem RepO.ofI {c : Str} {fs : List (Str × D)} {a dx : Addr} {gs : List (Str × V)} (r : RepF K F fs gs) : RepO K F a (.ins c fs) (.ins (He.ga K c) dx gs) := ⟨dx, gs, rfl, r⟩
end
def oMake (c : Str) (n : Nat) (dd : List D) (S : DSpec) : Opn := ⟨pFn c n, fun ds μ Q Ex => ∀ x, μ x = none → S (.ref x :: (ds ++ dd)) (μ.set x (.ins c [])) (fun v μ' => v = .non ∧ Q (.ref x) μ') Ex, fun _ _ => True⟩
def oMakeF (c : Str) (n : Nat) (dd : List D) (S : DSpec) : Opn := ⟨pFn c n, fun ds μ Q Ex => ∀ x, μ x = none → S (.ref x :: (ds ++ dd)) (μ.set x (.ins c [])) (fun v μ' => v = .non ∧ ∃ fs μ2, μ' x = some (.ins c fs) ∧ Mem.Sub μ2 μ' ∧ μ2 x = none ∧ Q (.obj c fs) μ2) Ex, fun _ _ => True⟩
theorem make_core {p : Pl} {j : Nat} {f : Addr} {fd : FuncData} {ps : List Str} {S : DSpec} {c : Str} {n : Nat} {dd : List D} {dvs : List V} {dus : List Value} {o : Opn} {fin : QD → Addr → QD} (F : FnD p j f fd ps S) (hj : j + 1 ≤ p.k) (M : Mk p.K (He.ga p.K c) f) (hm : p.mg c = some (.ref (He.ga p.K c))) (hb : Binds p.K fd ps dus) (hd : Vals dvs dus) (hr : ∀ F, RepL p.K F dd dvs)
    (hn : 1 + n + dd.length = ps.length) (hdb : (c == ("__debug__" : Str)) = false) (ho : o = ⟨pFn c n, fun ds μ Q Ex => ∀ x, μ x = none → S (.ref x :: (ds ++ dd)) (μ.set x (.ins c [])) (fun v μ' => v = .non ∧ fin Q x .non μ') Ex, fun _ _ => True⟩)
    (hfin : ∀ {F : Hp} {Qd : QD} {Q : VK} {x : Addr} {F' : Hp} {μ' : Mem} {H' : Hp}, Post p.kw F Qd Q → Le F F' → Wd p.kw F' μ' H' → fin Qd x .non μ' → Q (.ref x) H') : Good p o := by
  subst ho
  intro X E a cx
  have akw := a.kw
  obtain ⟨aP, aw, aK, amg, ab⟩ := a
  unfold FnD at F
  rw [← akw, ← aP, ← aw, ← aK, ← amg, ← ab] at F
  rw [← aK] at hb hr M hm
  rw [← akw] at hfin
  rw [← amg] at hm
  have hroom : Room (j + 1) X.A := cx.room.mono hj
  refine OpnOk.plain (fun e es h => ?_) fun {e es ts} h l => ?_
  · obtain ⟨q, pos, rfl, _⟩ := pFn_inv h; rfl
  · obtain ⟨q, pos, rfl, hg, hs, hl⟩ := pFn_inv h
    have step : ∀ {F0 F1 : Hp} {μ1 : Mem} {H1 : Hp} {ds : List D} {vs : List V} {Qd : QD} {Ex : QX} {Q : VK}, Le F0 F1 → Wd X.kw F1 μ1 H1 → RepL X.K F1 ds vs → ds.length = n → XOk X.kw F0 Ex E → Post X.kw F0 Qd Q →
        (∀ x, μ1 x = none → S (.ref x :: (ds ++ dd)) (μ1.set x (.ins c [])) (fun v μ' => v = .non ∧ fin Qd x .non μ') Ex) →
        ∀ x dx, H1 x = none → H1 dx = none → dx ≠ x → spD X.kw ps.length S (.ref x :: (vs ++ dvs)) (upd (upd H1 dx (.own x)) x (.ins (He.ga X.K c) dx [])) (fun v H2 => v = .non ∧ Q (.ref x) H2) E := by
      intro F0 F1 μ1 H1 ds vs Qd Ex Q l1 w1 r1 hl1 xo po h x dx hx hdx ne
      have w2 := w1.junk hdx (.own x)
      have hx2 : upd H1 dx (.own x) x = none := by rw [upd_ne (Ne.symm ne)]; exact hx
      have w3 := w2.newM hx2 (m := .ins c []) (o := .ins (He.ga X.K c) dx []) (.ofI (repF_nil.mpr rfl))
      have rr := RepL.mk (d := .ref x) (v := .ref x) (rep_ref.mpr rfl) (r1.app (hr F1))
      refine ⟨?_, F1, _, _, _, Ex, w3, rr, h x (w1.freeM hx), fun F' v H' d μ' l w' rd ⟨e, hq⟩ => ?_, xo.le l1⟩
      · rw [← rr.length, List.length_cons, List.length_append, hl1, ← hn]; omega
      · subst e
        rw [rep_non] at rd
        exact ⟨rd, hfin po (l1.trans l) w' hq⟩
    cases es with
    | nil =>
      cases l
      refine PE.imp (pe_make0 M F hroom hg hm hb hd cx.pass hdb) fun σ H Q h => ?_
      obtain ⟨F0, μ, env, Qd, Ex, w, re, xo, h, po⟩ := h
      intro x dx hx hdx ne
      have hn0 : n = 0 := by simpa using hl.symm
      exact step (Same.refl _) w RepL.nil hn0.symm xo po h x dx hx hdx ne
    | cons e es =>
      have h' : notStar e = true ∧ es.all notStar = true := by simpa using hs
      refine PE.imp (pe_make M F hroom hg hm hb hd cx.pass (l.pa hs) hdb (starEach_cons h'.1) (noStar_any h'.2)) fun σ H Q h => ?_
      obtain ⟨F0, μ, env, Qd, Ex, w, re, xo, h, po⟩ := h
      refine ⟨F0, μ, env, _, Ex, w, re, xo, dArgs_len (dApp_args rfl h), fun F1 vs H1 ds μ1 l1 w1 r1 ⟨hl1, h1⟩ => ?_⟩
      exact step l1 w1 r1 (hl1.trans (l.length.symm.trans hl)) xo po h1
section
variable {p : Pl} {j : Nat} {f : Addr} {fd : FuncData} {ps : List Str} {S : DSpec} {c : Str} {n : Nat} {dd : List D} {dvs : List V} {dus : List Value}
theorem good_make (F : FnD p j f fd ps S) (hj : j + 1 ≤ p.k) (M : Mk p.K (He.ga p.K c) f) (hm : p.mg c = some (.ref (He.ga p.K c))) (hb : Binds p.K fd ps dus) (hd : Vals dvs dus) (hr : ∀ F, RepL p.K F dd dvs) (hn : 1 + n + dd.length = ps.length) (hdb : (c == ("__debug__" : Str)) = false) : Good p (oMake c n dd S) :=
  make_core (fin := fun Q x _ μ => Q (.ref x) μ) F hj M hm hb hd hr hn hdb rfl fun po l w h => po _ _ _ _ _ l w (rep_ref.mpr rfl) h
theorem good_makeF (F : FnD p j f fd ps S) (hj : j + 1 ≤ p.k) (M : Mk p.K (He.ga p.K c) f) (hm : p.mg c = some (.ref (He.ga p.K c))) (hb : Binds p.K fd ps dus) (hd : Vals dvs dus) (hr : ∀ F, RepL p.K F dd dvs) (hn : 1 + n + dd.length = ps.length) (hdb : (c == ("__debug__" : Str)) = false) : Good p (oMakeF c n dd S) :=
  make_core (fin := fun Q x _ μ' => ∃ fs μ2, μ' x = some (.ins c fs) ∧ Mem.Sub μ2 μ' ∧ μ2 x = none ∧ Q (.obj c fs) μ2) F hj M hm hb hd hr hn hdb rfl fun {F Qd Q x F' μ' H'} po l w h => by
    obtain ⟨fs, μ2, e, hs, hn, h⟩ := h
    obtain ⟨o, eo, dx, gs, rfl, rf⟩ := w.mem x _ e
    obtain ⟨w2, l2⟩ := w.freeze eo (w.sep x _ e) hs hn
    exact po _ _ _ (.obj c fs) μ2 (l.trans l2) w2 (rep_obj.mpr ⟨x, dx, gs, rfl, upd_same, RepF.le l2 _ _ rf⟩) h
end
def pFld (f : Str) : Expr → Option (List Expr)
  | .Attribute o f' _ => if decide (f' = f) && notSuper o then some [o] else none
  | _ => none
def insOf (c : Str) (μ : Mem) : D → Option (List (Str × D))
  | .obj c' fs => if c' = c then some fs else none
  | .ref a => match μ a with
    | some (.ins c' fs) => if c' = c then some fs else none
    | _ => none
  | _ => none
theorem insOf_ok {K : KW} {F : Hp} {μ : Mem} {H : Hp} (w : Wd K F μ H) {x : D} {v : V} {c : Str} {fs : List (Str × D)} (r : Rep K F x v) (h : insOf c μ x = some fs) : ∃ a dx gs, v = .ref a ∧ H a = some (.ins (He.ga K c) dx gs) ∧ RepF K F fs gs := by
  cases x <;> try (cases h; done)
  · rename_i c' fs'
    have h2 : (if c' = c then some fs' else none) = some fs := h
    clear h
    split at h2
    · rename_i e; subst e; cases h2
      obtain ⟨a, dx, gs, rfl, e, rf⟩ := rep_obj.mp r
      exact ⟨a, dx, gs, rfl, w.le _ _ e, rf⟩
    · cases h2
  · rename_i a
    have h2 : (match μ a with
      | some (.ins c' fs) => if c' = c then some fs else none
      | _ => none) = some fs := h
    clear h
    split at h2
    · rename_i c' fs' e
      split at h2
      · rename_i e2; subst e2; cases h2
        rw [rep_ref] at r; subst r
        obtain ⟨o, e1, dx, gs, rfl, rf⟩ := w.mem _ _ e
        exact ⟨a, dx, gs, rfl, e1, rf⟩
      · cases h2
    · cases h2
def sFld1 (c f : Str) : S1 := fun x μ Q => ∃ fs d, insOf c μ x = some fs ∧ fs.lookup f = some d ∧ Q d μ
def oFld (c f : Str) : Opn := ⟨fun _ => pFld f, un1 (sFld1 c f), fun _ _ => True⟩
theorem good_fld {p : Pl} {c f : Str} (cl : Cls p.K (He.ga p.K c)) (na : NoAttr p.K (He.ga p.K c) f) : Good p (oFld c f) := by
  intro X E a cx
  have akw := a.kw
  obtain ⟨aP, aw, aK, amg, ab⟩ := a
  rw [← aK] at cl na
  have inv : ∀ {e : Expr} {es : List Expr}, pFld f e = some es → ∃ o pos, e = .Attribute o f pos ∧ es = [o] ∧ notSuper o = true := by
    intro e es h
    unfold pFld at h
    split at h
    · rename_i o f' pos
      split at h
      · rename_i q
        simp only [Bool.and_eq_true, decide_eq_true_eq] at q
        obtain ⟨q1, q2⟩ := q
        subst q1
        cases h
        exact ⟨o, pos, rfl, rfl, q2⟩
      · cases h
    · cases h
  refine OpnOk.plain (fun e es h => ?_) fun {e es ts} h l => ?_
  · obtain ⟨o, pos, rfl, _⟩ := inv h; rfl
  · obtain ⟨o, pos, rfl, rfl, h1⟩ := inv h
    obtain ⟨t, rfl, he⟩ := l.one
    refine PE.imp (pe_fld he (base_of h1)) fun σ H Q ⟨F0, μ, env, Qd, Ex, w, re, xo, h, po⟩ => ?_
    refine ⟨F0, μ, env, _, Ex, w, re, xo, h, fun F1 v H1 d μ1 l1 w1 r1 h1 => ?_⟩
    obtain ⟨_, fs, d2, e1, e2, h1⟩ := h1
    obtain ⟨a, dx, gs, rfl, e3, rf⟩ := insOf_ok w1 r1 e1
    obtain ⟨v2, e4, r4⟩ := (rf.look (f := f)).1 _ e2
    exact ⟨a, _, dx, gs, v2, rfl, e3, cl, na, e4, po F1 v2 H1 d2 μ1 l1 w1 r4 h1⟩
def pSetF (f : Str) : Stmt → Option (List Expr)
  | .Assign [.Attribute o f' _] v _ => if decide (f' = f) then some [v, o] else none
  | _ => none
def sSetF (c f : Str) : SOpn := ⟨fun _ => pSetF f, fun ds k env μ => match ds with
  | [v, .ref a] => ∃ fs, μ a = some (.ins c fs) ∧ fs.length < 1000 ∧ k.nx env (μ.set a (.ins c (putD f v fs)))
  | _ => False, fun _ _ => True⟩
theorem swaps_attr {v o : Expr} {f : Str} {p : Pos} {l : Nat} {env : PySem.Env} : swapsWith v (some (.Attribute o f p)) l env = pure false := by
  cases v <;> rfl
theorem good_setF {p : Pl} {c f : Str} (cl : Cls p.K (He.ga p.K c)) (na : NoAttr p.K (He.ga p.K c) f) : SGood p (sSetF c f) := by
  intro X E a cx
  have akw := a.kw
  obtain ⟨aP, aw, aK, amg, ab⟩ := a
  rw [← aK] at cl na
  intro st es ts h l
  have h2 : pSetF f st = some es := h
  clear h
  unfold pSetF at h2
  split at h2
  · rename_i o f' pos' v pos
    split at h2
    · rename_i q
      have q : f' = f := by simpa using q
      subst q
      cases h2
      obtain ⟨tv, to, rfl, hv, ho⟩ := l.two
      refine PS.imp (ps_fld ho hv swaps_attr) fun D σ H ⟨F, μ, env, k, w, re, x, h, en⟩ => ?_
      refine ⟨F, μ, env, _, k.ex, w, re, x, h, fun F1 v1 H1 d1 μ1 l1 w1 r1 h1 => ?_⟩
      refine ⟨F1, μ1, env, _, k.ex, w1, re.le l1, x.le l1, h1.2, fun F2 v2 H2 d2 μ2 l2 w2 r2 h2 => ?_⟩
      replace h2 := h2.2
      cases d2 <;> try exact h2.elim
      rename_i b
      obtain ⟨fs, e1, e2, h2⟩ := h2
      rw [rep_ref] at r2; subst r2
      obtain ⟨u, e3, dx, gs, rfl, rf⟩ := w2.mem _ _ e1
      refine ⟨b, _, dx, gs, rfl, e3, cl, na, ?_, ?_⟩
      · rw [← (rf.look (f := f')).2.2]; exact e2
      · exact en.nx F2 σ _ env _ (l1.trans l2) (w2.setM e1 (.ofI (rf.put (Rep.le l2 _ _ r1)))) (re.le (l1.trans l2)) h2
    · cases h2
  · cases h2
def pRaise (c : Str) (sc : Scope) : Stmt → Option (List Expr)
  | .Raise (some (.Call (.Name x _) [.Constant (.str _) _ _] [] _)) none _ => if decide (x = c) && decide (sc.names.lookup c = some .globalImplicit) then some [] else none
  | _ => none
def sRaise (c : Str) : SOpn := ⟨pRaise c, fun _ k _ μ => k.ex (.exc c none) μ, fun _ _ => True⟩
theorem good_raise {p : Pl} {c : Str} (q : PySem.W.excIn p.K (He.ga p.K c) He.veBase "ValueError.__new__" = true) (g : p.mg c = some (.ref (He.ga p.K c))) (kC : PySem.W.keepIn p.K (.ref (He.ga p.K c)) = true)
    (b : PySem.W.subIn p.K (.ref (He.ga p.K c)) (.type "BaseException") = some true) (t : PySem.W.typeIn p.K (.ref (He.ga p.K c)) = some (.type "type")) (hdb : (c == ("__debug__" : Str)) = false) : SGood p (sRaise c) := by
  intro X E a cx
  have akw := a.kw
  obtain ⟨aP, aw, aK, amg, ab⟩ := a
  rw [← aK] at q kC b t g
  rw [← amg] at g
  intro st es ts h l
  have h2 : pRaise c X.env.scope st = some es := h
  clear h
  unfold pRaise at h2
  split at h2
  · rename_i x p1 m j p2 p3 pos
    split at h2
    · rename_i qq
      simp only [Bool.and_eq_true, decide_eq_true_eq] at qq
      obtain ⟨q1, q2⟩ := qq
      subst q1
      cases h2
      refine PS.imp (ps_raise cx.calm cx.take (pmk_own PySem.F.excBase_ValueError q g kC (raises_own b t) q2 hdb)) fun D σ H ⟨F, μ, env, k, w, re, x, h, en⟩ => ?_
      cases l
      exact x F H μ (.exc _ none) _ _ (Same.refl _) w ⟨rfl, rfl⟩ h
    · cases h2
  · cases h2
def pGlo (x : Str) (sc : Scope) : Expr → Option (List Expr)
  | .Name y _ => if decide (y = x) && decide (sc.names.lookup x = some .globalImplicit) then some [] else none
  | _ => none
def oGlo (x : Str) (d : D) : Opn := ⟨pGlo x, fun ds μ Q _ => Q d μ, fun _ _ => True⟩
theorem good_glo {p : Pl} {x : Str} {d : D} {v : V} {u : Value} (g : p.mg x = some u) (r : RelV v u) (hr : ∀ F, Rep p.K F d v) (hdb : (x == ("__debug__" : Str)) = false) : Good p (oGlo x d) := by
  intro X E a cx
  have akw := a.kw
  obtain ⟨aP, aw, aK, amg, ab⟩ := a
  rw [← aK] at hr
  rw [← amg] at g
  have inv : ∀ {e : Expr} {es : List Expr}, pGlo x X.env.scope e = some es → ∃ pos, e = .Name x pos ∧ es = [] ∧ X.env.scope.names.lookup x = some .globalImplicit := by
    intro e es h
    unfold pGlo at h
    split at h
    · rename_i y pos
      split at h
      · rename_i q
        simp only [Bool.and_eq_true, decide_eq_true_eq] at q
        obtain ⟨q1, q2⟩ := q
        subst q1
        cases h
        exact ⟨pos, rfl, rfl, q2⟩
      · cases h
    · cases h
  refine OpnOk.plain (fun e es h => ?_) fun {e es ts} h l => ?_
  · obtain ⟨pos, rfl, _⟩ := inv h; rfl
  · obtain ⟨pos, rfl, rfl, hg⟩ := inv h
    cases l
    exact PE.imp (pe_glob hg g r hdb) fun σ H Q ⟨F0, μ, env, Qd, Ex, w, re, xo, h, po⟩ => po F0 v H d μ (Same.refl _) w (hr F0) h

def oLenO (c : Str) (S : DSpec) : Opn := ⟨pCall "len", fun ds μ Q Ex => match ds with
  | [x] => isIns c "__len__" x μ ∧ S [x] μ (fun v μ' => ∃ n, v = .int n ∧ 0 ≤ n ∧ n < 2 ^ 63 ∧ Q (.int n) μ') Ex
  | _ => False, fun _ _ => True⟩
theorem good_lenO {p : Pl} {j : Nat} {f : Addr} {fd : FuncData} {ps : List Str} {S : DSpec} {cn : Str} (F : FnD p j f fd ps S) (hj : j + 1 ≤ p.k) (hm : Meth p.K (He.ga p.K cn) "__len__" f) (hb : Binds p.K fd ps []) (hn : ps.length = 1) : Good p (oLenO cn S) := by
  intro X E a c
  have akw := a.kw
  obtain ⟨aP, aw, aK, amg, ab⟩ := a
  unfold FnD at F
  rw [← akw, ← aP, ← aw, ← aK, ← amg, ← ab] at F
  rw [← aK] at hb hm
  have hroom : Room (j + 1) X.A := c.room.mono hj
  have hc : CallR X (.builtin "len") (fun xs H Q => ∃ a dx fs, xs = [V.ref a] ∧ H a = some (.ins (He.ga X.K cn) dx fs) ∧ spD X.kw ps.length S [.ref a] H (fun v H' => ∃ n, v = .int n ∧ 0 ≤ n ∧ n < 2 ^ 63 ∧ Q (.int n) H') E) := by
    intro pins s σ H xs us Q I r h
    obtain ⟨a, dx, fs, rfl, e, h⟩ := h
    have := r.ref1; subst this
    obtain ⟨mA, J, _⟩ := ins_get I.hok e
    obtain ⟨od, J, _⟩ := J.look
    obtain ⟨m, hF⟩ := I.fr
    refine PySem.W.len_K hF I.ok.mod.kin J hm.at_ hm.fn ?_
    refine wpAny_call (codeAny_mono (F.run X.A.in1 X.stack s H ⟨[.ref a], []⟩ [.ref a] [.ref a] _ E hroom.in1 I.env0.in1 (by
      have := hb s [.ref a] I.kIn (by simpa using hn.symm)
      simpa using this) (.cons rfl .nil) h) fun r s' hq => ?_)
    cases r with
    | error e => exact c.pass pins σ H s e s' I hq
    | ok fl =>
      cases fl with
      | ret u =>
        obtain ⟨v, H', I', rv, n, ev, h0, h1, q⟩ := I.after hq
        subst ev
        obtain ⟨t, rfl⟩ := rv
        exact ⟨⟨h0, h1⟩, .int n, H', I'.tok _, ⟨_, rfl⟩, q⟩
      | next => exact False.elim hq
      | brk => exact False.elim hq
      | cont => exact False.elim hq
  refine OpnOk.plain (fun e es h => pCall_plain h) fun {e es ts} h l => ?_
  obtain ⟨p, a, r, pos, rfl, rfl, hg, hs⟩ := pCall_inv h
  have h' : notStar a = true ∧ r.all notStar = true := by simpa using hs
  refine PE.imp (pe_callB hc hg (c.free _ (by decide +kernel)) boot_len (l.pa hs) (by decide) (by decide) (starEach_cons h'.1) (noStar_any h'.2)) fun σ H Q h => ?_
  obtain ⟨F0, μ, env, Qd, Ex, w, re, xo, h, po⟩ := h
  refine ⟨F0, μ, env, _, Ex, w, re, xo, dApp_args rfl h, fun F1 vs H1 ds μ1 l1 w1 r1 h1 => ?_⟩
  unfold oLenO at h1
  simp only at h1
  split at h1
  · rename_i x
    obtain ⟨v, rfl, r2⟩ := r1.single
    obtain ⟨h3, h4⟩ := h1
    obtain ⟨a, dx, fs, rfl, e1, e2⟩ := isIns_ok w1 r2 h3
    refine ⟨a, dx, fs, rfl, e1, hn.symm, F1, μ1, [x], _, Ex, w1, RepL.one r2, h4, fun F' v H' d μ' l w' rd ⟨n, e, h0, hh, hq⟩ => ?_, xo.le l1⟩
    subst e
    rw [rep_int] at rd
    exact ⟨n, rd, h0, hh, po F' _ H' _ μ' (l1.trans l) w' (rep_int.mpr rfl) hq⟩
  · exact h1.elim
end DL
end
section
set_option Elab.async false
set_option linter.all false
set_option maxRecDepth 100000
set_option maxHeartbeats 400000
namespace DL
open PySem PySem.Spec L2

theorem DLj.split {X : Cx} {E : XK} : ∀ {es fs : List Expr} {ts : List DT}, DLj X E (es ++ fs) ts → ∃ ts1 ts2, ts = ts1 ++ ts2 ∧ DLj X E es ts1 ∧ DLj X E fs ts2
  | [], fs, ts, h => ⟨[], ts, rfl, .nil, h⟩
  | e :: es, fs, _, .cons a r => by
    obtain ⟨t1, t2, rfl, h1, h2⟩ := DLj.split r
    exact ⟨_ :: t1, t2, rfl, .cons a h1, h2⟩
theorem dArgs_app : ∀ (ts us : List DT) (env : Env) (μ : Mem) (Q : List D → Mem → Prop) (Ex : QX), dArgs (ts ++ us) env μ Q Ex = dArgs ts env μ (fun xs μ1 => dArgs us env μ1 (fun ys μ2 => Q (xs ++ ys) μ2) Ex) Ex
  | [], us, env, μ, Q, Ex => rfl
  | t :: ts, us, env, μ, Q, Ex => by
    rw [List.cons_append, dArgs_cons, dArgs_cons]
    congr 1
    funext x μ1
    rw [dArgs_app ts us]
    rfl
inductive Pk where
  | nth (i : Nat) | dfl (d : D) (v : V)
def Pk.d (ds : List D) : Pk → D
  | .nth i => ds.getD i .non
  | .dfl d _ => d
def Pk.v (vs : List V) : Pk → V
  | .nth i => vs.getD i .non
  | .dfl _ v => v
theorem pk_rep {K : PySem.W.Frag} {F : Hp} {ds : List D} {vs : List V} (r : RepL K F ds vs) : ∀ {arr : List Pk}, (∀ q ∈ arr, match q with
    | .nth i => i < ds.length
    | .dfl d v => Rep K F d v) → RepL K F (arr.map (Pk.d ds)) (arr.map (Pk.v vs))
  | [], _ => RepL.nil
  | q :: arr, h => by
    refine RepL.mk ?_ (pk_rep r fun q hq => h q (List.mem_cons_of_mem _ hq))
    have h1 := h q (by simp)
    cases q with
    | nth i =>
      have h1 : i < ds.length := h1
      obtain ⟨v, e1, e2⟩ := r.get (i := i) (d := ds[i]) (by simp [h1])
      show Rep K F (ds.getD i .non) (vs.getD i .non)
      simp [List.getD, e1, h1, e2]
    | dfl d v => exact h1
def pFnK (x : Str) (n : Nat) (ks : List Str) (sc : Scope) : Expr → Option (List Expr)
  | .Call (.Name y _) es kws _ => if decide (y = x) && (decide (sc.names.lookup x = some .globalImplicit) && (es.all notStar && (decide (es.length = n) && (decide (kws.map (·.arg) = ks.map some) && decide (es ≠ []))))) then some (es ++ kws.map (·.value)) else none
  | _ => none
def oFnK (x : Str) (n : Nat) (ks : List Str) (arr : List Pk) (S : DSpec) : Opn := ⟨pFnK x n ks, fun ds μ Q Ex => S (arr.map (Pk.d ds)) μ Q Ex, fun _ _ => True⟩
theorem kwE_all : ∀ {kws : List Keyword} {ks : List Str} {pos : Pos} {env : PySem.Env}, kws.map (·.arg) = ks.map some →
    (backToKw pos (keywordEach kws env)).all (·.1.isSome) = true ∧ (backToKw pos (keywordEach kws env)).filterMap (·.1) = ks ∧ (backToKw pos (keywordEach kws env)).any (·.1.isNone) = false
  | [], ks, pos, env, h => by
    have : ks = [] := by simpa using h.symm
    subst this
    exact ⟨rfl, rfl, rfl⟩
  | ⟨nm, v, kp⟩ :: kws, ks, pos, env, h => by
    cases ks with
    | nil => simp at h
    | cons k ks =>
      simp only [List.map_cons, List.cons.injEq] at h
      obtain ⟨h1, h2⟩ := h
      subst h1
      obtain ⟨a, b, c⟩ := kwE_all (pos := pos) (env := env) h2
      have e : backToKw pos (keywordEach (⟨some k, v, kp⟩ :: kws) env) = (some k, do let v ← eval v env; standAt pos; pure v) :: backToKw pos (keywordEach kws env) := rfl
      rw [e]
      exact ⟨by simp [a], by simp [b], by simp [c]⟩
theorem good_fnK {p : Pl} {j : Nat} {f : Addr} {fd : FuncData} {ps ks : List Str} {S : DSpec} {x : Str} {n : Nat} {arr : List Pk} {g : List Value → List Value → List Value} {gV : List V → List V → List V} (F : FnD p j f fd ps S) (hj : j ≤ p.k) (hm : p.mg x = some (.ref f)) (hk : PySem.W.keepIn p.K (.ref f) = true) (hb : KBn p.K fd ps n ks g gV)
    (hg : ∀ vs zs, vs.length = n → zs.length = ks.length → gV vs zs = arr.map (Pk.v (vs ++ zs))) (hr : ∀ q ∈ arr, match q with
      | .nth i => i < n + ks.length
      | .dfl d v => ∀ F, Rep p.K F d v) (hn : arr.length = ps.length) (hdb : (x == ("__debug__" : Str)) = false) : Good p (oFnK x n ks arr S) := by
  intro X E a c
  have akw := a.kw
  obtain ⟨aP, aw, aK, amg, ab⟩ := a
  have F := F.mono hj
  unfold FnD at F
  rw [← akw, ← aP, ← aw, ← aK, ← amg, ← ab] at F
  rw [← aK] at hk hb hr
  rw [← amg] at hm
  have inv : ∀ {e : Expr} {xs : List Expr}, pFnK x n ks X.env.scope e = some xs → ∃ p pos e0 es kws, e = .Call (.Name x p) (e0 :: es) kws pos ∧ xs = (e0 :: es) ++ kws.map (·.value) ∧ X.env.scope.names.lookup x = some .globalImplicit ∧ (e0 :: es).all notStar = true ∧ (e0 :: es).length = n ∧ kws.map (·.arg) = ks.map some := by
    intro e xs h
    unfold pFnK at h
    split at h
    · rename_i y p es kws pos
      split at h
      · rename_i q
        simp only [Bool.and_eq_true, decide_eq_true_eq] at q
        obtain ⟨q1, q2, q3, q4, q5, q6⟩ := q
        subst q1
        cases h
        cases es with
        | nil => exact absurd rfl q6
        | cons e0 es => exact ⟨p, pos, e0, es, kws, rfl, rfl, q2, q3, q4, q5⟩
      · cases h
    · cases h
  refine OpnOk.plain (fun e es h => ?_) fun {e xs ts} h l => ?_
  · obtain ⟨q, pos, e0, es, kws, rfl, _⟩ := inv h; rfl
  · obtain ⟨q, pos, e0, es, kws, rfl, rfl, hgl, hs, hl, hkw⟩ := inv h
    obtain ⟨t1, t2, rfl, d1, d2⟩ := l.split
    have h' : notStar e0 = true ∧ es.all notStar = true := by simpa using hs
    obtain ⟨k1, k2, k3⟩ := kwE_all (pos := pos) (env := X.env) hkw
    have hks : kws.length = ks.length := by
      have := congrArg List.length hkw
      simpa using this
    refine PE.imp (pe_callN F c.room hgl hm hk hb c.pass (d1.pa hs) (d2.pk kws rfl) k1 k2 hdb (starEach_cons h'.1) (by rw [noStar_any hs, k3]; rfl)) fun σ H Q ⟨F0, μ, env, Qd, Ex, w, re, xo, h, po⟩ => ?_
    have h := dApp_args rfl h
    rw [dArgs_app] at h
    refine ⟨F0, μ, env, _, Ex, w, re, xo, dArgs_len h, fun F1 vs H1 ds μ1 l1 w1 r1 ⟨hl1, h1⟩ => ?_⟩
    refine ⟨F1, μ1, env, _, Ex, w1, re.le l1, xo.le l1, dArgs_len h1, fun F2 zs H2 es2 μ2 l2 w2 r2 ⟨hl2, h2⟩ => ?_⟩
    have e1 : vs.length = n := by rw [← r1.length, hl1, ← d1.length, hl]
    have e2 : zs.length = ks.length := by rw [← r2.length, hl2, ← d2.length, List.length_map, hks]
    refine ⟨e1, e2, ?_⟩
    rw [hg vs zs e1 e2]
    have rr := (RepL.le l2 _ _ r1).app r2
    have e3 : (ds ++ es2).length = n + ks.length := by rw [rr.length, List.length_append, e1, e2]
    refine ⟨by rw [List.length_map]; exact hn, F2, μ2, arr.map (Pk.d (ds ++ es2)), Qd, Ex, w2, pk_rep rr fun q hq => ?_, h2, po.le (l1.trans l2), xo.le (l1.trans l2)⟩
    have := hr q hq
    cases q with
    | nth i => rw [e3]; exact this
    | dfl d v => exact this F2
theorem kbinds_all {K : PySem.W.Frag} {x qual : Str} {params : Arguments} {body : List Stmt} {scope : Scope} {kws : List (Str × V)} {f : Addr} {fd : FuncData} {ps ks : List Str} {n : Nat} (F : FunD K x qual params body scope [] kws f fd) (g : {α : Type} → List α → List α → List α)
    (hrel : ∀ {vs zs : List V} {us ws : List Value}, Vals vs us → Vals zs ws → Vals (g vs zs) (g us ws))
    (h : ∀ (kV doc pm : Value) (an : Option Addr) (cdv ct : Value) (us ws : List Value), us.length = n → ws.length = ks.length → bindArgs (PySem.W.fnOf x qual params body scope .none kV doc pm an cdv ct) ⟨us, ks.zip ws⟩ = pure (ps.zip (g us ws))) : KBn K fd ps n ks g g := by
  obtain ⟨oc, od, dV, kV, doc, pm, an, cdv, ct, osl, rfl, lk, hcd, hD, hK⟩ := F.ex
  rcases hD with ⟨_, rfl⟩ | ⟨e, _⟩
  · exact ⟨fun s us ws X l1 l2 => .of_eq (h kV doc pm an cdv ct us ws l1 l2), fun r1 r2 => hrel r1 r2⟩
  · exact absurd rfl e
end DL
end
section
set_option Elab.async false
set_option linter.all false
set_option maxRecDepth 100000
set_option maxHeartbeats 1000000
namespace DLZ
open PySem PySem.Spec PyProof.Rows RZ
theorem typeCall_zip_sf (a b : Value) : checkTypeCall "zip" ⟨[a, b], [(Str.ofString "strict", .bool false)]⟩ = pure () := by kernel_rfl
theorem newCall_zip_sf (a b : Value) : checkBuiltinCall "zip.__new__" ⟨[.type "zip", a, b], [(Str.ofString "strict", .bool false)]⟩ = pure () := by kernel_rfl
theorem args_object_init_sf (obj a b : Value) : argsOk "object.__init__" ⟨[obj, a, b], [(Str.ofString "strict", .bool false)]⟩ := by unfold argsOk; kernel_rfl
theorem meets_zipT_newK (l1 l2 : Addr) (xs ys : Array Value) :
    Meets (Builtin.«zip.__new__» ⟨[.type "zip", .ref l1, .ref l2], [(Str.ofString "strict", .bool false)]⟩) (fun _ R s => s.heap.IsTuple l1 xs ∧ s.heap.IsTuple l2 ys ∧
      R (.ok (.ret (.ref (zipTH4 s.heap l1 l2).objs.size))) { s with heap := zipTH5 s.heap l1 l2 }) :=
  .of_wp fun prog w A R s h => by
    obtain ⟨hp, g, d, tk, os⟩ := s; obtain ⟨hl1, hl2, h⟩ := h
    have hsub := sub_zip
    have hL1 : Heap.IsTuple (Shared.heap ⟨hp, g, d, tk, os⟩) l1 xs := hl1
    have hL2 : Heap.IsTuple (Shared.heap ⟨hp.push { cls := .type "tuple_iterator", data := .fields #[.ref l1, .int 0 0] }, g, d, tk, os⟩) l2 ys := Heap.IsTuple.push hl2 _
    have e1 : (Str.ofString "strict" == ("strict" : Str)) = true := by decide +kernel
    have e2 : (Str.ofString "strict" != ("strict" : Str)) = false := by decide +kernel
    have e3 : (("strict" : Str) == Str.ofString "strict") = true := by decide +kernel
    wp_walk using wpAny_pyIter_tuple hL1, wpAny_pyIter_tuple hL2
    exact ⟨_, rfl, h⟩
section
variable {prog : Program} {w : World} {A : Around} {E : Value → Shared → Prop} {s : Shared}
theorem call_zipTK {l1 l2 : Addr} {xs ys : Array Value} {Q : Value → Shared → Prop} (hl1 : s.heap.IsTuple l1 xs) (hl2 : s.heap.IsTuple l2 ys)
    (h : ∀ h', IsZip h' (s.heap.objs.size + 4) (s.heap.objs.size + 2) (s.heap.objs.size + 3) .none → IsPair h' (s.heap.objs.size + 2) (.ref s.heap.objs.size) (.ref (s.heap.objs.size + 1)) →
      IsPair h' (s.heap.objs.size + 3) .none .none → h'.IsTupleIter s.heap.objs.size l1 0 → h'.IsTupleIter (s.heap.objs.size + 1) l2 0 → h'.objs.size = s.heap.objs.size + 5 →
      (∀ c o, s.heap.get? c = some o → h'.get? c = some o) → Q (.ref (s.heap.objs.size + 4)) { s with heap := h' }) :
    wpAny (model prog w) A (call (.type "zip") [.ref l1, .ref l2] [(Str.ofString "strict", .bool false)]) Q E s := by
  refine callType_newKw PySem.F.called_zip (by decide) (typeCall_zip_sf _ _) (newCall_zip_sf _ _) (fun obj => args_object_init_sf obj _ _) PySem.F.entry_zip_new
    (meets_zipT_newK l1 l2 xs ys) ⟨hl1, hl2, ?_⟩
  have z1 : (zipTH1 s.heap l1).objs.size = s.heap.objs.size + 1 := Heap.size_push ..
  have z2 : (zipTH2 s.heap l1 l2).objs.size = s.heap.objs.size + 2 := by rw [Heap.size_push, z1]
  have z3 : (zipTH3 s.heap l1 l2).objs.size = s.heap.objs.size + 3 := by rw [Heap.size_push, z2]
  have z4 : (zipTH4 s.heap l1 l2).objs.size = s.heap.objs.size + 4 := by rw [Heap.size_push, z3]
  have z5 : (zipTH5 s.heap l1 l2).objs.size = s.heap.objs.size + 5 := by rw [Heap.size_push, z4]
  have g5 : (zipTH5 s.heap l1 l2).get? (zipTH4 s.heap l1 l2).objs.size = some _ := Heap.get?_push_size _ rfl
  have g4 : (zipTH5 s.heap l1 l2).get? (zipTH3 s.heap l1 l2).objs.size = some _ := Heap.get?_push_of_some _ (Heap.get?_push_size _ rfl)
  have g3 : (zipTH5 s.heap l1 l2).get? (zipTH2 s.heap l1 l2).objs.size = some _ := Heap.get?_push_of_some _ (Heap.get?_push_of_some _ (Heap.get?_push_size _ rfl))
  have g2 : (zipTH5 s.heap l1 l2).get? (zipTH1 s.heap l1).objs.size = some _ := Heap.get?_push_of_some _ (Heap.get?_push_of_some _ (Heap.get?_push_of_some _ (Heap.get?_push_size _ rfl)))
  have g1 : (zipTH5 s.heap l1 l2).get? s.heap.objs.size = some _ := Heap.get?_push_of_some _ (Heap.get?_push_of_some _ (Heap.get?_push_of_some _ (Heap.get?_push_of_some _ (Heap.get?_push_size _ rfl))))
  show _ ∧ _
  rw [z2, z3, z4] at g5
  rw [z1, z2] at g3
  rw [z3] at g4
  rw [z1] at g2
  rw [z4]
  exact ⟨⟨_, g5, rfl⟩, h _ g5 g3 g4 ⟨_, g1, rfl, rfl⟩ ⟨_, g2, rfl, rfl⟩ z5 fun c o x =>
    Heap.get?_push_of_some _ (Heap.get?_push_of_some _ (Heap.get?_push_of_some _ (Heap.get?_push_of_some _ (Heap.get?_push_of_some _ x))))⟩
theorem callWith_typeKw {M : Model} {pos : Pos} {T : String} {args : List (Bool × Sem Value)} {keywords : List (Option Str × Sem Value)} {Q : Value → Shared → Prop}
    (hplain : args.any (·.1) = false) (hkw : keywords.any (·.1.isNone) = false)
    (h : wpAny M A (evalArgs (.type T) true args keywords) (fun a s₁ => wpAny M A (call (.type T) a.pos a.kw) Q E s₁) E s) :
    wpAny M A (callWith pos (.type T) [] args keywords) Q E s := by
  unfold callWith
  refine wpAny_bind (wpAny_holding (wpAny_mono h (fun a s₁ h₁ => wpAny_bind (wpAny_standAt ?_)) fun _ _ x => x))
  simp only [hplain, hkw, Bool.or_false]
  refine wpAny_bind (wpAny_pure ?_)
  exact wpAny_bind (wpAny_mono h₁ (fun r s₂ hr => wpAny_bind (wpAny_holding (wpAny_point (wpAny_pure hr)))) fun _ _ x => x)
/- enumerate(v), v told by how it begins -/
set_option maxHeartbeats 2000000 in
theorem meets_enumerate_newB1 {v : Value} {o : Obj} {H : Heap → Prop} (B : Begins v o H) :
    Meets (Builtin.«enumerate.__new__» ⟨[.type "enumerate", v], []⟩) (fun _ R s => H s.heap ∧
      R (.ok (.ret (.ref (s.heap.push o).objs.size))) { s with heap := (s.heap.push o).push { cls := .type "enumerate", data := .fields #[.none, .bool false, .ref s.heap.objs.size, rawInt 0, .none, .none] } }) :=
  .of_wp fun prog w A R s h => by
    obtain ⟨hp, g, d, tk, os⟩ := s; obtain ⟨h1, h⟩ := h
    have hsub := sub_enumerate
    have q1 : ∀ {A' : Around} {E : Value → Shared → Prop} {Q : Value → Shared → Prop}, Q (.ref hp.objs.size) ⟨hp.push o, g, d, tk, os⟩ → wpAny (model prog w) A' (pyIter v) Q E ⟨hp, g, d, tk, os⟩ :=
      fun q => B.iter prog w _ _ ⟨hp, g, d, tk, os⟩ _ h1 q
    wp_walk using q1
    refine wpAny_stack_any fun st => wpAny_pure ?_
    split
    · rename_i c _ _ _ _ _
      cases (c == Value.type "enumerate")
      · wp_walk using q1
        exact ⟨_, rfl, h⟩
      · wp_walk using q1
        exact ⟨_, rfl, h⟩
    · wp_walk using q1
      exact ⟨_, rfl, h⟩
theorem enum_begins1 {v : Value} {o : Obj} {H : Heap → Prop} {Q : Value → Shared → Prop} (B : Begins v o H) (h1 : H s.heap)
    (h : ∀ h', IsEnum h' (s.heap.objs.size + 1) s.heap.objs.size 0 .none → h'.get? s.heap.objs.size = some o → h'.objs.size = s.heap.objs.size + 2 →
      (∀ b o, s.heap.get? b = some o → h'.get? b = some o) → Q (.ref (s.heap.objs.size + 1)) { s with heap := h' }) :
    wpAny (model prog w) A (call (.type "enumerate") [v]) Q E s := by
  refine callType_new PySem.F.called_enumerate (by decide) (PySem.F.typeCall_enumerate_1 _) (PySem.F.newCall_enumerate_1 _) (fun obj => PySem.F.args_object_init_2 obj _) PySem.F.entry_enumerate_new
    (meets_enumerate_newB1 B) ⟨h1, ?_⟩
  have hz : (s.heap.push o).objs.size = s.heap.objs.size + 1 := Heap.size_push ..
  show _ ∧ _
  rw [hz]
  have he : IsEnum ((s.heap.push o).push { cls := .type "enumerate", data := .fields #[.none, .bool false, .ref s.heap.objs.size, rawInt 0, .none, .none] }) (s.heap.objs.size + 1) s.heap.objs.size 0 .none := by
    have := Heap.get?_push_size (s.heap.push o) (o := { cls := .type "enumerate", data := .fields #[.none, .bool false, .ref s.heap.objs.size, rawInt 0, .none, .none] }) rfl
    rw [hz] at this; exact this
  refine ⟨⟨_, he, rfl⟩, h _ he (Heap.get?_push_of_some _ (Heap.get?_push_size _ B.free)) (by rw [Heap.size_push, hz]) fun b o x => Heap.get?_push_of_some _ (Heap.get?_push_of_some _ x)⟩
end
end DLZ
end
section
set_option Elab.async false
set_option linter.all false
set_option maxRecDepth 100000
set_option maxHeartbeats 1000000
namespace DL
open PySem PySem.Spec L2 PyProof.Rows

def IteT (K : PySem.W.Frag) (a : Addr) : It :=
  ⟨fun i H => ∃ (xs : List V) (x : V), SqT K H a xs ∧ xs[i]? = some x, fun i H v H' => ∃ T x, v = .ref T ∧ H T = none ∧ H' = upd H T (.tup [.int (i : Nat), x]) ∧ ∀ xs, SqT K H a xs → xs[i]? = some x, fun i H => ∃ xs : List V, SqT K H a xs ∧ xs.length = i⟩
theorem turn_enumT {P : Program} {w : World} {K : PySem.W.Frag} {elts : List Expr} {kk : Nat} {tpos : Pos} (a e it : Addr) (hea : e ≠ a) (hia : it ≠ a) :
    Turn P w K (.Tuple elts kk tpos) (IteT K a) [e, it] e (fun i h => (∃ old, IsEnum h e it ((i : Nat) : Int) old) ∧ h.IsTupleIter it a i ∧ e ≠ it) where
  mem := by simp
  obj := fun i h st b hb => by
    obtain ⟨⟨old, he⟩, ⟨o, ho, hc, hd⟩, _⟩ := st
    have e' : b = e ∨ b = it := by simpa using hb
    rcases e' with z | z
    · rw [z]; exact ⟨_, he, fun v q => nomatch q⟩
    · rw [z]; exact ⟨o, ho, fun v q => by rw [hd] at q; cases q⟩
  keep := fun i h h' st k => let ⟨⟨old, he⟩, hi, hne⟩ := st; ⟨⟨old, k e (by simp) _ he⟩, hi.at fun o q => k it (by simp) o q, hne⟩
  item := by
    intro X hP hw hK hc i pins s σ H E I hf st hg
    subst hP hw hK
    obtain ⟨⟨old, he⟩, hit, hne⟩ := st
    obtain ⟨xs, x, hq, hx⟩ := hg
    obtain ⟨its, rv, p, hz⟩ := I.tuple hq
    obtain ⟨u, hu, ru⟩ := rv.get hx
    have hel : e < s.heap.objs.size := Heap.lt_size he
    have hil : it < s.heap.objs.size := by obtain ⟨_, q, _⟩ := hit; exact Heap.lt_size q
    have hlt : i < its.toArray.size := by
      have := (List.getElem?_eq_some_iff.mp hu).1
      simpa using this
    refine wpAny_pyNext_enum_itemD (Draws.tuple (A := X.A.in1) (show X.A.in1.handled = none from I.ok.hd hc) it a (Ne.symm hia) its.toArray) he ⟨hit, show s.heap.IsTuple a its.toArray from p⟩ hlt hne (by simp [hne, hea]) fun x' h' tk hx' ho hst' hT hsz hk => ?_
    have ex : x' = u := by
      have h1 : its.toArray[i]? = some x' := hx'
      have h2 : its.toArray[i]? = some u := by simpa using hu
      rw [h1] at h2; exact Option.some.inj h2
    subst ex
    obtain ⟨hit', _⟩ := hst'
    refine ⟨_, rfl, wpAny_letOwnedTupleGo_enum (s := { s with heap := h', toks := tk + 1 }) ho fun h'' he' sb => ?_⟩
    have hT2 : h''.get? s.heap.objs.size = some { cls := .type "tuple", data := .seq #[.int i tk, x'] } := (sb.2 _ (Nat.ne_of_gt hel)).trans hT
    have new : ObjOk X.prog X.w (upd H s.heap.objs.size (.tup [.int (i : Nat), x])) h'' s.heap.objs.size (.tup [.int (i : Nat), x]) :=
      ⟨by show 2 ≤ sizeLine; decide, [.int i tk, x'], .cons ⟨_, rfl⟩ (.cons ru .nil), ⟨_, hT2, rfl, _, rfl⟩⟩
    have I1 : Inv X pins σ (upd H s.heap.objs.size (.tup [.int (i : Nat), x])) { s with heap := h'', toks := tk + 1 } :=
      I.turnedNew (ch := [e, it]) (fun b ob hb q => (sb.2 b (fun z => hb (by simp [z]))).trans (hk b ob (fun z => hb (by simp [z])) (fun z => hb (by simp [z])) q)) hf (Nat.le_refl _) new
    refine ⟨.ref s.heap.objs.size, _, I1, rfl, ⟨_, x, rfl, I.hok.fresh (Nat.le_refl _), rfl, fun ys hy => by rw [I.tuple_inj hy hq]; exact hx⟩, ⟨⟨x', ?_⟩, hit'.at fun o q => (sb.2 it (Ne.symm hne)).trans q, hne⟩, fun b hb => ?_⟩
    · have e1 : ((i + 1 : Nat) : Int) = (i : Int) + 1 := by omega
      rw [e1]; exact he'
    · have hb' : b < s.heap.objs.size := by
        have e' : b = e ∨ b = it := by simpa using hb
        rcases e' with z | z
        · rw [z]; exact hel
        · rw [z]; exact hil
      rw [upd_ne (Nat.ne_of_lt hb')]
      exact (hf b hb).1
  done := by
    intro X hP hw hK hc i pins s σ H E I hf st hg
    subst hP hw hK
    obtain ⟨⟨old, he⟩, hit, hne⟩ := st
    obtain ⟨xs, hq, hx⟩ := hg
    obtain ⟨its, rv, p, hz⟩ := I.tuple hq
    obtain ⟨f0, f1, f2, f3, f4, f5⟩ := hf it (by simp)
    have hl := rv.length
    have hi : its.toArray.size = i := by rw [List.size_toArray, ← hl, hx]
    refine wpAny_pyNext_enum_endD (Draws.tuple (A := X.A.in1) (show X.A.in1.handled = none from I.ok.hd hc) it a (Ne.symm hia) its.toArray) he (by rw [hi]; exact ⟨hit, show s.heap.IsTuple a its.toArray from p⟩) fun h' eb => ?_
    exact ⟨rfl, I.turned (t' := s.toks) (fun b o hb q => eb b o hb q) f0 f1 f3 f4 f5⟩
  self := fun A i s Q E st h => let ⟨⟨_, he⟩, _⟩ := st; wpAny_pyIter_enum he h

def enumD (xs : List D) : List D := (List.range xs.length).zipWith (fun i x => D.tup [.int (i : Nat), x]) xs
theorem enumD_length (xs : List D) : (enumD xs).length = xs.length := by simp [enumD]
theorem enumD_get {xs : List D} {i : Nat} {d : D} (h : xs[i]? = some d) : (enumD xs)[i]? = some (.tup [.int (i : Nat), d]) := by
  have hi := (List.getElem?_eq_some_iff.mp h).1
  unfold enumD
  rw [List.getElem?_zipWith, h]
  simp [hi]
theorem pair_yld {K : KW} {F2 : Hp} {μ2 : Mem} {H2 H3 : Hp} {T : Addr} {x y : V} {d e : D} (w : Wd K F2 μ2 H2) (hT : H2 T = none) (hH : H3 = upd H2 T (.tup [x, y])) (rx : Rep K F2 d x) (ry : Rep K F2 e y) :
    ∃ F3, Le F2 F3 ∧ Wd K F3 μ2 H3 ∧ Rep K F3 (.tup [d, e]) (.ref T) := by
  subst hH
  obtain ⟨w', l⟩ := w.newF hT (.tup [x, y])
  exact ⟨_, l, w', rep_tup.mpr ⟨T, _, rfl, .inl upd_same, RepL.mk (Rep.le l _ _ rx) (RepL.one (Rep.le l _ _ ry))⟩⟩
theorem walk_el {K : KW} {F : Hp} {a : Addr} {xs : List D} {keep : Mem → Prop} (hl : ∀ F2 μ2 H2, Le F F2 → Wd K F2 μ2 H2 → keep μ2 → ∃ vs', SqL K H2 a vs' ∧ RepL K F2 xs vs') : WalkD K F (Ite K a) (enumD xs) keep := by
  refine ⟨fun i F2 μ2 H2 l w k hi => ?_, fun F2 μ2 H2 l w k => ?_, fun i F2 μ2 H2 x H3 l w k hi y => ?_⟩
  · obtain ⟨vs', s, r⟩ := hl F2 μ2 H2 l w k
    rw [enumD_length, r.length] at hi
    exact ⟨vs', vs'[i], s, by simp [hi]⟩
  · obtain ⟨vs', s, r⟩ := hl F2 μ2 H2 l w k
    exact ⟨vs', s, by rw [enumD_length, r.length]; exact Nat.le_refl _⟩
  · obtain ⟨vs', s, r⟩ := hl F2 μ2 H2 l w k
    obtain ⟨T, x', rfl, hT, hH, hx⟩ := y
    obtain ⟨d, e3, e4⟩ := r.getV (hx vs' s)
    obtain ⟨F3, l3, w3, r3⟩ := pair_yld w hT hH (d := .int (i : Nat)) (rep_int.mpr rfl) e4
    exact ⟨F3, _, l3, w3, enumD_get e3, r3⟩
theorem walk_et {K : KW} {F : Hp} {a : Addr} {xs : List D} {keep : Mem → Prop} (hl : ∀ F2 μ2 H2, Le F F2 → Wd K F2 μ2 H2 → keep μ2 → ∃ vs', SqT K H2 a vs' ∧ RepL K F2 xs vs') : WalkD K F (IteT K a) (enumD xs) keep := by
  refine ⟨fun i F2 μ2 H2 l w k hi => ?_, fun F2 μ2 H2 l w k => ?_, fun i F2 μ2 H2 x H3 l w k hi y => ?_⟩
  · obtain ⟨vs', s, r⟩ := hl F2 μ2 H2 l w k
    rw [enumD_length, r.length] at hi
    exact ⟨vs', vs'[i], s, by simp [hi]⟩
  · obtain ⟨vs', s, r⟩ := hl F2 μ2 H2 l w k
    exact ⟨vs', s, by rw [enumD_length, r.length]⟩
  · obtain ⟨vs', s, r⟩ := hl F2 μ2 H2 l w k
    obtain ⟨T, x', rfl, hT, hH, hx⟩ := y
    obtain ⟨d, e3, e4⟩ := r.getV (hx vs' s)
    obtain ⟨F3, l3, w3, r3⟩ := pair_yld w hT hH (d := .int (i : Nat)) (rep_int.mpr rfl) e4
    exact ⟨F3, _, l3, w3, enumD_get e3, r3⟩
def sEnum : List D → Mem → QI → Prop := fun ds μ Qi => match ds with
  | [x] => ∃ xs, seqOf μ x = some xs ∧ Qi (enumD xs) (keepOf x xs) μ
  | _ => False
def pEnum (sc : Scope) : Expr → Expr → Option (List Expr) := fun tg e => if isTup tg then (match pCall "enumerate" sc e with
  | some [a] => some [a]
  | _ => none) else none
theorem enumI_ok {X : Cx} {E : XK} {k : Nat} (c : Ctx X E k) : ItnOk X E ⟨pEnum, sEnum⟩ := by
  intro tg it es ts h l
  have h : (if isTup tg then (match pCall "enumerate" X.env.scope it with
    | some [a] => some [a]
    | _ => none) else none) = some es := h
  split at h
  · rename_i ht
    split at h
    · rename_i a q
      cases h
      obtain ⟨p, a', r, pos, rfl, e2, hg, hs⟩ := pCall_inv q
      cases e2
      have hs' : notStar a = true := by simpa using hs
      obtain ⟨elts, kk, tpos, rfl⟩ : ∃ elts kk tpos, tg = .Tuple elts kk tpos := by
        cases tg <;> first | (cases ht; done) | exact ⟨_, _, _, rfl⟩
      refine ⟨fun pins s σ H R I hw => ?_⟩
      obtain ⟨F, μ, env, Qi, Ex, w, re, x, h, po⟩ := hw
      have hs2 : starEach [a] X.env = (false, eval a X.env) :: starEach [] X.env := starEach_cons hs'
      refine Call_ (ld_blt I hg (c.free _ (by decide +kernel)) boot_enumerate (PyProof.Rows.callWith_type1 (thn ((l.pa hs).run pos pins s σ H (fun vs H1 => ∃ F1 μ1 d v xs, vs = [v] ∧ Le F F1 ∧ Wd X.kw F1 μ1 H1 ∧ Rep X.K F1 d v ∧ seqOf μ1 d = some xs ∧ Qi (enumD xs) (keepOf d xs) μ1) I ⟨F, μ, env, _, Ex, w, re, x, h, fun F1 vs H1 ds μ1 l1 w1 r1 h1 => ?_⟩) fun us s1 ⟨vs, H1, I1, rv, F1, μ1, d, v, xs, ev, l1, w1, r1, e1, h1⟩ => ?_) hs2 rfl))
      · have h1 : sEnum ds μ1 Qi := h1
        unfold sEnum at h1
        split at h1
        · obtain ⟨v, rfl, r2⟩ := r1.single
          obtain ⟨xs, e, h1⟩ := h1
          exact ⟨F1, μ1, _, v, xs, rfl, l1, w1, r2, e, h1⟩
        · exact h1.elim
      · subst ev
        obtain ⟨a1, rfl, hk⟩ := seq_keeps w1 r1 e1
        have := rv.ref1; subst this
        have k1 := w1.keep r1 e1
        rcases hk with hk | hk
        · obtain ⟨vs', sq, _⟩ := hk F1 μ1 H1 (Same.refl _) w1 k1
          obtain ⟨its, rv', p', hz⟩ := I1.list sq
          refine call_enumerate_list p'.isList fun h' he hit hsz hkk => wpAny_pyIter_enum he ?_
          have I2 : Inv X pins σ H1 { s1 with heap := h' } := I1.kept (t' := s1.toks) hkk
          refine ⟨s1.heap.objs.size + 1, [s1.heap.objs.size + 1, s1.heap.objs.size], _, _, H1, rfl, I2, turn_enum a1 (s1.heap.objs.size + 1) s1.heap.objs.size, ⟨⟨.none, he⟩, hit, Nat.succ_ne_self _⟩, fun b hb => ?_, po F1 H1 _ _ μ1 _ l1 w1 (walk_el hk) h1⟩
          have e' : b = s1.heap.objs.size + 1 ∨ b = s1.heap.objs.size := by simpa using hb
          have hle : s1.heap.objs.size ≤ b := by
            rcases e' with z | z
            · rw [z]; exact Nat.le_add_right _ _
            · rw [z]; exact Nat.le_refl _
          exact I1.fpOk hle (I1.hok.fresh hle)
        · obtain ⟨vs', sq, _⟩ := hk F1 μ1 H1 (Same.refl _) w1 k1
          obtain ⟨its, rv', p', hz⟩ := I1.tuple sq
          have p2 : s1.heap.IsTuple a1 its.toArray := p'
          have hlt : a1 < s1.heap.objs.size := p'.lt
          refine DLZ.enum_begins1 (begins_tuple a1 its.toArray) p2 fun h' he hit hsz hkk => wpAny_pyIter_enum he ?_
          have I2 : Inv X pins σ H1 { s1 with heap := h' } := I1.kept (t' := s1.toks) hkk
          refine ⟨s1.heap.objs.size + 1, [s1.heap.objs.size + 1, s1.heap.objs.size], _, _, H1, rfl, I2, turn_enumT a1 (s1.heap.objs.size + 1) s1.heap.objs.size (Nat.ne_of_gt (Nat.lt_succ_of_lt hlt)) (Nat.ne_of_gt hlt), ⟨⟨.none, he⟩, ⟨_, hit, rfl, rfl⟩, Nat.succ_ne_self _⟩, fun b hb => ?_, po F1 H1 _ _ μ1 _ l1 w1 (walk_et hk) h1⟩
          have e' : b = s1.heap.objs.size + 1 ∨ b = s1.heap.objs.size := by simpa using hb
          have hle : s1.heap.objs.size ≤ b := by
            rcases e' with z | z
            · rw [z]; exact Nat.le_add_right _ _
            · rw [z]; exact Nat.le_refl _
          exact I1.fpOk hle (I1.hok.fresh hle)
    · cases h
  · cases h
def iEnum : StdI := ⟨⟨pEnum, sEnum⟩, enumI_ok, fun sc tg it es h => by
  have h : (if isTup tg then (match pCall "enumerate" sc it with
    | some [a] => some [a]
    | _ => none) else none) = some es := h
  split at h
  · split at h
    · rename_i q; exact pCall_nset q
    · cases h
  · cases h⟩
end DL
end
section
set_option Elab.async false
set_option linter.all false
set_option maxRecDepth 100000
set_option maxHeartbeats 1000000
namespace DL
open PySem PySem.Spec L2 PyProof.Rows RZ

def zipD (xs ys : List D) : List D := List.zipWith (fun x y => .tup [x, y]) xs ys
theorem zipD_length (xs ys : List D) : (zipD xs ys).length = min xs.length ys.length := by simp [zipD]
def pZipF (sc : Scope) : Expr → Expr → Option (List Expr) := fun tg e => if isTup tg then (match e with
  | .Call (.Name y _) [a, b] [⟨some k, .Constant (.bool false) _ _, _⟩] _ => if decide (y = "zip") && (decide (k = "strict") && (decide (sc.names.lookup ("zip" : Str) = some .globalImplicit) && (notStar a && notStar b))) then some [a, b] else none
  | _ => none) else none
def sZipT : List D → Mem → QI → Prop := fun ds μ Qi => match ds with
  | [.tup xs, .tup ys] => Qi (zipD xs ys) (fun _ => True) μ
  | _ => False
theorem pZipF_inv {sc : Scope} {tg e : Expr} {es : List Expr} (h : pZipF sc tg e = some es) : ∃ elts kk tpos p a b j p2 kp pos, tg = .Tuple elts kk tpos ∧ e = .Call (.Name "zip" p) [a, b] [⟨some "strict", .Constant (.bool false) j p2, kp⟩] pos ∧ es = [a, b] ∧ sc.names.lookup ("zip" : Str) = some .globalImplicit ∧ notStar a = true ∧ notStar b = true := by
  unfold pZipF at h
  split at h
  · rename_i ht
    split at h
    · rename_i y p a b k j p2 kp pos
      split at h
      · rename_i q
        simp only [Bool.and_eq_true, decide_eq_true_eq] at q
        obtain ⟨q1, q2, q3, q4, q5⟩ := q
        subst q1; subst q2
        cases h
        obtain ⟨elts, kk, tpos, rfl⟩ : ∃ elts kk tpos, tg = .Tuple elts kk tpos := by
          cases tg <;> first | (cases ht; done) | exact ⟨_, _, _, rfl⟩
        exact ⟨elts, kk, tpos, p, a, b, j, p2, kp, pos, rfl, rfl, rfl, q3, q4, q5⟩
      · cases h
    · cases h
  · cases h
theorem walk_zt {K : KW} {F : Hp} {a b : Addr} {xs ys : List D} {vs us : List V} (ha : SqT K F a vs) (hb : SqT K F b us) (ra : RepL K F xs vs) (rb : RepL K F ys us) : WalkD K F (ItzT K a b) (zipD xs ys) (fun _ => True) := by
  have la := ra.length
  have lb := rb.length
  refine ⟨fun i F2 μ2 H2 l w k hi => ?_, fun F2 μ2 H2 l w k => ?_, fun i F2 μ2 H2 x H3 l w k hi y => ?_⟩
  · rw [zipD_length] at hi
    exact ⟨vs, us, vs[i]'(by omega), us[i]'(by omega), SqT.le w.le (SqT.le l ha), SqT.le w.le (SqT.le l hb), by simp [show i < vs.length by omega], by simp [show i < us.length by omega]⟩
  · refine ⟨vs, us, SqT.le w.le (SqT.le l ha), SqT.le w.le (SqT.le l hb), ?_⟩
    rw [zipD_length]; omega
  · rw [zipD_length] at hi
    obtain ⟨T, x', y', rfl, hT, hH, hx, hy⟩ := y
    obtain ⟨d, e3, e4⟩ := (RepL.le l _ _ ra).getV (hx vs (SqT.le w.le (SqT.le l ha)))
    obtain ⟨d2, e5, e6⟩ := (RepL.le l _ _ rb).getV (hy us (SqT.le w.le (SqT.le l hb)))
    obtain ⟨F3, l3, w3, r3⟩ := pair_yld w hT hH e4 e6
    exact ⟨F3, _, l3, w3, by simp [zipD, List.getElem?_zipWith, e3, e5], r3⟩
theorem zipF_ok {X : Cx} {E : XK} {k : Nat} (c : Ctx X E k) : ItnOk X E ⟨pZipF, sZipT⟩ := by
  intro tg it es ts h l
  obtain ⟨elts, kk, tpos, p, a, b, j, p2, kp, pos, rfl, rfl, rfl, hg, ha, hb⟩ := pZipF_inv h
  have hs : [a, b].all notStar = true := by simp [ha, hb]
  refine ⟨fun pins s σ H R I hw => ?_⟩
  obtain ⟨F, μ, env, Qi, Ex, w, re, x, h, po⟩ := hw
  refine wpAny_Call_Name_kw (ld_blt I hg (c.free _ (by decide +kernel)) PyProof.Rows.boot_zip ?_)
  refine DLZ.callWith_typeKw (by rw [starEach_cons ha, starEach_cons hb]; rfl) rfl ?_
  have eb : backTo pos (starEach [a, b] X.env) = (false, eval a X.env) :: backTo pos (starEach [b] X.env) := by rw [starEach_cons ha]; rfl
  rw [eb]
  refine evalArgs_kwB rfl ?_
  rw [← eb]
  refine thn ((l.pa hs).run pos pins s σ H (fun vs H1 => ∃ F1 μ1 ds, Le F F1 ∧ Wd X.kw F1 μ1 H1 ∧ RepL X.K F1 ds vs ∧ sZipT ds μ1 Qi) I ⟨F, μ, env, _, Ex, w, re, x, h, fun F1 vs H1 ds μ1 l1 w1 r1 h1 => ⟨F1, μ1, ds, l1, w1, r1, h1⟩⟩) fun us s1 ⟨vs, H1, I1, rv, F1, μ1, ds, l1, w1, r1, h1⟩ => ?_
  refine kws_cons (thn (pe_bl.run pins s1 σ H1 (fun v H2 => v = .bl false ∧ H2 = H1) I1 ⟨rfl, rfl⟩) fun v s2 ⟨x2, H2, I2, rv2, e1, e2⟩ => kws_nil ?_)
  subst e1; subst e2
  obtain rfl : v = Value.bool false := rv2
  unfold sZipT at h1
  split at h1
  · rename_i xs ys
    obtain ⟨v1, u1, rfl, r2, r3⟩ := r1.two
    obtain ⟨a1, vs1, rfl, sa, ra⟩ := rep_tup.mp r2
    obtain ⟨b1, us1, rfl, sb, rb⟩ := rep_tup.mp r3
    cases rv with
    | cons r rr =>
      cases rr with
      | cons r' rr =>
        cases rr
        obtain rfl : _ = Value.ref a1 := r
        obtain rfl : _ = Value.ref b1 := r'
        obtain ⟨its, rv', p', hz⟩ := I2.tuple (SqT.le w1.le sa.sq)
        obtain ⟨its2, rv2', p2', hz2⟩ := I2.tuple (SqT.le w1.le sb.sq)
        have q1 : s2.heap.IsTuple a1 its.toArray := p'
        have q2 : s2.heap.IsTuple b1 its2.toArray := p2'
        have hl1 : a1 < s2.heap.objs.size := p'.lt
        have hl2 : b1 < s2.heap.objs.size := p2'.lt
        have fresh5 : ∀ c, c ∈ [s2.heap.objs.size + 4, s2.heap.objs.size + 2, s2.heap.objs.size + 3, s2.heap.objs.size, s2.heap.objs.size + 1] → FpOk X pins H2 c := fun c hcm => by
          have e' : c = s2.heap.objs.size + 4 ∨ c = s2.heap.objs.size + 2 ∨ c = s2.heap.objs.size + 3 ∨ c = s2.heap.objs.size ∨ c = s2.heap.objs.size + 1 := by simpa using hcm
          have hle : s2.heap.objs.size ≤ c := by
            rcases e' with z | z | z | z | z
            · rw [z]; exact Nat.le_add_right _ _
            · rw [z]; exact Nat.le_add_right _ _
            · rw [z]; exact Nat.le_add_right _ _
            · rw [z]; exact Nat.le_refl _
            · rw [z]; exact Nat.le_add_right _ _
          exact I2.fpOk hle (I2.hok.fresh hle)
        refine DLZ.call_zipTK q1 q2 fun h' hz hTI hTO h1' h2' hsz hk => wpAny_pyIter_zip hz ?_
        have I3 : L2.Inv X pins σ H2 { s2 with heap := h' } := I2.kept (t' := s2.toks) hk
        exact ⟨s2.heap.objs.size + 4, [s2.heap.objs.size + 4, s2.heap.objs.size + 2, s2.heap.objs.size + 3, s2.heap.objs.size, s2.heap.objs.size + 1], _, _, H2, rfl, I3, turn_zipT (PySem.W.ktu_apart s2.heap.objs.size a1 b1 hl1 hl2), ⟨hz, hTI, ⟨_, _, hTO⟩, h1', h2'⟩, fresh5, po F1 H2 _ _ μ1 _ l1 w1 (walk_zt sa.sq sb.sq ra rb) h1⟩
  · exact h1.elim
def iZipF : StdI := ⟨⟨pZipF, sZipT⟩, zipF_ok, fun sc tg it es h => by
  obtain ⟨elts, kk, tpos, p, a, b, j, p2, kp, pos, rfl, rfl, rfl, hg, ha, hb⟩ := pZipF_inv h
  exact folded_of rfl⟩
end DL
end
section
set_option maxRecDepth 100000
set_option linter.all false
open PySem PySem.Spec PySem.W
namespace DL
theorem on_bind (self : Value) : bindSpecial (.builtin "object.__ne__") self = pure (.builtin "object.__ne__", [self]) :=
  (Slot.of (T := "object") (name := "__ne__") (owner := "object") (n := "__ne__") (by rw [typeLookup_type, builtinLookup_eq_fast]; kernel_rfl) (by decide +kernel) (by decide +kernel) (by decide +kernel)
    (.inl (by decide +kernel)) (by rw [isSubtype_type]; kernel_rfl)).bind self
section
variable {prog : Program} {w : World} {A : Around} {E : Value → Shared → Prop} {s : Shared} {K : Frag} {x y C f : Addr} {ox oy : Obj} {od od' : Option Obj}
theorem objNe_K {Q : Fin → Shared → Prop} (hu : A.units < cLine) (X : K.In s.heap) (I : InstAt s.heap x ox C od) (hs : findIn K (.ref C) "__eq__" = some (some (.ref f))) (hf : isFn K (.ref f) = true)
    (hcall : wpAny (model prog w) A (call (.ref f) [.ref x, .ref y]) (fun v s' => ∃ b, v = .bool b ∧ Q (.done (.ret (.bool (!b)))) s') E s) :
    wpAny (model prog w) A (Builtin.«object.__ne__» ⟨[.ref x, .ref y], []⟩) Q E s := by
  unfold Builtin.«object.__ne__»
  repeat (first
    | with_reducible refine wpAny_cRoomFor hu ?_
    | (refine wpAny_bind (m := callSpecialIfBound? (.ref x) (Str.ofString "__eq__") [.ref y])
        (ifBound_K X I hs hf (wpAny_mono hcall (fun v s' hv => by
          obtain ⟨b, rfl, hq⟩ := hv
          repeat (first | exact hq | exact wpAny_pure hq | exact wpAny_truthy_bool hq | (refine wpAny_bind (m := truthy (.bool _)) (wpAny_truthy_bool ?_)) | wp_step)) fun _ _ e => e)))
    | wp_step)
theorem ifBound_ne {M : Model} {args : List Value} {Q : Option Value → Shared → Prop} (X : K.In s.heap) (I : InstAt s.heap x ox C od) (hn : findIn K (.ref C) "__ne__" = some (some (.builtin "object.__ne__")))
    (h : wpAny M A (call (.builtin "object.__ne__") (.ref x :: args)) (fun v => Q (some v)) E s) : wpAny M A (callSpecialIfBound? (.ref x) "__ne__" args) Q E s := by
  simp only [callSpecialIfBound?, bindSpecialIfBound?]
  refine wpAny_holding (wpAny_bind (wpAny_bind (wpAny_bind (I.type.here ((looks_findIn X hn).here ?_)))))
  refine wpAny_bind (wpAny_askSetting (wpAny_ite ?_))
  have fin : wpAny M A (call (.builtin "object.__ne__") ([.ref x] ++ args) >>= fun v => pure (some v)) Q E s := wpAny_bind (wpAny_mono h (fun v s' h' => wpAny_pure h') fun _ _ h' => h')
  simp only [on_bind]
  split
  · exact wpAny_bind (wpAny_pure (wpAny_pure fin))
  · exact wpAny_tryCatch (wpAny_bind (wpAny_pure (wpAny_pure fin)))
theorem ne_own {Q : Value → Shared → Prop} (hu : A.units + 1 < cLine) (X : K.In s.heap) (I : InstAt s.heap x ox C od) (I' : InstAt s.heap y oy C od') (hn : findIn K (.ref C) "__ne__" = some (some (.builtin "object.__ne__")))
    (hs : findIn K (.ref C) "__eq__" = some (some (.ref f))) (hf : isFn K (.ref f) = true) (ho : subIn K (.ref C) (.type "object") = some true)
    (h : wpAny (model prog w) A.in1 (call (.ref f) [.ref x, .ref y]) (fun v s' => ∃ b, v = .bool b ∧ Q (.bool (!b)) s') E s) : wpAny (model prog w) A (richCompare .NotEq (.ref x) (.ref y)) Q E s := by
  have one : wpAny (model prog w) A (tryCompare (.ref x) "__ne__" (.ref y)) (fun r s' => ∃ v, r = some v ∧ Q v s') E s := by
    unfold tryCompare
    refine wpAny_bind (ifBound_ne X I hn (wpAny_call (codeAny_call_builtin (by decide +kernel) F.cmpEntry_ne
      (check_slot F.cmpKind_ne F.cmpSplit_ne (Looks.andThen I.type (looks_subIn X ho)) (F.cmpArgs_ne _ _)
        (objNe_K (A := A.in1) hu X I hs hf (wpAny_mono h (fun v s' hv => ?_) fun _ _ e => e))))))
    obtain ⟨b, rfl, hq⟩ := hv
    exact ⟨b, rfl, wpAny_pure ⟨_, rfl, hq⟩⟩
  unfold richCompare
  simp only [oneThing_ref]
  refine wpAny_holding (wpAny_bind (wpAny_cRoomFor (Nat.lt_of_succ_lt hu) ?_))
  rw [cmpInfo_NotEq]
  dsimp only
  refine wpAny_bind (I.type.here (wpAny_bind (I'.type.here ?_)))
  simp only [show (Value.ref C != Value.ref C) = false from by simp]
  refine wpAny_bind (wpAny_pure ?_)
  simp only [Bool.false_eq_true, if_false]
  refine wpAny_bind (wpAny_mono one (fun r s' z => ?_) fun _ _ e => e)
  obtain ⟨v, rfl, hq⟩ := z
  exact wpAny_pure hq
end

open L2
def oEqO (c : Str) (neg : Bool) (S : DSpec) : Opn := ⟨fun _ => pCmp (if neg then .NotEq else .Eq), fun ds μ Q Ex => match ds with
  | [x, y] => isIns c "__eq__" x μ ∧ isIns c "__eq__" y μ ∧ S [x, y] μ (fun v μ' => ∃ b, v = .bl b ∧ Q (.bl (neg ^^ b)) μ') Ex
  | _ => False, fun _ _ => True⟩
theorem eqO_op {p : Pl} {j : Nat} {f : Addr} {fd : FuncData} {ps : List Str} {S : DSpec} {cn : Str} {neg : Bool} (F : FnD p j f fd ps S) (hj : j + 1 ≤ p.k) (hm : PySem.W.findIn p.K (.ref (He.ga p.K cn)) "__eq__" = some (some (.ref f)))
    (hf : PySem.W.isFn p.K (.ref f) = true) (hne : PySem.W.findIn p.K (.ref (He.ga p.K cn)) "__ne__" = some (some (.builtin "object.__ne__"))) (ho : PySem.W.subIn p.K (.ref (He.ga p.K cn)) (.type "object") = some true)
    (hb : Binds p.K fd ps []) (hn : ps.length = 2) {X : Cx} {E : XK} (a : At p X) (c : Ctx X E p.k) :
    OpR X (compareOp (if neg then .NotEq else .Eq)) (fun x y H Q => ∃ a b dx dy fs gs, x = .ref a ∧ y = .ref b ∧ H a = some (.ins (He.ga X.K cn) dx fs) ∧ H b = some (.ins (He.ga X.K cn) dy gs) ∧
      spD X.kw ps.length S [.ref a, .ref b] H (fun v H' => ∃ b, v = .bl b ∧ Q (.bl (neg ^^ b)) H') E) := by
  have akw := a.kw
  obtain ⟨aP, aw, aK, amg, ab⟩ := a
  unfold FnD at F
  rw [← akw, ← aP, ← aw, ← aK, ← amg, ← ab] at F
  rw [← aK] at hb hm hf hne ho
  have hroom : Room (j + 1) X.A := c.room.mono hj
  intro pins s σ H x y v u Q I rx ry h
  obtain ⟨a, b, dx, dy, fs, gs, rfl, rfl, e1, e2, h⟩ := h
  cases rx
  cases ry
  obtain ⟨mA, J, _⟩ := ins_get I.hok e1
  obtain ⟨mB, J', _⟩ := ins_get I.hok e2
  obtain ⟨od, J, _⟩ := J.look
  obtain ⟨od', J', _⟩ := J'.look
  obtain ⟨m, hF⟩ := I.fr
  cases neg with
  | false =>
    show wpAny (model X.prog X.w) X.A (compareOp .Eq (.ref a) (.ref b)) _ _ _
    refine PySem.W.cmp_K (op := .Eq) (tb := .ref (He.ga X.K cn)) c.room.units0 hF I.ok.mod.kin J J'.type (by simp [PySem.W.notFirst]) hm hf ?_
    refine wpAny_call (codeAny_mono (F.run X.A X.stack s H ⟨[.ref a, .ref b], []⟩ [.ref a, .ref b] [.ref a, .ref b] _ E (c.room.mono (Nat.le_of_succ_le hj)) I.env0 (by
      have := hb s [.ref a, .ref b] I.kIn (by simpa using hn.symm)
      simpa using this) (.cons rfl (.cons rfl .nil)) h) fun r s' hq => ?_)
    cases r with
    | error e => exact c.pass pins σ H s e s' I hq
    | ok fl =>
      cases fl with
      | ret u =>
        obtain ⟨v, H', I', rv, b, ev, q⟩ := I.after hq
        subst ev
        obtain rfl : u = Value.bool b := rv
        exact ⟨.bl b, H', I', rfl, by simpa using q⟩
      | next => exact False.elim hq
      | brk => exact False.elim hq
      | cont => exact False.elim hq
  | true =>
    show wpAny (model X.prog X.w) X.A (compareOp .NotEq (.ref a) (.ref b)) _ _ _
    unfold compareOp
    refine ne_own (K := X.K) (C := He.ga X.K cn) (f := f) (by have := c.room.units; omega) I.kIn J J' hne hm hf ho ?_
    refine wpAny_call (codeAny_mono (F.run X.A.in1 X.stack s H ⟨[.ref a, .ref b], []⟩ [.ref a, .ref b] [.ref a, .ref b] _ E hroom.in1 I.env0.in1 (by
      have := hb s [.ref a, .ref b] I.kIn (by simpa using hn.symm)
      simpa using this) (.cons rfl (.cons rfl .nil)) h) fun r s' hq => ?_)
    cases r with
    | error e => exact c.pass pins σ H s e s' I hq
    | ok fl =>
      cases fl with
      | ret u =>
        obtain ⟨v, H', I', rv, b, ev, q⟩ := I.after hq
        subst ev
        obtain rfl : u = Value.bool b := rv
        exact ⟨b, rfl, .bl !b, H', I', rfl, by simpa using q⟩
      | next => exact False.elim hq
      | brk => exact False.elim hq
      | cont => exact False.elim hq
theorem pCmp_inv {op : CmpOp} {e : Expr} {es : List Expr} (h : pCmp op e = some es) : ∃ a b pos, e = .Compare a [op] [b] pos ∧ es = [a, b] ∧ behindInMarks op b = false := by
  unfold pCmp at h
  split at h
  · rename_i a o b pos
    split at h
    · rename_i q
      simp only [Bool.and_eq_true, decide_eq_true_eq, Bool.not_eq_true'] at q
      obtain ⟨q1, q2⟩ := q
      subst q1
      cases h
      exact ⟨a, b, pos, rfl, rfl, q2⟩
    · cases h
  · cases h
theorem good_eqO {p : Pl} {j : Nat} {f : Addr} {fd : FuncData} {ps : List Str} {S : DSpec} {cn : Str} {neg : Bool} (F : FnD p j f fd ps S) (hj : j + 1 ≤ p.k) (hm : PySem.W.findIn p.K (.ref (He.ga p.K cn)) "__eq__" = some (some (.ref f)))
    (hf : PySem.W.isFn p.K (.ref f) = true) (hne : PySem.W.findIn p.K (.ref (He.ga p.K cn)) "__ne__" = some (some (.builtin "object.__ne__"))) (ho : PySem.W.subIn p.K (.ref (He.ga p.K cn)) (.type "object") = some true)
    (hb : Binds p.K fd ps []) (hn : ps.length = 2) : Good p (oEqO cn neg S) := by
  intro X E a c
  have op := eqO_op (neg := neg) F hj hm hf hne ho hb hn a c
  have link : ∀ {t u : DT} (σ : L2.St) (H : Hp) (Q : VK), teOf X.kw E (dApp (oEqO cn neg S) [t, u]) σ H Q → tOp (fun x y H Q => ∃ a b dx dy fs gs, x = .ref a ∧ y = .ref b ∧ H a = some (.ins (He.ga X.K cn) dx fs) ∧ H b = some (.ins (He.ga X.K cn) dy gs) ∧
      spD X.kw ps.length S [.ref a, .ref b] H (fun v H' => ∃ b, v = .bl b ∧ Q (.bl (neg ^^ b)) H') E) (teOf X.kw E t) (teOf X.kw E u) σ H Q := by
    intro t u σ H Q ⟨F0, μ, env, Qd, Ex, w, re, x, h, po⟩
    refine ⟨F0, μ, env, _, Ex, w, re, x, (dApp_args rfl h), fun F1 v H1 d μ1 l1 w1 r1 h1 => ?_⟩
    refine ⟨F1, μ1, env, _, Ex, w1, re.le l1, x.le l1, h1, fun F2 v2 H2 d2 μ2 l2 w2 r2 h2 => ?_⟩
    obtain ⟨h3, h4, h5⟩ := h2
    obtain ⟨a, dx, fs, rfl, e1, _⟩ := isIns_ok w2 (Rep.le l2 _ _ r1) h3
    obtain ⟨b, dy, gs, rfl, e2, _⟩ := isIns_ok w2 r2 h4
    refine ⟨a, b, dx, dy, fs, gs, rfl, rfl, e1, e2, hn.symm, F2, μ2, [d, d2], _, Ex, w2, RepL.mk (Rep.le l2 _ _ r1) (RepL.one r2), h5, fun F' v H' dv μ' l w' rd ⟨b, e, hq⟩ => ?_, x.le (l1.trans l2)⟩
    subst e
    rw [rep_bl] at rd
    exact ⟨b, rd, po F' _ H' _ μ' ((l1.trans l2).trans l) w' (rep_bl.mpr rfl) hq⟩
  refine ⟨fun {e es ts} h l => ?_, fun {e es ts} h l => ?_⟩
  · obtain ⟨a, b, pos, rfl, rfl, hm⟩ := pCmp_inv h
    obtain ⟨t, u, rfl, h1, h2⟩ := l.two
    exact PE.imp (pe_cmpR op h1 h2 hm) link
  · obtain ⟨a, b, pos, rfl, rfl, hm⟩ := pCmp_inv h
    obtain ⟨t, u, rfl, h1, h2⟩ := l.two
    refine PT.imp (pt_cmpR op h1 h2 hm) fun σ H Q ⟨F, μ, env, Qd, Ex, w, re, x, h, po⟩ => ?_
    refine link σ H _ ⟨F, μ, env, _, Ex, w, re, x, h, fun F1 v H1 d μ1 l1 w1 r1 ⟨b, e, h1⟩ => ?_⟩
    subst e
    rw [rep_bl] at r1
    exact ⟨b, r1, po F1 H1 b μ1 l1 w1 h1⟩
end DL
end
section
set_option Elab.async false
set_option linter.all false
set_option maxRecDepth 100000
set_option maxHeartbeats 4000000
namespace DLZ
open PySem PySem.Spec PyProof.Rows L2
section
variable {P : Program} {w : World} {A : Around} {E : Value → Shared → Prop} {s : Shared}
theorem call_set_listI {l : Addr} {items : Array Value} (ns : List Int) {Q : Value → Shared → Prop} (hh : A.handled = none) (hl : s.heap.IsList l items) (hit : IntsAre items.toList ns) (hb : ns.length + 1 < scanBound)
    (h : ∀ (h' : Heap) (tk c : Nat), SetR w h' s.heap.objs.size (fun j => decide (j ∈ ns)) c → c ≤ ns.length → (∀ b o, s.heap.get? b = some o → h'.get? b = some o) → Q (.ref s.heap.objs.size) { s with heap := h', toks := tk }) :
    wpAny (model P w) A (call (.type "set") [.ref l]) Q E s := by
  have hisz : items.size = ns.length := by
    have q := IntsAre.length hit
    rw [Array.length_toList] at q
    exact q
  obtain ⟨c, tl, hmro⟩ := F.called_set.mro
  have hmade := F.called_set.made
  have hsub := F.called_set.sub
  refine wpAny_call (codeAny_of_tree ?_)
  show wpAny _ _ (callAny (.type "set") _) _ _ _
  refine wpAny_pure ⟨Code.quiet_builtin _ (by decide +kernel), codeAny_builtin F.entry_type_call ?_⟩
  rw [Around.under_plain (weight_type_call_type "set" [.ref l] []) rfl]
  have h1 := F.called_set.notType
  have h2 := F.called_set.canCreate
  have hct := F.typeCall_set_1 (.ref l)
  repeat (any_goals (first | assumption | wp_step))

  refine codeAny_mono (code_set_led1 (.ref l) (E := E) (Q₁ := fun obj s₁ => obj = .ref s.heap.objs.size ∧ s₁ = { s with heap := s.heap.push { cls := .type "set", dict := none, data := .set #[] 0 (.fresh 0 0 (!w.params.followText "set-order")) } }) ⟨rfl, rfl⟩) fun r s₁ hr => ?_
  cases r with
  | error e => exact hr
  | ok fl =>
    cases fl with
    | ret obj =>
      obtain ⟨rfl, rfl⟩ := hr
      have hS : (s.heap.push { cls := .type "set", dict := none, data := .set #[] 0 (.fresh 0 0 (!w.params.followText "set-order")) }).get? s.heap.objs.size = some { cls := .type "set", dict := none, data := .set #[] 0 (.fresh 0 0 (!w.params.followText "set-order")) } := Heap.get?_push_size _ rfl
      have hT : Shared.TypeIs { s with heap := s.heap.push { cls := .type "set", dict := none, data := .set #[] 0 (.fresh 0 0 (!w.params.followText "set-order")) } } (.ref s.heap.objs.size) "set" := ⟨_, hS, rfl⟩
      have hli := F.called_set.init.lookup
      have hbi := F.called_set.init.bind (.ref s.heap.objs.size)
      repeat (any_goals (first | assumption | wp_step))

      refine codeAny_mono (codeAny_call_builtin (R := wants (fun r s₂ => r = .none ∧ ∃ h' tk c, s₂ = { s with heap := h', toks := tk } ∧ SetR w h' s.heap.objs.size (fun j => decide (j ∈ ns)) c ∧ c ≤ ns.length ∧
          (∀ b o, s.heap.get? b = some o → h'.get? b = some o)) E) F.called_set.init.plain F.entry_set_init (check_set_init_1 hT ?_)) fun r₂ s₂ hr₂ => ?_
      · obtain ⟨ol, hol, hcl, nl, hdl⟩ := hl
        obtain ⟨ocls, odict, odata, oslots⟩ := ol
        simp only at hcl hdl
        subst hcl; subst hdl
        have hol' : (s.heap.push { cls := .type "set", dict := none, data := .set #[] 0 (.fresh 0 0 (!w.params.followText "set-order")) }).get? l = some { cls := .type "list", dict := odict, data := .seq items nl, slots := oslots } := Heap.get?_push_of_some _ hol
        have hsls := F.sub_list_set
        have hslf := F.sub_list_frozenset
        have hne : (Value.type "list" == Value.type "dict") = false := by decide
        have hl1 : (s.heap.push { cls := .type "set", dict := none, data := .set #[] 0 (.fresh 0 0 (!w.params.followText "set-order")) }).IsList l items := ⟨_, hol', rfl, nl, rfl⟩
        unfold Builtin.«set.__init__» noKeywords Builtin.Frozenset.updateFrom
        generalize hPI : pyIter = PI
        wp_walk
        subst hPI

        refine wpAny_pyIter_list hl1 ?_
        refine wpAny_bind (wpAny_runValue ?_)
        have hlS : l < s.heap.objs.size := Heap.lt_size hol
        have hh3 : A.in1.in1.in1.handled = none := by simp [hh]
        have hz1 : (s.heap.push { cls := .type "set", dict := none, data := .set #[] 0 (.fresh 0 0 (!w.params.followText "set-order")) }).objs.size = s.heap.objs.size + 1 := Heap.size_push ..
        have hneI : l ≠ (s.heap.push { cls := .type "set", dict := none, data := .set #[] 0 (.fresh 0 0 (!w.params.followText "set-order")) }).objs.size := by
          rw [Heap.size_push]; exact Nat.ne_of_lt (Nat.lt_succ_of_lt hlS)
        have hSf : s.heap.objs.size ∉ [(s.heap.push { cls := .type "set", dict := none, data := .set #[] 0 (.fresh 0 0 (!w.params.followText "set-order")) }).objs.size, l] := by
          rw [Heap.size_push]; simp only [List.mem_cons, List.mem_singleton, List.not_mem_nil, or_false, not_or]
          exact ⟨Nat.ne_of_lt (Nat.lt_succ_self _), Nat.ne_of_gt hlS⟩
        have hval : ∀ (i : Nat) (v : Value), items[i]? = some v → ∃ k t, ns[i]? = some k ∧ v = .int k t := fun i v hv => by
          have hi : i < ns.length := by rw [← hisz]; exact (Array.getElem?_eq_some_iff.mp hv).1
          obtain ⟨t, e⟩ := PyProof.Rows.IntsAre.int_at hit i v (by rw [Array.getElem?_toList]; exact hv)
          refine ⟨ns[i], t, List.getElem?_eq_getElem hi, ?_⟩
          rw [e, List.getD_eq_getElem?_getD, List.getElem?_eq_getElem hi] <;> rfl
        refine set_update_ints ((Walks.list hh3 _ l hneI items).toS) s.heap.objs.size
          hSf ns hisz hb hval (items.size - 0) 0 _ (by omega) (Nat.zero_le _)
          ⟨⟨_, Heap.get?_push_size _ rfl, rfl, rfl⟩, (hl1.push _)⟩ ?hS0 ?hR
        case hS0 =>
          have hget : ((s.heap.push { cls := .type "set", dict := none, data := .set #[] 0 (.fresh 0 0 (!w.params.followText "set-order")) }).push { cls := .type "list_iterator", data := .fields #[.ref l, .int 0 0] }).get? s.heap.objs.size
              = some { cls := .type "set", dict := none, data := .set #[] 0 (.fresh 0 0 (!w.params.followText "set-order")) } := Heap.get?_push_of_some _ hS
          exact ⟨0, Nat.le_refl 0, setR_new_at hget⟩
        case hR =>
          intro s' c' hm hc' hS'
          obtain ⟨h', g2, d', tk', os'⟩ := s'
          have eg : g2 = s.gens := hm.gens
          have ed : d' = s.drawn := hm.drawn
          have eo : os' = s.os := hm.os
          subst eg; subst ed; subst eo
          show wpAny _ _ _ _ _ _
          refine wpAny_pure ?_
          show wpAny _ _ (ret Value.none) _ _ _
          rw [hisz] at hc'
          refine wpAny_pure ⟨rfl, h', tk', c', rfl, hS', hc', fun b o e => ?_⟩
          have hb0 : b < s.heap.objs.size := Heap.lt_size e
          have hb1 : b ≠ s.heap.objs.size := Nat.ne_of_lt hb0
          have hb2 : b ≠ (s.heap.push { cls := .type "set", dict := none, data := .set #[] 0 (.fresh 0 0 (!w.params.followText "set-order")) }).objs.size := by
            rw [Heap.size_push]; exact Nat.ne_of_lt (Nat.lt_succ_of_lt hb0)
          exact hm.heap b o (by simp only [List.mem_cons, List.mem_singleton, List.not_mem_nil, or_false, not_or]; exact ⟨hb1, hb2⟩) (Heap.get?_push_of_some _ (Heap.get?_push_of_some _ e))

      · cases r₂ with
        | error e => exact hr₂
        | ok fl₂ =>
          cases fl₂ with
          | ret r =>
            obtain ⟨rfl, h', tk, c', rfl, hS', hc', hk'⟩ := hr₂
            repeat (any_goals (first | assumption | wp_step))
            exact h _ _ _ hS' hc' hk'
          | _ => exact hr₂.elim
    | _ => exact hr.elim

end
end DLZ
end
section
set_option Elab.async false
set_option linter.all false
set_option maxRecDepth 100000
set_option maxHeartbeats 1000000
namespace DL
open PySem PySem.Spec L2 PyProof.Rows

def rSetL (K : PySem.W.Frag) (w : World) : List V → Hp → VK → Prop := fun xs H Q => ∃ (a : Addr) (ns : List Int), xs = [V.ref a] ∧ SqL K H a (ns.map V.int) ∧ ns.length < 64 ∧
  ∀ p c, H p = none → c ≤ ns.length → Q (.ref p) (upd H p (SetO w p (fun j => decide (j ∈ ns)) c))
theorem cr_setL {X : Cx} (hc : X.calm = true) : CallR X (.type "set") (rSetL X.K X.w) := by
  intro pins s σ H xs us Q I r h
  obtain ⟨a, ns, rfl, ha, h64, q⟩ := h
  rw [Vals.ref1 r]
  obtain ⟨its, rv, p', hz⟩ := I.list ha
  have hi : IntsAre its.toArray.toList ns := ints_of_vals rv
  refine DLZ.call_set_listI ns (I.ok.hd hc) p'.isList hi (by unfold scanBound; omega) fun h' tk c R hcn k => ?_
  exact ⟨.ref s.heap.objs.size, upd H s.heap.objs.size (SetO X.w s.heap.objs.size (fun j => decide (j ∈ ns)) c), I.laid (t' := tk) k (Nat.le_refl _) (setO_new R), rfl, q _ _ (I.hok.fresh (Nat.le_refl _)) hcn⟩
def pSortSet (sc : Scope) (e : Expr) : Option (List Expr) := match pCall "sorted" sc e with
  | some [c] => (match pCall "set" sc c with
    | some [a] => some [a]
    | _ => none)
  | _ => none
def sSortSet : S1 := fun x μ Q => ∃ ns : List Int, look μ x = .lst (ns.map D.int) ∧ ns.length < 64 ∧ ∀ out : List Int, out.Pairwise (· < ·) → (∀ k, k ∈ out ↔ k ∈ ns) → Q (.lst (out.map D.int)) μ
theorem pSortSet_inv {sc : Scope} {e : Expr} {es : List Expr} (h : pSortSet sc e = some es) : ∃ p q a pos pos', e = .Call (.Name "sorted" p) [.Call (.Name "set" q) [a] [] pos'] [] pos ∧ es = [a] ∧ sc.names.lookup ("sorted" : Str) = some .globalImplicit ∧ sc.names.lookup ("set" : Str) = some .globalImplicit ∧ notStar a = true := by
  unfold pSortSet at h
  split at h
  · rename_i c q
    split at h
    · rename_i a q2
      cases h
      obtain ⟨p, a', r, pos, rfl, e2, hg, hs⟩ := pCall_inv q
      cases e2
      obtain ⟨p2, a2, r2, pos2, rfl, e3, hg2, hs2⟩ := pCall_inv q2
      cases e3
      exact ⟨p, p2, _, pos, pos2, rfl, rfl, hg, hg2, by simpa using hs2⟩
    · cases h
  · cases h
def oSortSet : Std := ⟨⟨pSortSet, un1 sSortSet, fun _ _ => True⟩, fun {X E k} c => by
  refine OpnOk.plain (fun e es h => ?_) fun {e es ts} h l => ?_
  · obtain ⟨p, q, a, pos, pos', rfl, _⟩ := pSortSet_inv h; rfl
  · obtain ⟨p, q, a, pos, pos', rfl, rfl, hg, hg2, ha⟩ := pSortSet_inv h
    have hs : [a].all notStar = true := by simp [ha]
    have inner : PE X (.Call (.Name "set" q) [a] [] pos') (tCB (rSetL X.K X.w) (taOf X.kw E (dArgs ts))) :=
      pe_callTy (cr_setL c.calm) hg2 (c.free _ (by decide +kernel)) boot_set (l.pa hs) (by decide) (by decide) (starEach_cons ha) rfl
    refine PE.imp (pe_callB (cr_sortedSet c.calm) hg (c.free _ (by decide +kernel)) boot_sorted (pa_cons inner pa_nil (starEach_cons rfl)) (by decide) (by decide) (starEach_cons rfl) rfl) fun σ H Q ⟨F, μ, env, Qd, Ex, w, re, x, h, po⟩ => ?_
    refine ⟨F, μ, env, _, Ex, w, re, x, dApp_args rfl h, fun F1 vs H1 ds μ1 l1 w1 r1 h1 => ?_⟩
    have h1 : un1 sSortSet ds μ1 Qd Ex := h1
    unfold un1 at h1
    split at h1
    · obtain ⟨ns, e, h64, h1⟩ := h1
      obtain ⟨v, rfl, r2⟩ := r1.single
      obtain ⟨b, vs, rfl, hb, rb⟩ := w1.lst r2 e
      have := rb.ints; subst this
      refine ⟨b, ns, rfl, SqL.of hb, h64, fun p c hp hc => ?_⟩
      obtain ⟨w2, l2⟩ := w1.newF hp (SetO X.w p (fun j => decide (j ∈ ns)) c)
      refine ⟨p, _, c, rfl, upd_same, by omega, fun out q o1 o2 o3 hq => ?_⟩
      obtain ⟨w3, l3⟩ := w2.newF hq (.lst (out.map V.int))
      exact po _ _ _ _ μ1 ((l1.trans l2).trans l3) w3 (rep_lst.mpr ⟨q, _, rfl, upd_same, RepL.of_ints _⟩) (h1 out o1 fun k => by rw [o2]; simp)
    · exact h1.elim⟩

def pListRg (sc : Scope) (e : Expr) : Option (List Expr) := match pCall "list" sc e with
  | some [c] => (match pCall "range" sc c with
    | some [a] => some [a]
    | _ => none)
  | _ => none
theorem pListRg_inv {sc : Scope} {e : Expr} {es : List Expr} (h : pListRg sc e = some es) : ∃ p q a pos pos', e = .Call (.Name "list" p) [.Call (.Name "range" q) [a] [] pos'] [] pos ∧ es = [a] ∧ sc.names.lookup ("list" : Str) = some .globalImplicit ∧ sc.names.lookup ("range" : Str) = some .globalImplicit ∧ notStar a = true := by
  unfold pListRg at h
  split at h
  · rename_i c q
    split at h
    · rename_i a q2
      cases h
      obtain ⟨p, a', r, pos, rfl, e2, hg, hs⟩ := pCall_inv q
      cases e2
      obtain ⟨p2, a2, r2, pos2, rfl, e3, hg2, hs2⟩ := pCall_inv q2
      cases e3
      exact ⟨p, p2, _, pos, pos2, rfl, rfl, hg, hg2, by simpa using hs2⟩
    · cases h
  · cases h
def upto (n : Int) : List Int := (List.range n.toNat).map fun i => ((i : Nat) : Int)
def sListRg : S1 := fun x μ Q => ∃ n : Int, x = .int n ∧ n ≤ 16777216 ∧ 0 ≤ n ∧ Q (.lst ((upto n).map D.int)) μ
def oListRg : Std := ⟨⟨pListRg, un1 sListRg, fun _ _ => True⟩, fun {X E k} c => by
  refine OpnOk.plain (fun e es h => ?_) fun {e es ts} h l => ?_
  · obtain ⟨p, q, a, pos, pos', rfl, _⟩ := pListRg_inv h; rfl
  · obtain ⟨p, q, a, pos, pos', rfl, rfl, hg, hg2, ha⟩ := pListRg_inv h
    obtain ⟨t, rfl, h1⟩ := l.one
    refine PE.imp (pe_listRg c.calm hg (c.free _ (by decide +kernel)) (prg_1 hg2 (c.free _ (by decide +kernel)) h1 (starEach_cons ha)) (starEach_cons rfl)) fun σ H Q ⟨F, μ, env, Qd, Ex, w, re, x, h, po⟩ => ?_
    refine ⟨F, μ, env, _, Ex, w, re, x, h, fun F1 v H1 d μ1 l1 w1 r1 h1 => ?_⟩
    obtain ⟨_, n, rfl, h2, h3, h4⟩ := h1
    rw [rep_int] at r1; subst r1
    refine ⟨n, rfl, RgOk.of_le (Int.le_refl _) h2 (by omega) h3, fun q hq => ?_⟩
    have e : rgV 0 n = ((upto n).map V.int) := by
      unfold rgV upto
      rw [List.map_map]
      simp
    rw [e]
    obtain ⟨w2, l2⟩ := w1.newF hq (.lst ((upto n).map V.int))
    exact po _ _ _ _ μ1 (l1.trans l2) w2 (rep_lst.mpr ⟨q, _, rfl, upd_same, RepL.of_ints _⟩) h4⟩
end DL
end
section
set_option Elab.async false
set_option linter.all false
set_option maxRecDepth 100000
set_option maxHeartbeats 1000000
namespace DL
open PySem PySem.Spec L2 PyProof.Rows

def sAddM : S2 := fun x y μ Q => ∃ xs ys, look μ x = .lst xs ∧ look μ y = .lst ys ∧ xs.length + ys.length ≤ sizeLine ∧ ∀ a, μ a = none → Q (.ref a) (μ.set a (.lst (xs ++ ys)))
theorem linkAddM {X : Cx} : Link2 X sAddM rCat := by
  intro F μ H x y v u Qd Q w r1 r2 ⟨xs, ys, e1, e2, hl, h⟩ p
  obtain ⟨a, vs, rfl, ha, ra⟩ := w.lst r1 e1
  obtain ⟨b, us, rfl, hb, rb⟩ := w.lst r2 e2
  refine ⟨a, b, vs, us, rfl, rfl, ha, hb, ?_, fun q hq => ?_⟩
  · rw [← ra.length, ← rb.length]; exact hl
  · exact p _ _ _ _ _ (Same.refl _) (w.newM hq (m := .lst (xs ++ ys)) (o := .lst (vs ++ us)) ⟨_, rfl, ra.app rb⟩) (rep_ref.mpr rfl) (h q (w.freeM hq))
def oAddM : Std := ⟨⟨fun _ => pBin .Add, bi2 sAddM, fun _ _ => True⟩, fun _ => bin_std op_cat linkAddM⟩

def pSetIx : Stmt → Option (List Expr)
  | .Assign [.Subscript o i _] v _ => if notSlice i then some [v, o, i] else none
  | _ => none
def putKD (kvs : List (Key × D)) (k : Key) (v : D) : List (Key × D) := if (kvs.any fun kv => decide (kv.1 = k)) = true then kvs.map (fun kv => if kv.1 = k then (kv.1, v) else kv) else kvs ++ [(k, v)]
theorem keyD_rep {K : PySem.W.Frag} {F : Hp} {k : Key} : Rep K F (keyD k) (kV k) := by
  cases k with
  | inl i => exact rep_int.mpr rfl
  | inr s => exact rep_str.mpr rfl
theorem keyD_inv {K : PySem.W.Frag} {F : Hp} {k : Key} {v : V} (h : Rep K F (keyD k) v) : v = kV k := by
  cases k with
  | inl i => exact rep_int.mp h
  | inr s => exact rep_str.mp h
theorem RepK.put {K : PySem.W.Frag} {F : Hp} {k : Key} {d : D} {v : V} (h : Rep K F d v) {ds : List (Key × D)} {vs : List (Key × V)} (r : RepK K F ds vs) : RepK K F (putKD ds k d) (putK vs k v) := by
  have hany : ∀ {ds : List (Key × D)} {vs : List (Key × V)}, RepK K F ds vs → (ds.any fun kv => decide (kv.1 = k)) = (vs.any fun kv => decide (kv.1 = k)) := by
    intro ds
    induction ds with
    | nil => intro vs r; rw [repK_nil] at r; subst r; rfl
    | cons a ds ih =>
      intro vs r
      obtain ⟨v, r', rfl, h1, h2⟩ := repK_cons.mp r
      simp only [List.any_cons, ih h2]
  have hmap : ∀ {ds : List (Key × D)} {vs : List (Key × V)}, RepK K F ds vs → RepK K F (ds.map (fun kv => if kv.1 = k then (kv.1, d) else kv)) (vs.map (fun kv => if kv.1 = k then (kv.1, v) else kv)) := by
    intro ds
    induction ds with
    | nil => intro vs r; rw [repK_nil] at r; subst r; exact repK_nil.mpr rfl
    | cons a ds ih =>
      intro vs r
      obtain ⟨a1, a2⟩ := a
      obtain ⟨v', r', rfl, h1, h2⟩ := repK_cons.mp r
      simp only [List.map_cons]
      by_cases e : a1 = k
      · simp only [e, if_true]; exact repK_cons.mpr ⟨v, _, rfl, h, ih h2⟩
      · simp only [e, if_false]; exact repK_cons.mpr ⟨v', _, rfl, h1, ih h2⟩
  have happ : ∀ {ds : List (Key × D)} {vs : List (Key × V)}, RepK K F ds vs → RepK K F (ds ++ [(k, d)]) (vs ++ [(k, v)]) := by
    intro ds
    induction ds with
    | nil => intro vs r; rw [repK_nil] at r; subst r; exact repK_cons.mpr ⟨v, _, rfl, h, repK_nil.mpr rfl⟩
    | cons a ds ih =>
      intro vs r
      obtain ⟨a1, a2⟩ := a
      obtain ⟨v', r', rfl, h1, h2⟩ := repK_cons.mp r
      exact repK_cons.mpr ⟨v', _, rfl, h1, ih h2⟩
  unfold putK putKD
  rw [hany r]
  split
  · exact hmap r
  · exact happ r
def sSetIx : SOpn := ⟨fun _ => pSetIx, fun ds k env μ => match ds with
  | [d, .ref a, y] => (∃ xs i j, μ a = some (.lst xs) ∧ y = .int i ∧ ixN xs.length i = some j ∧ k.nx env (μ.set a (.lst (xs.set j d)))) ∨
      ∃ kvs q, μ a = some (.dct kvs) ∧ keyOf y = some q ∧ kvs.length < sizeLine ∧ k.nx env (μ.set a (.dct (putKD kvs q d)))
  | _ => False, fun _ _ => True⟩
theorem swaps_sub {v o i : Expr} {p : Pos} {l : Nat} {env : PySem.Env} : swapsWith v (some (.Subscript o i p)) l env = pure false := by
  cases v <;> rfl
def rSetLD : TSet := fun o i v H Q => L2.rSetL o i v H Q ∨ rSetD o i v H Q
theorem set_LD {X : Cx} (hu : X.A.units + 1 < cLine) : PSet X rSetLD := by
  intro pins s σ H o i v ov iv u Q I ro ri rv h
  rcases h with h | h
  · exact set_list pins s σ H o i v ov iv u Q I ro ri rv h
  · exact set_dict hu pins s σ H o i v ov iv u Q I ro ri rv h
def stSetIx : StdS := ⟨sSetIx, fun {X E k} c => by
  intro st es ts h l
  have h2 : pSetIx st = some es := h
  clear h
  unfold pSetIx at h2
  split at h2
  · rename_i o i tp v pos
    split at h2
    · rename_i q
      cases h2
      obtain ⟨tv, to, ti, rfl, hv, ho, hi⟩ : ∃ tv to ti, ts = [tv, to, ti] ∧ DEj X E v tv ∧ DEj X E o to ∧ DEj X E i ti := by
        cases l with
        | cons h1 l => obtain ⟨a, b, rfl, h2, h3⟩ := l.two; exact ⟨_, _, _, rfl, h1, h2, h3⟩
      have pi := plainIx_of q
      refine PS.imp (ps_asg hv (pg_sub ho hi (set_LD c.hu) (by intro _; cases i <;> first | rfl | cases q)) (by cases v <;> rfl) (by cases v <;> rfl)) fun D σ H ⟨F, μ, env, k, w, re, x, h, en⟩ => ?_
      refine ⟨F, μ, env, _, k.ex, w, re, x, h, fun F1 v1 H1 d1 μ1 l1 w1 r1 h1 => ?_⟩
      refine ⟨F1, μ1, env, _, k.ex, w1, re.le l1, x.le l1, h1.2, fun F2 v2 H2 d2 μ2 l2 w2 r2 h2 => ?_⟩
      refine ⟨F2, μ2, env, _, k.ex, w2, re.le (l1.trans l2), x.le (l1.trans l2), h2.2, fun F3 v3 H3 d3 μ3 l3 w3 r3 h3 => ?_⟩
      replace h3 := h3.2
      have r1 := Rep.le (l2.trans l3) _ _ r1
      cases d2 <;> try exact h3.elim
      rename_i b
      rw [rep_ref] at r2; subst r2
      rcases h3 with ⟨xs, i', j, e1, rfl, e2, h3⟩ | ⟨kvs, q, e1, e2, e3, h3⟩
      · obtain ⟨u, e3, vs, rfl, rf⟩ := w3.mem _ _ e1
        rw [rep_int] at r3; subst r3
        refine .inl ⟨b, vs, i', j, rfl, rfl, e3, by rw [← rf.length]; exact e2, ?_⟩
        exact en.nx F3 σ _ env _ ((l1.trans l2).trans l3) (w3.setM e1 (.ofL (rf.set j r1))) (re.le ((l1.trans l2).trans l3)) h3
      · obtain ⟨u, e4, vs, rfl, rf⟩ := w3.mem _ _ e1
        have := keyOf_rep e2 r3; subst this
        refine .inr ⟨b, _, rfl, DPut.k e4 (by rw [← rf.length]; exact e3), ?_⟩
        exact en.nx F3 σ _ env _ ((l1.trans l2).trans l3) (w3.setM e1 (m := .dct (putKD kvs q d1)) ⟨_, rfl, RepK.put r1 rf⟩) (re.le ((l1.trans l2).trans l3)) h3
    · cases h2
  · cases h2⟩

def pairD (kv : Key × D) : D := .tup [keyD kv.1, kv.2]
def mergeD (kvs more : List (Key × D)) : List (Key × D) := more.foldl (fun acc kv => putKD acc kv.1 kv.2) kvs
theorem RepK.merge {K : PySem.W.Frag} {F : Hp} : ∀ {more : List (Key × D)} {ms : List (Key × V)} {ds : List (Key × D)} {vs : List (Key × V)}, RepK K F more ms → RepK K F ds vs → RepK K F (mergeD ds more) (mergeK vs ms)
  | [], ms, ds, vs, r, q => by rw [repK_nil] at r; subst r; exact q
  | (a1, a2) :: more, ms, ds, vs, r, q => by
    obtain ⟨v', r', rfl, h1, h2⟩ := repK_cons.mp r
    show RepK K F (mergeD (putKD ds a1 a2) more) (mergeK (putK vs a1 v') r')
    exact RepK.merge h2 (RepK.put h1 q)
theorem pairs_rep {K : PySem.W.Frag} {F H : Hp} (l : Le F H) : ∀ {kvs : List (Key × D)} {vs : List V}, RepL K F (kvs.map pairD) vs →
    ∃ ps ws, vs = ps.map V.ref ∧ Paired (fun p kv => SqT K H p [kV kv.1, kv.2]) ps ws ∧ RepK K F kvs ws
  | [], vs, r => by
    rw [List.map_nil, repL_nil] at r; subst r
    exact ⟨[], [], rfl, .nil, repK_nil.mpr rfl⟩
  | (k, d) :: kvs, vs, r => by
    rw [List.map_cons] at r
    obtain ⟨v, r', rfl, h1, h2⟩ := repL_cons.mp r
    obtain ⟨ps, ws, rfl, h3, h4⟩ := pairs_rep l h2
    obtain ⟨a, xs, rfl, ha, ra⟩ := rep_tup.mp h1
    obtain ⟨x, y, rfl, rx, ry⟩ := ra.two
    have := keyD_inv rx; subst this
    exact ⟨a :: ps, (k, y) :: ws, rfl, .cons (SqT.le l ha.sq) h3, repK_cons.mpr ⟨y, ws, rfl, ry, h4⟩⟩
def rDctP (K : PySem.W.Frag) : List V → Hp → VK → Prop := fun xs H Q => ∃ (a : Addr) (ps : List Addr) (kvs : List (Key × V)), xs = [.ref a] ∧ SqL K H a (ps.map V.ref) ∧ Paired (fun p kv => SqT K H p [kV kv.1, kv.2]) ps kvs ∧
  ∀ p o, H p = none → Q (.ref p) (upd H p (.frz o (.dK (mergeK [] kvs))))
theorem call_dictPF {X : Cx} (hc : X.calm = true) : CallR X (.type "dict") (rDctP X.K) := by
  intro pins s σ H xs us Q I r ⟨a, ps, kvs, e, h1, h2, q⟩
  refine thn (call_dictP hc pins s σ H xs us (fun v H' => ∃ p, v = .ref p ∧ H p = none ∧ H' = upd H p (.dK (mergeK [] kvs))) I r ⟨a, ps, kvs, e, h1, h2, fun p hp => ⟨p, rfl, hp, rfl⟩⟩) fun v s1 ⟨x, H1, I1, rv, p, ex, hp, e1⟩ => ?_
  subst ex
  subst e1
  obtain ⟨od, I2⟩ := I1.lock (d := p) upd_same True.intro
  rw [upd_upd] at I2
  exact ⟨.ref p, _, I2, rv, q p od hp⟩
def sDictP : S1 := fun x μ Q => ∃ kvs, look μ x = .lst (kvs.map pairD) ∧ Q (.dct (mergeD [] kvs)) μ
theorem linkDictP {X : Cx} : LinkL X (l1 sDictP) (rDctP X.K) := link_l1 fun F μ H x v Qd Q w r h p => by
  obtain ⟨kvs, e, h⟩ := h
  obtain ⟨a, vs, rfl, ha, ra⟩ := w.lst r e
  obtain ⟨ps, ws, rfl, h3, h4⟩ := pairs_rep w.le ra
  refine ⟨a, ps, ws, rfl, SqL.of ha, h3, fun q o hq => ?_⟩
  obtain ⟨w', l⟩ := w.newF hq (.frz o (.dK (mergeK [] ws)))
  exact p _ _ _ _ μ l w' (rep_dct.mpr ⟨q, _, rfl, ⟨o, upd_same⟩, RepK.le l _ _ (RepK.merge h4 (repK_nil.mpr rfl))⟩) h
def oDictP : Std := ⟨⟨pCall "dict", lf (l1 sDictP), fun _ _ => True⟩, fun c => callT_std c (by decide +kernel) (call_dictPF c.calm) linkDictP boot_dict⟩

def pItems (sc : Scope) (tg e : Expr) : Option (List Expr) := if isTup tg then (match e with
  | .Call (.Attribute o m ap) [] [] cp => if decide (m = "items") && (notSuper o && decide (ap.endLine = cp.line)) then some [o] else none
  | _ => none) else none
theorem pItems_inv {sc : Scope} {tg e : Expr} {es : List Expr} (h : pItems sc tg e = some es) : ∃ elts kk tpos o ap cp, tg = .Tuple elts kk tpos ∧ e = .Call (.Attribute o "items" ap) [] [] cp ∧ es = [o] ∧ notSuper o = true ∧ (ap.endLine == cp.line) = true := by
  unfold pItems at h
  split at h
  · rename_i ht
    split at h
    · rename_i o m ap cp
      split at h
      · rename_i q
        simp only [Bool.and_eq_true, decide_eq_true_eq] at q
        obtain ⟨q1, q2, q3⟩ := q
        subst q1
        cases h
        obtain ⟨elts, kk, tpos, rfl⟩ : ∃ elts kk tpos, tg = .Tuple elts kk tpos := by
          cases tg <;> first | (cases ht; done) | exact ⟨_, _, _, rfl⟩
        exact ⟨elts, kk, tpos, o, ap, cp, rfl, rfl, rfl, q2, by simpa using q3⟩
      · cases h
    · cases h
  · cases h
def sItems : List D → Mem → QI → Prop := fun ds μ Qi => match ds with
  | [.dct kvs] => Qi (kvs.map pairD) (fun _ => True) μ
  | _ => False
theorem RepK.get {K : PySem.W.Frag} {F : Hp} : ∀ {ds : List (Key × D)} {vs : List (Key × V)} {i : Nat} {k : Key} {v : V}, RepK K F ds vs → vs[i]? = some (k, v) → ∃ d, ds[i]? = some (k, d) ∧ Rep K F d v
  | [], vs, i, k, v, r, h => by rw [repK_nil] at r; subst r; cases h
  | (a1, a2) :: ds, vs, i, k, v, r, h => by
    obtain ⟨v', r', rfl, h1, h2⟩ := repK_cons.mp r
    cases i with
    | zero => simp at h; obtain ⟨rfl, rfl⟩ := h; exact ⟨a2, rfl, h1⟩
    | succ i =>
      obtain ⟨d, e, q⟩ := RepK.get (i := i) (k := k) (v := v) h2 (by simpa using h)
      exact ⟨d, by simpa using e, q⟩
theorem walk_it {K : KW} {F : Hp} {a : Addr} {o : Obj} {ws : List (Key × V)} {kvs : List (Key × D)} (ha : F a = some (.frz o (.dK ws))) (r : RepK K F kvs ws) : WalkD K F (Iti a o ws) (kvs.map pairD) (fun _ => True) := by
  have hl := r.length
  refine ⟨fun i F2 μ2 H2 l w k hi => ⟨w.le _ _ (l _ _ ha), by rw [← hl]; simpa using hi⟩, fun F2 μ2 H2 l w k => ⟨w.le _ _ (l _ _ ha), by rw [← hl]; simp⟩, fun i F2 μ2 H2 x H3 l w k hi y => ?_⟩
  obtain ⟨T, k', v, e, rfl, hT, hH⟩ := y
  obtain ⟨d, e2, rd⟩ := (RepK.le l _ _ r).get e
  obtain ⟨F3, l3, w3, r3⟩ := pair_yld w hT hH (keyD_rep (k := k')) rd
  exact ⟨F3, _, l3, w3, by simp [e2, pairD], r3⟩
def iItems : StdI := ⟨⟨pItems, sItems⟩, fun {X E k} c => by
  intro tg it es ts h l
  obtain ⟨elts, kk, tpos, o, ap, cp, rfl, rfl, rfl, hs, hl⟩ := pItems_inv (sc := X.env.scope) h
  obtain ⟨t, rfl, h1⟩ := l.one
  refine ⟨fun pins s σ H R I hw => (pi_items h1 (base_of hs) hl).run pins s σ H R I ?_⟩
  obtain ⟨F, μ, env, Qi, Ex, w, re, x, h, po⟩ := hw
  refine ⟨F, μ, env, _, Ex, w, re, x, h, fun F1 v H1 d μ1 l1 w1 r1 h1 => ?_⟩
  have h1 : sItems [d] μ1 Qi := h1
  cases d <;> try exact h1.elim
  rename_i kvs
  obtain ⟨a, ws, rfl, ⟨o, ha⟩, rk⟩ := rep_dct.mp r1
  exact ⟨a, o, ws, rfl, w1.le _ _ ha, po F1 H1 _ _ μ1 _ l1 w1 (walk_it ha rk) h1⟩, fun sc tg it es h => by
  obtain ⟨elts, kk, tpos, o, ap, cp, rfl, rfl, rfl, hs, hl⟩ := pItems_inv (sc := sc) h
  exact folded_of rfl⟩
end DL
end
section
set_option Elab.async false
set_option linter.all false
set_option maxRecDepth 100000
set_option maxHeartbeats 1000000
namespace DL
open PySem PySem.Spec L2 PyProof.Rows

def signs (x : Str) : List D := x.cps.toList.map fun c => D.str ⟨#[c]⟩
theorem walk_s {K : KW} {F : Hp} {x : Str} : WalkD K F (Its x) (signs x) (fun _ => True) := by
  refine ⟨fun i F2 μ2 H2 l w k hi => (show i < x.cps.size by simpa [signs] using hi), fun F2 μ2 H2 l w k => by simp [signs, Its], fun i F2 μ2 H2 y H3 l w k hi h => ?_⟩
  obtain ⟨rfl, c, e, rfl⟩ := h
  refine ⟨F2, .str ⟨#[c]⟩, Same.refl _, w, ?_, rep_str.mpr rfl⟩
  simp [signs, e]
def sStrI : List D → Mem → QI → Prop := fun ds μ Qi => match ds with
  | [.str x] => Qi (signs x) (fun _ => True) μ
  | _ => False
theorem strI_ok {X : Cx} {E : XK} {k : Nat} (c : Ctx X E k) : ItnOk X E ⟨fun _ _ e => if notSet e then some [e] else none, sStrI⟩ := by
  intro tg it es ts h l
  have h : (if notSet it then some [it] else none) = some es := h
  split at h
  · rename_i hn
    cases h
    obtain ⟨t, rfl, h1⟩ := l.one
    refine ⟨fun pins s σ H R I hw => (pi_str h1).run pins s σ H R I ?_⟩
    obtain ⟨F, μ, env, Qi, Ex, w, re, x, h, po⟩ := hw
    refine ⟨F, μ, env, _, Ex, w, re, x, h, fun F1 v H1 d μ1 l1 w1 r1 h1 => ?_⟩
    have h1 : sStrI [d] μ1 Qi := h1
    cases d <;> try exact h1.elim
    exact ⟨_, rep_str.mp r1, po F1 H1 _ _ μ1 _ l1 w1 walk_s h1⟩
  · cases h
def iStr : StdI := ⟨⟨fun _ _ e => if notSet e then some [e] else none, sStrI⟩, strI_ok, fun sc tg it es h env x => by
  have h : (if notSet it then some [it] else none) = some es := h
  split at h
  · rename_i hn; exact folded_of hn env x
  · cases h⟩

def xcB (K : PySem.W.Frag) (c : Str) : Bool := He.eqO (PySem.W.findIn K (.ref (He.ga K c)) "__ne__") (some (some (.builtin "object.__ne__"))) && (decide (PySem.W.subIn K (.ref (He.ga K c)) (.type "object") = some true) &&
  (He.eqO (PySem.W.findIn K (.ref (He.ga K c)) "__class__") (some (some (.builtin "object.__class__"))) && (He.eqO (PySem.W.specialIn K (.builtin "object.__class__") "__get__") (some (some (.builtin "getset_descriptor.__get__"))) &&
  (decide (PySem.W.takesIn K (.builtin "object.__class__") = some true) && decide (PySem.W.mroIn K (He.ga K c) (.type "object") = some true)))))
structure Xc (K : PySem.W.Frag) (c : Str) : Prop where
  ne : PySem.W.findIn K (.ref (He.ga K c)) "__ne__" = some (some (.builtin "object.__ne__"))
  sub : PySem.W.subIn K (.ref (He.ga K c)) (.type "object") = some true
  cl : PySem.W.findIn K (.ref (He.ga K c)) "__class__" = some (some (.builtin "object.__class__"))
  gt : PySem.W.specialIn K (.builtin "object.__class__") "__get__" = some (some (.builtin "getset_descriptor.__get__"))
  tk : PySem.W.takesIn K (.builtin "object.__class__") = some true
  mro : PySem.W.mroIn K (He.ga K c) (.type "object") = some true
theorem xc_ok {K : PySem.W.Frag} {c : Str} (h : xcB K c = true) : Xc K c := by
  unfold xcB at h
  simp only [Bool.and_eq_true, decide_eq_true_eq] at h
  obtain ⟨h1, h2, h3, h4, h5, h6⟩ := h
  exact ⟨He.eqO_ok h1, h2, He.eqO_ok h3, He.eqO_ok h4, h5, h6⟩

def sIsiO (c : Str) : S2 := fun x y μ Q => y = .cls c ∧ (∃ fs, insOf c μ x = some fs) ∧ Q (.bl true) μ
def oIsiO (c : Str) : Opn := ⟨pCall "isinstance", lf (l2 (sIsiO c)), fun _ _ => True⟩
theorem good_isiO {p : Pl} {c : Str} (cl : Cls p.K (He.ga p.K c)) (xc : Xc p.K c) : Good p (oIsiO c) := by
  intro X E a cx
  have akw := a.kw
  obtain ⟨aP, aw, aK, amg, ab⟩ := a
  rw [← aK] at cl xc
  refine callB_std cx (by decide +kernel) call_isi (link_l2 fun F μ H x y v u Qd Q w r1 r2 h po => ?_) PyProof.Rows.boot_isinstance
  obtain ⟨rfl, ⟨fs, e⟩, h⟩ := h
  obtain ⟨b, dx, gs, rfl, e2, _⟩ := insOf_ok w r1 e
  have r2 : u = V.ref (He.ga X.K c) := by unfold Rep at r2; exact r2
  subst r2
  exact ⟨_, _, _, _, true, rfl, .own _, .base (.ins e2 cl xc.cl xc.gt xc.tk xc.mro), by simp [PySem.W.kitOne], po F _ H _ μ (Same.refl _) w (rep_bl.mpr rfl) h⟩

abbrev AlX : Type := He.AlD × Bool
def SaysX (fa : List He.Fa) (fn : List He.DefD) (ex : PySem.W.Frag → Bool) (K : PySem.W.Frag) : Prop := He.SaysD fa fn K ∧ ex K = true
def obsXG (n : Nat) (fa : List He.Fa) (fn : List He.DefD) (ex : PySem.W.Frag → Bool) (g : Addr → Option Obj) : AlX := (He.obsD fa fn (He.frG g (He.asD g n)), ex (He.frG g (He.asD g n)))
def hookX (n : Nat) (fa : List He.Fa) (fn : List He.DefD) (ex : PySem.W.Frag → Bool) : PySem.W.Hook where
  α := AlX
  obs := fun s => obsXG n fa fn ex s.heap.get?
  val := fun _ => (He.valD fn, true)
  says := fun _ h => ∃ K : PySem.W.Frag, K.In h ∧ SaysX fa fn ex K
  of := fun _ _ e => ⟨_, He.frG_in, congrArg Prod.fst e, congrArg Prod.snd e⟩
  keeps := fun _ _ _ ⟨K, hK, c⟩ k => ⟨K, PySem.W.Frag.In.keeps hK k, c⟩
theorem obsXG_eq {n : Nat} {fa : List He.Fa} {fn : List He.DefD} {ex : PySem.W.Frag → Bool} {g : Addr → Option Obj} {s : Shared} (h : ∀ a, g a = s.heap.get? a) : obsXG n fa fn ex g = (hookX n fa fn ex).obs s := by
  have e : g = s.heap.get? := funext h
  rw [e] <;> rfl

structure Has (p : Pl) (k : Nat) (at_ : Str × Option Str) (ps : List Str) (dd : List D) (S : DSpec) : Prop where
  ex : ∃ fd dvs dus, FnD p k (He.fAd p.K at_) fd ps S ∧ PySem.W.keepIn p.K (.ref (He.fAd p.K at_)) = true ∧ Binds p.K fd ps dus ∧ Vals dvs dus ∧ ∀ F, RepL p.K F dd dvs
def Pl.at (p : Pl) (k : Nat) : Pl := { p with k := k }
theorem Has.fn {p : Pl} {j k : Nat} {x : Str} {n : Nat} {ps : List Str} {dd : List D} {S : DSpec} (h : Has p j (x, none) ps dd S) (hj : j ≤ k) (hm : p.mg x = some (.ref (He.ga p.K x))) (hn : n + dd.length = ps.length) (hdb : (x == ("__debug__" : Str)) = false := by decide) : Good (p.at k) (oFn x n dd S) := by
  obtain ⟨fd, dvs, dus, F, kp, b, v, r⟩ := h.ex
  exact good_fn (p := p.at k) F hj hm kp b v r hn hdb
theorem Has.meth {p : Pl} {j k : Nat} {c m : Str} {n : Nat} {ps : List Str} {dd : List D} {S : DSpec} (h : Has p j (c, some m) ps dd S) (hj : j ≤ k) (cl : Cls p.K (He.ga p.K c)) (hm : Meth p.K (He.ga p.K c) m (He.ma p.K (He.ga p.K c) m)) (hn : 1 + n + dd.length = ps.length) : Good (p.at k) (oMeth c m n dd S) := by
  obtain ⟨fd, dvs, dus, F, kp, b, v, r⟩ := h.ex
  exact good_meth (p := p.at k) F hj cl hm b v r hn
theorem Has.makeF {p : Pl} {j k : Nat} {c : Str} {n : Nat} {ps : List Str} {dd : List D} {S : DSpec} (h : Has p j (c, some "__init__") ps dd S) (hj : j + 1 ≤ k) (M : Mk p.K (He.ga p.K c) (He.ma p.K (He.ga p.K c) "__init__")) (hm : p.mg c = some (.ref (He.ga p.K c))) (hn : 1 + n + dd.length = ps.length) (hdb : (c == ("__debug__" : Str)) = false := by decide) : Good (p.at k) (oMakeF c n dd S) := by
  obtain ⟨fd, dvs, dus, F, kp, b, v, r⟩ := h.ex
  exact good_makeF (p := p.at k) F hj M hm b v r hn hdb
theorem Has.make {p : Pl} {j k : Nat} {c : Str} {n : Nat} {ps : List Str} {dd : List D} {S : DSpec} (h : Has p j (c, some "__init__") ps dd S) (hj : j + 1 ≤ k) (M : Mk p.K (He.ga p.K c) (He.ma p.K (He.ga p.K c) "__init__")) (hm : p.mg c = some (.ref (He.ga p.K c))) (hn : 1 + n + dd.length = ps.length) (hdb : (c == ("__debug__" : Str)) = false := by decide) : Good (p.at k) (oMake c n dd S) := by
  obtain ⟨fd, dvs, dus, F, kp, b, v, r⟩ := h.ex
  exact good_make (p := p.at k) F hj M hm b v r hn hdb
theorem Has.eqO {p : Pl} {j k : Nat} {c : Str} {ps : List Str} {neg : Bool} {S : DSpec} (h : Has p j (c, some "__eq__") ps [] S) (hj : j + 1 ≤ k) (hm : Meth p.K (He.ga p.K c) "__eq__" (He.ma p.K (He.ga p.K c) "__eq__")) (xc : Xc p.K c) (hn : ps.length = 2) : Good (p.at k) (oEqO c neg S) := by
  obtain ⟨fd, dvs, dus, F, kp, b, v, r⟩ := h.ex
  have := (r (fun _ => none))
  rw [repL_nil] at this
  subst this
  cases v
  exact @good_eqO (p.at k) j _ fd ps S c neg F hj hm.at_ hm.fn xc.ne xc.sub b hn
theorem Has.lenO {p : Pl} {j k : Nat} {c : Str} {ps : List Str} {S : DSpec} (h : Has p j (c, some "__len__") ps [] S) (hj : j + 1 ≤ k) (hm : Meth p.K (He.ga p.K c) "__len__" (He.ma p.K (He.ga p.K c) "__len__")) (hn : ps.length = 1) : Good (p.at k) (oLenO c S) := by
  obtain ⟨fd, dvs, dus, F, kp, b, v, r⟩ := h.ex
  have := (r (fun _ => none))
  rw [repL_nil] at this
  subst this
  cases v
  exact @good_lenO (p.at k) j _ fd ps S c F hj hm b hn
theorem has_of {p : Pl} {k : Nat} {d : He.DefD} {N ps : List Str} {S : DSpec} {dd : List D} (b : DSs) (e : ∃ fd, FunD p.K d.name d.qual d.params d.body d.scope (d.dvs p.K) (d.kws p.K) (He.fAd p.K d.at_) fd)
    (sc : C8.scC N ps d.scope = true) (hc : chkSs N d.scope b d.body = true) (free : ∀ x, x ∈ bltNames → p.mg x = none) (u : usesSs (Good (p.at k)) (SGood (p.at k)) b)
    (bd : ∀ fd, FunD p.K d.name d.qual d.params d.body d.scope (d.dvs p.K) (d.kws p.K) (He.fAd p.K d.at_) fd → ∃ dvs dus, Binds p.K fd ps dus ∧ Vals dvs dus ∧ ∀ F, RepL p.K F dd dvs)
    (vc : ∀ ds μ Q Ex, ds.length = ps.length → S ds μ Q Ex → denSs b { nx := fun _ μ' => ends Q .non μ', rt := ends Q, ex := Ex } (ds.map some ++ List.replicate (N.length - ds.length) none) μ) : Has p (k + 1) d.at_ ps dd S := by
  obtain ⟨fd, F⟩ := e
  obtain ⟨dvs, dus, h1, h2, h3⟩ := bd fd F
  exact ⟨fd, dvs, dus, fn_ok (p := p.at k) b F (C8.fnScope_by sc) free hc u vc, F.kp, h1, h2, h3⟩
end DL
end
section
set_option Elab.async false
set_option linter.all false
set_option maxRecDepth 100000
set_option maxHeartbeats 1000000
namespace DL
open PySem PySem.Spec L2 PyProof.Rows

@[simp] theorem den_var (i : Nat) (env : Env) (μ : Mem) (Q : QD) (Ex : QX) : den (.var i) env μ Q Ex = ∃ d, env[i]? = some (some d) ∧ Q d μ := rfl
@[simp] theorem den_con (d : D) (env : Env) (μ : Mem) (Q : QD) (Ex : QX) : den (.con d) env μ Q Ex = Q d μ := rfl
@[simp] theorem den_bty (n : String) (env : Env) (μ : Mem) (Q : QD) (Ex : QX) : den (.bty n) env μ Q Ex = Q (.ty n) μ := rfl
@[simp] theorem den_std (s : Std) (es : DEs) (env : Env) (μ : Mem) (Q : QD) (Ex : QX) : den (.std s es) env μ Q Ex = dArgsP s.o.pre [] (dens es) env μ (fun xs μ1 => s.o.sem xs μ1 Q Ex) Ex := rfl
@[simp] theorem den_app (o : Opn) (es : DEs) (env : Env) (μ : Mem) (Q : QD) (Ex : QX) : den (.app o es) env μ Q Ex = dArgsP o.pre [] (dens es) env μ (fun xs μ1 => o.sem xs μ1 Q Ex) Ex := rfl
@[simp] theorem den_bop (all : Bool) (es : DEs) : den (.bop all es) = dBop all (dens es) := rfl
@[simp] theorem den_not (e : DE) (env : Env) (μ : Mem) (Q : QD) (Ex : QX) : den (.not e) env μ Q Ex = den e env μ (fun x μ1 => ∃ c, x = .bl c ∧ Q (.bl (!c)) μ1) Ex := rfl
@[simp] theorem den_ife (t a b : DE) (env : Env) (μ : Mem) (Q : QD) (Ex : QX) : den (.ife t a b) env μ Q Ex = den t env μ (fun x μ1 => ∃ c, x = .bl c ∧ if c = true then den a env μ1 Q Ex else den b env μ1 Q Ex) Ex := rfl
@[simp] theorem den_chain (f g : Bool) (a b c : DE) (env : Env) (μ : Mem) (Q : QD) (Ex : QX) : den (.chain f g a b c) env μ Q Ex = den a env μ (fun x μ1 => den b env μ1 (fun y μ2 => ∃ i j, x = .int i ∧ y = .int j ∧
  if cmpOf f i j = true then den c env μ2 (fun z μ3 => ∃ l, z = .int l ∧ Q (.bl (cmpOf g j l)) μ3) Ex else Q (.bl false) μ2) Ex) Ex := rfl
@[simp] theorem den_lc (m : Bool) (it : StdI) (src : DEs) (g : DG) (ifs : DEs) (elt : DE) (own : List (Str × Nat)) (env : Env) (μ : Mem) (Q : QD) (Ex : QX) : den (.lc m it src g ifs elt own) env μ Q Ex =
  dArgs (dens src) env μ (fun xs μ1 => it.o.sem xs μ1 (fun items keep μ1 => ∀ a, μ1 a = none → lcGo a m keep g (dTests (dens ifs)) (den elt) (wipeD env (own.map (·.2))) Q items [] (μ1.set a (.lst [])))) Ex := rfl
@[simp] theorem den_frz (e : DE) (env : Env) (μ : Mem) (Q : QD) (Ex : QX) : den (.frz e) env μ Q Ex = den e env μ (fun x μ1 => ∃ a xs μ', x = .ref a ∧ μ1 a = some (.lst xs) ∧ Mem.Sub μ' μ1 ∧ μ' a = none ∧ Q (.lst xs) μ') Ex := rfl
@[simp] theorem dens_nil : dens .nil = [] := rfl
@[simp] theorem dens_cons (e : DE) (es : DEs) : dens (.cons e es) = den e :: dens es := rfl
@[simp] theorem dBop_one (all : Bool) (t : DT) : dBop all [t] = t := rfl
@[simp] theorem dBop_cons (all : Bool) (t u : DT) (ts : List DT) (env : Env) (μ : Mem) (Q : QD) (Ex : QX) : dBop all (t :: u :: ts) env μ Q Ex = t env μ (fun x μ1 => ∃ c, x = .bl c ∧ if c = all then dBop all (u :: ts) env μ1 Q Ex else Q (.bl c) μ1) Ex := rfl
@[simp] theorem dTests_nil : dTests [] = dYes := rfl
@[simp] theorem dTests_cons (t : DT) (ts : List DT) : dTests (t :: ts) = dTst t := rfl
@[simp] theorem denS_asg (g : DG) (e : DE) (k : KD) (env : Env) (μ : Mem) : denS (.asg g e) k env μ = den e env μ (fun x μ1 => dG g x env fun env' => k.nx env' μ1) k.ex := rfl
@[simp] theorem denS_par (is : List Nat) (es : DEs) (k : KD) (env : Env) (μ : Mem) : denS (.par is es) k env μ = dArgs (dens es) env μ (fun xs μ1 => k.nx (setAll is xs env) μ1) k.ex := rfl
@[simp] theorem denS_aug (sub : Bool) (i : Nat) (e : DE) (k : KD) (env : Env) (μ : Mem) : denS (.aug sub i e) k env μ = ∃ n : Int, env[i]? = some (some (.int n)) ∧ den e env μ (fun y μ1 => ∃ m : Int, y = .int m ∧ k.nx (env.set i (some (.int (if sub then n - m else n + m)))) μ1) k.ex := rfl
@[simp] theorem denS_unp (gs : DGs) (e : DE) (k : KD) (env : Env) (μ : Mem) : denS (.unp gs e) k env μ = den e env μ (fun x μ1 => ∃ xs, look μ1 x = .lst xs ∧ dGs gs xs env fun env' => k.nx env' μ1) k.ex := rfl
@[simp] theorem denS_std (s : StdS) (es : DEs) (k : KD) (env : Env) (μ : Mem) : denS (.std s es) k env μ = dArgsP s.o.pre [] (dens es) env μ (fun xs μ1 => s.o.sem xs k env μ1) k.ex := rfl
@[simp] theorem denS_app (o : SOpn) (es : DEs) (k : KD) (env : Env) (μ : Mem) : denS (.app o es) k env μ = dArgsP o.pre [] (dens es) env μ (fun xs μ1 => o.sem xs k env μ1) k.ex := rfl
@[simp] theorem denS_expr (e : DE) (k : KD) (env : Env) (μ : Mem) : denS (.expr e) k env μ = den e env μ (fun _ μ1 => k.nx env μ1) k.ex := rfl
@[simp] theorem denS_if (t : DE) (a b : DSs) (k : KD) (env : Env) (μ : Mem) : denS (.if_ t a b) k env μ = den t env μ (fun x μ1 => ∃ c, x = .bl c ∧ if c = true then denSs a k env μ1 else denSs b k env μ1) k.ex := rfl
@[simp] theorem denS_for (it : StdI) (src : DEs) (g : DG) (body : DSs) (k : KD) (env : Env) (μ : Mem) : denS (.for_ it src g body) k env μ = dArgs (dens src) env μ (fun xs μ1 => it.o.sem xs μ1 (fun items keep μ1 => forGo keep g (denSs body) k items env μ1)) k.ex := rfl
@[simp] theorem denS_while (t : DE) (body : DSs) : denS (.while_ t body) = dWhile (den t) (denSs body) := rfl
@[simp] theorem denS_ret (e : DE) (k : KD) (env : Env) (μ : Mem) : denS (.ret e) k env μ = den e env μ k.rt k.ex := rfl
@[simp] theorem denS_retN (k : KD) (env : Env) (μ : Mem) : denS .retN k env μ = k.rt .non μ := rfl
@[simp] theorem denS_pass (k : KD) (env : Env) (μ : Mem) : denS .pass k env μ = k.nx env μ := rfl
@[simp] theorem denS_brk (k : KD) (env : Env) (μ : Mem) : denS .brk k env μ = k.bk env μ := rfl
@[simp] theorem denS_cont (k : KD) (env : Env) (μ : Mem) : denS .cont k env μ = k.ct env μ := rfl
@[simp] theorem denSs_nil (k : KD) (env : Env) (μ : Mem) : denSs .nil k env μ = k.nx env μ := rfl
@[simp] theorem denSs_cons (s : DS) (ss : DSs) (k : KD) (env : Env) (μ : Mem) : denSs (.cons s ss) k env μ = denS s { k with nx := fun e m => denSs ss k e m } env μ := rfl
@[simp] theorem dG_name (i : Nat) (x : D) (env : Env) (Q : Env → Prop) : dG (.name i) x env Q = Q (env.set i (some x)) := rfl
@[simp] theorem dG_tup (gs : DGs) (x : D) (env : Env) (Q : Env → Prop) : dG (.tup gs) x env Q = ∃ xs, x = .tup xs ∧ dGs gs xs env Q := rfl
@[simp] theorem dGs_nil (xs : List D) (env : Env) (Q : Env → Prop) : dGs .nil xs env Q = (xs = [] ∧ Q env) := rfl
theorem dGs_cons (g : DG) (gs : DGs) (xs : List D) (env : Env) (Q : Env → Prop) : dGs (.cons g gs) xs env Q = ∃ x r, xs = x :: r ∧ dG g x env fun env' => dGs gs r env' Q := rfl
@[simp] theorem dGs_nil_nil (env : Env) (Q : Env → Prop) : dGs .nil [] env Q ↔ Q env := by simp
@[simp] theorem dGs_cons_cons (g : DG) (gs : DGs) (x : D) (r : List D) (env : Env) (Q : Env → Prop) : dGs (.cons g gs) (x :: r) env Q ↔ dG g x env fun env' => dGs gs r env' Q := by
  rw [dGs_cons]
  constructor
  · rintro ⟨y, r', e, h⟩; cases e; exact h
  · intro h; exact ⟨x, r, rfl, h⟩
theorem ends_of {Q : QD} {d : D} {μ : Mem} (h : Q d μ) : ends Q d μ := ⟨μ, Mem.Sub.refl μ, h⟩

theorem lc_gen {a : Addr} {keep : Mem → Prop} {g : DG} {tt : DTT} {te : DT} {env : Env} {Q : QD} (I : List D → List D → Mem → Prop)
    (hk : ∀ xs acc μ, I xs acc μ → keep (μ.set a (.lst acc)))
    (hs : ∀ x xs acc μ, I (x :: xs) acc μ → μ a = none → dG g x env fun env' => tt env' (μ.set a (.lst acc)) (fun b μ1 => ∃ μ', μ1 = μ'.set a (.lst acc) ∧ μ' a = none ∧ if b = true then
      te env' μ1 (fun y μ2 => ∃ μ'', μ2 = μ''.set a (.lst acc) ∧ μ'' a = none ∧ acc.length < sizeLine ∧ I xs (acc ++ [y]) μ'') (fun _ _ => False) else I xs acc μ') (fun _ _ => False))
    (monoT : ∀ env μ (P P' : Bool → Mem → Prop), (∀ b μ, P b μ → P' b μ) → tt env μ P (fun _ _ => False) → tt env μ P' (fun _ _ => False))
    (monoE : ∀ env μ (P P' : QD), (∀ b μ, P b μ → P' b μ) → te env μ P (fun _ _ => False) → te env μ P' (fun _ _ => False))
    (monoG : ∀ x env (P P' : Env → Prop), (∀ e, P e → P' e) → dG g x env P → dG g x env P')
    (hq : ∀ acc μ, I [] acc μ → μ a = none → Q (.lst acc) μ) : ∀ xs acc μ, I xs acc μ → μ a = none → lcGo a false keep g tt te env Q xs acc (μ.set a (.lst acc))
  | [], acc, μ, h, hn => ⟨hk _ _ _ h, Mem.set_same .., μ, Mem.Sub.set hn, hn, hq _ _ h hn⟩
  | x :: xs, acc, μ, h, hn => by
    refine ⟨hk _ _ _ h, monoG _ _ _ _ (fun env' h' => ?_) (hs x xs acc μ h hn)⟩
    refine monoT _ _ _ _ (fun b μ1 h1 => ?_) h'
    obtain ⟨μ', rfl, hn', h1⟩ := h1
    cases b with
    | false =>
      simp only [Bool.false_eq_true, if_false] at h1 ⊢
      exact lc_gen I hk hs monoT monoE monoG hq xs acc μ' h1 hn'
    | true =>
      simp only [if_true] at h1 ⊢
      refine monoE _ _ _ _ (fun y μ2 h2 => ?_) h1
      obtain ⟨μ'', rfl, hn'', hl, h2⟩ := h2
      refine ⟨Mem.set_same .., hl, ?_⟩
      have e : (μ''.set a (.lst acc)).set a (.lst (acc ++ [y])) = μ''.set a (.lst (acc ++ [y])) := by
        funext b; unfold Mem.set; split <;> rfl
      rw [e]
      exact lc_gen I hk hs monoT monoE monoG hq xs (acc ++ [y]) μ'' h2 hn''
theorem lc_map {a : Addr} {keep : Mem → Prop} {g : DG} {te : DT} {env : Env} {Q : QD} {μ : Mem} (f : D → D) (hn : μ a = none) (hk : ∀ acc, keep (μ.set a (.lst acc)))
    : ∀ (xs acc : List D), (∀ x ∈ xs, ∀ (ys : List D) (P : QD), P (f x) (μ.set a (.lst ys)) → dG g x env fun env' => te env' (μ.set a (.lst ys)) P (fun _ _ => False)) → acc.length + xs.length ≤ sizeLine →
      Q (.lst (acc ++ xs.map f)) μ → lcGo a false keep g dYes te env Q xs acc (μ.set a (.lst acc))
  | [], acc, _, _, hq => ⟨hk _, Mem.set_same .., μ, Mem.Sub.set hn, hn, by simpa using hq⟩
  | x :: xs, acc, hs, hl, hq => by
    simp only [List.length_cons] at hl
    refine ⟨hk _, hs x (by simp) acc _ ⟨Mem.set_same .., by omega, ?_⟩⟩
    have e : (μ.set a (.lst acc)).set a (.lst (acc ++ [f x])) = μ.set a (.lst (acc ++ [f x])) := by
      funext b; unfold Mem.set; split <;> rfl
    rw [e]
    exact lc_map f hn hk xs (acc ++ [f x]) (fun y hy => hs y (by simp [hy])) (by simp only [List.length_append, List.length_cons, List.length_nil]; omega) (by simpa using hq)
theorem lc_filter {a : Addr} {keep : Mem → Prop} {g : DG} {tt : DTT} {te : DT} {env : Env} {Q : QD} {μ : Mem} (p : D → Bool) (f : D → D) (hn : μ a = none) (hk : ∀ acc, keep (μ.set a (.lst acc)))
    : ∀ (xs acc : List D), (∀ x ∈ xs, ∀ (ys : List D) (P : Env → Bool → Mem → Prop), (∀ env', (p x = true → ∀ P' : QD, P' (f x) (μ.set a (.lst ys)) → te env' (μ.set a (.lst ys)) P' (fun _ _ => False)) → P env' (p x) (μ.set a (.lst ys))) →
        dG g x env fun env' => tt env' (μ.set a (.lst ys)) (P env') (fun _ _ => False)) → acc.length + xs.length ≤ sizeLine →
      Q (.lst (acc ++ (xs.filter p).map f)) μ → lcGo a false keep g tt te env Q xs acc (μ.set a (.lst acc))
  | [], acc, _, _, hq => ⟨hk _, Mem.set_same .., μ, Mem.Sub.set hn, hn, by simpa using hq⟩
  | x :: xs, acc, hs, hl, hq => by
    simp only [List.length_cons] at hl
    refine ⟨hk _, hs x (by simp) acc (fun env' b μ1 => if b = true then te env' μ1 (fun y μ2 => μ2 a = some (.lst acc) ∧ acc.length < sizeLine ∧ lcGo a false keep g tt te env Q xs (acc ++ [y]) (μ2.set a (.lst (acc ++ [y])))) (fun _ _ => False)
      else lcGo a false keep g tt te env Q xs acc μ1) fun env' he => ?_⟩
    cases q : p x with
    | false =>
      simp only [Bool.false_eq_true, if_false]
      exact lc_filter p f hn hk xs acc (fun y hy => hs y (by simp [hy])) (by omega) (by simpa [List.filter_cons, q] using hq)
    | true =>
      simp only [if_true]
      refine he q _ ⟨Mem.set_same .., by omega, ?_⟩
      have e : (μ.set a (.lst acc)).set a (.lst (acc ++ [f x])) = μ.set a (.lst (acc ++ [f x])) := by
        funext b; unfold Mem.set; split <;> rfl
      rw [e]
      exact lc_filter p f hn hk xs (acc ++ [f x]) (fun y hy => hs y (by simp [hy])) (by simp only [List.length_append, List.length_cons, List.length_nil]; omega) (by simpa [List.filter_cons, q] using hq)
end DL
end
section
set_option Elab.async false
set_option linter.all false
set_option maxRecDepth 100000
set_option maxHeartbeats 1000000
namespace DL
open PySem PySem.Spec L2 PyProof.Rows
section
variable (μ : Mem) (Q : QD) (Ex : QX)
@[simp] theorem p_oNeg : oNeg.o.pre = fun _ _ => True := rfl
@[simp] theorem p_oSub : oSub.o.pre = fun _ _ => True := rfl
@[simp] theorem p_oMulI : oMulI.o.pre = fun _ _ => True := rfl
@[simp] theorem p_oFdiv : oFdiv.o.pre = fun _ _ => True := rfl
@[simp] theorem p_oMod : oMod.o.pre = fun _ _ => True := rfl
@[simp] theorem p_oPow : oPow.o.pre = fun _ _ => True := rfl
@[simp] theorem p_oAdd : oAdd.o.pre = fun _ _ => True := rfl
@[simp] theorem p_oAddM : oAddM.o.pre = fun _ _ => True := rfl
@[simp] theorem p_oLt : oLt.o.pre = fun _ _ => True := rfl
@[simp] theorem p_oLe : oLe.o.pre = fun _ _ => True := rfl
@[simp] theorem p_oGt : oGt.o.pre = fun _ _ => True := rfl
@[simp] theorem p_oGe : oGe.o.pre = fun _ _ => True := rfl
@[simp] theorem p_oIsN : oIsN.o.pre = fun _ _ => True := rfl
@[simp] theorem p_oNotN : oNotN.o.pre = fun _ _ => True := rfl
@[simp] theorem p_oEq : oEq.o.pre = fun _ _ => True := rfl
@[simp] theorem p_oNe : oNe.o.pre = fun _ _ => True := rfl
@[simp] theorem p_oTup : oTup.o.pre = fun _ _ => True := rfl
@[simp] theorem p_oLst : oLst.o.pre = fun _ _ => True := rfl
@[simp] theorem p_oLstM : oLstM.o.pre = fun _ _ => True := rfl
@[simp] theorem p_oIx : oIx.o.pre = fun _ _ => True := rfl
@[simp] theorem p_oLen : oLen.o.pre = fun _ _ => True := rfl
@[simp] theorem p_oAll : oAll.o.pre = fun _ _ => True := rfl
@[simp] theorem p_oAny : oAny.o.pre = fun _ _ => True := rfl
@[simp] theorem p_oSum : oSum.o.pre = fun _ _ => True := rfl
@[simp] theorem p_oSortI : oSortI.o.pre = fun _ _ => True := rfl
@[simp] theorem p_oMax2 : oMax2.o.pre = fun _ _ => True := rfl
@[simp] theorem p_oMin2 : oMin2.o.pre = fun _ _ => True := rfl
@[simp] theorem p_oList : oList.o.pre = fun _ _ => True := rfl
@[simp] theorem p_oListM : oListM.o.pre = fun _ _ => True := rfl
@[simp] theorem p_oTuple : oTuple.o.pre = fun _ _ => True := rfl
@[simp] theorem p_oIsi : oIsi.o.pre = fun _ _ => True := rfl
@[simp] theorem p_oInSign : oInSign.o.pre = fun _ _ => True := rfl
@[simp] theorem p_oInD : oInD.o.pre = fun _ _ => True := rfl
@[simp] theorem p_oGetD : oGetD.o.pre = fun _ _ => True := rfl
@[simp] theorem p_oSortSet : oSortSet.o.pre = fun _ _ => True := rfl
@[simp] theorem p_oListRg : oListRg.o.pre = fun _ _ => True := rfl
@[simp] theorem p_oDictP : oDictP.o.pre = fun _ _ => True := rfl
@[simp] theorem p_oAppend (x : D) : oAppend.o.pre [x] μ = isLM x μ := rfl
@[simp] theorem p_oExtend (x : D) : oExtend.o.pre [x] μ = isLM x μ := rfl
@[simp] theorem p_oPop (x : D) : oPop.o.pre [x] μ = isLM x μ := rfl
@[simp] theorem p_oInsert (x : D) : oInsert.o.pre [x] μ = isLM x μ := rfl
@[simp] theorem p_oAppend2 (x y : D) : oAppend.o.pre [x, y] μ = True := rfl
@[simp] theorem p_oExtend2 (x y : D) : oExtend.o.pre [x, y] μ = True := rfl
@[simp] theorem p_oPop2 (x y : D) : oPop.o.pre [x, y] μ = True := rfl
@[simp] theorem p_oInsert2 (x y : D) : oInsert.o.pre [x, y] μ = True := rfl
@[simp] theorem p_oInsert3 (x y z : D) : oInsert.o.pre [x, y, z] μ = True := rfl
@[simp] theorem p_oFn (x : Str) (n : Nat) (dd : List D) (S : DSpec) : (oFn x n dd S).pre = fun _ _ => True := rfl
@[simp] theorem p_oFnK (x : Str) (n : Nat) (ks : List Str) (arr : List Pk) (S : DSpec) : (oFnK x n ks arr S).pre = fun _ _ => True := rfl
@[simp] theorem p_oMakeF (c : Str) (n : Nat) (dd : List D) (S : DSpec) : (oMakeF c n dd S).pre = fun _ _ => True := rfl
@[simp] theorem p_oMake (c : Str) (n : Nat) (dd : List D) (S : DSpec) : (oMake c n dd S).pre = fun _ _ => True := rfl
@[simp] theorem p_oMeth (c m : Str) (n : Nat) (dd : List D) (S : DSpec) (x : D) : (oMeth c m n dd S).pre [x] μ = isIns c m x μ := rfl
@[simp] theorem p_oMeth2 (c m : Str) (n : Nat) (dd : List D) (S : DSpec) (x y : D) (zs : List D) : (oMeth c m n dd S).pre (x :: y :: zs) μ = True := rfl
@[simp] theorem p_oGlo (x : Str) (d : D) : (oGlo x d).pre = fun _ _ => True := rfl
@[simp] theorem p_oFld (c f : Str) : (oFld c f).pre = fun _ _ => True := rfl
@[simp] theorem p_oLenO (c : Str) (S : DSpec) : (oLenO c S).pre = fun _ _ => True := rfl
@[simp] theorem p_oEqO (c : Str) (neg : Bool) (S : DSpec) : (oEqO c neg S).pre = fun _ _ => True := rfl
@[simp] theorem p_oIsiO (c : Str) : (oIsiO c).pre = fun _ _ => True := rfl
@[simp] theorem p_sRaise (c : Str) : (sRaise c).pre = fun _ _ => True := rfl
@[simp] theorem p_sSetF (c f : Str) : (sSetF c f).pre = fun _ _ => True := rfl
@[simp] theorem p_stSetIx : stSetIx.o.pre = fun _ _ => True := rfl

@[simp] theorem s_oSub (i j : Int) : oSub.o.sem [.int i, .int j] μ Q Ex = (True ∧ Q (.int (i - j)) μ) := rfl
@[simp] theorem s_oMulI (i j : Int) : oMulI.o.sem [.int i, .int j] μ Q Ex = (CMul i j ∧ Q (.int (i * j)) μ) := rfl
@[simp] theorem s_oFdiv (i j : Int) : oFdiv.o.sem [.int i, .int j] μ Q Ex = (CDiv i j ∧ Q (.int (i / j)) μ) := rfl
@[simp] theorem s_oMod (i j : Int) : oMod.o.sem [.int i, .int j] μ Q Ex = (0 < j ∧ Q (.int (i % j)) μ) := rfl
@[simp] theorem s_oPow (i j : Int) : oPow.o.sem [.int i, .int j] μ Q Ex = (CPow i j ∧ Q (.int (i ^ j.toNat)) μ) := rfl
@[simp] theorem s_oAddI (i j : Int) : oAdd.o.sem [.int i, .int j] μ Q Ex = Q (.int (i + j)) μ := rfl
@[simp] theorem s_oAddT (xs ys : List D) : oAdd.o.sem [.tup xs, .tup ys] μ Q Ex = (xs.length + ys.length ≤ sizeLine ∧ Q (.tup (xs ++ ys)) μ) := rfl
@[simp] theorem s_oAddL (xs ys : List D) : oAdd.o.sem [.lst xs, .lst ys] μ Q Ex = (xs.length + ys.length ≤ sizeLine ∧ Q (.lst (xs ++ ys)) μ) := rfl
@[simp] theorem s_oAddM (x y : D) : oAddM.o.sem [x, y] μ Q Ex = sAddM x y μ Q := rfl
@[simp] theorem s_oLt (i j : Int) : oLt.o.sem [.int i, .int j] μ Q Ex = Q (.bl (decide (i < j))) μ := rfl
@[simp] theorem s_oLe (i j : Int) : oLe.o.sem [.int i, .int j] μ Q Ex = Q (.bl (decide (i ≤ j))) μ := rfl
@[simp] theorem s_oGt (i j : Int) : oGt.o.sem [.int i, .int j] μ Q Ex = Q (.bl (decide (j < i))) μ := rfl
@[simp] theorem s_oGe (i j : Int) : oGe.o.sem [.int i, .int j] μ Q Ex = Q (.bl (decide (j ≤ i))) μ := rfl
@[simp] theorem s_oIsN (x : D) : oIsN.o.sem [x, .non] μ Q Ex = (D.non = .non ∧ Q (.bl (isNon x)) μ) := rfl
@[simp] theorem s_oNotN (x : D) : oNotN.o.sem [x, .non] μ Q Ex = (D.non = .non ∧ Q (.bl (!isNon x)) μ) := rfl
@[simp] theorem s_oEq (x y : D) : oEq.o.sem [x, y] μ Q Ex = (plainN 32 (look μ x) = true ∧ plainN 32 (look μ y) = true ∧ Q (.bl (false ^^ same (look μ x) (look μ y))) μ) := rfl
@[simp] theorem s_oNe (x y : D) : oNe.o.sem [x, y] μ Q Ex = (plainN 32 (look μ x) = true ∧ plainN 32 (look μ y) = true ∧ Q (.bl (true ^^ same (look μ x) (look μ y))) μ) := rfl
@[simp] theorem s_oTup (ds : List D) : oTup.o.sem ds μ Q Ex = (ds.length ≤ sizeLine ∧ Q (.tup ds) μ) := rfl
@[simp] theorem s_oLst (ds : List D) : oLst.o.sem ds μ Q Ex = (ds.length ≤ sizeLine ∧ Q (.lst ds) μ) := rfl
@[simp] theorem s_oLstM (ds : List D) : oLstM.o.sem ds μ Q Ex = (ds.length ≤ sizeLine ∧ ∀ a, μ a = none → Q (.ref a) (μ.set a (.lst ds))) := rfl
@[simp] theorem s_oIxT (xs : List D) (i : Int) : oIx.o.sem [.tup xs, .int i] μ Q Ex = ∃ d, atI xs i = some d ∧ Q d μ := rfl
@[simp] theorem s_oIxL (xs : List D) (i : Int) : oIx.o.sem [.lst xs, .int i] μ Q Ex = ∃ d, atI xs i = some d ∧ Q d μ := rfl
theorem s_oIxR {a : Addr} {xs : List D} (h : μ a = some (.lst xs)) (i : Int) : oIx.o.sem [.ref a, .int i] μ Q Ex = ∃ d, atI xs i = some d ∧ Q d μ := by
  show sIx (.ref a) (.int i) μ Q = _
  unfold sIx
  rw [look_ref h]
@[simp] theorem s_oLenT (xs : List D) : oLen.o.sem [.tup xs] μ Q Ex = Q (.int xs.length) μ := rfl
@[simp] theorem s_oLenL (xs : List D) : oLen.o.sem [.lst xs] μ Q Ex = Q (.int xs.length) μ := rfl
@[simp] theorem s_oLenR (xs : List D) : oLen.o.sem [.rol xs] μ Q Ex = Q (.int xs.length) μ := rfl
@[simp] theorem s_oLenD (xs : List (Key × D)) : oLen.o.sem [.dct xs] μ Q Ex = Q (.int xs.length) μ := rfl
@[simp] theorem s_oLenS (z : Str) : oLen.o.sem [.str z] μ Q Ex = (z.length ≤ sizeLine ∧ Q (.int z.length) μ) := rfl
theorem s_oLenM {a : Addr} {xs : List D} (h : μ a = some (.lst xs)) : oLen.o.sem [.ref a] μ Q Ex = Q (.int xs.length) μ := by
  show sLen (.ref a) μ Q = _
  unfold sLen
  rw [look_ref h]
theorem s_oAll (x : D) : oAll.o.sem [x] μ Q Ex = ∃ bs : List Bool, look μ x = .lst (bs.map D.bl) ∧ Q (.bl (bs.all id)) μ := rfl
theorem s_oAny (x : D) : oAny.o.sem [x] μ Q Ex = ∃ bs : List Bool, look μ x = .lst (bs.map D.bl) ∧ Q (.bl (bs.any id)) μ := rfl
theorem s_oSum (x : D) : oSum.o.sem [x] μ Q Ex = ∃ ns : List Int, look μ x = .lst (ns.map D.int) ∧ Q (.int ns.sum) μ := rfl
theorem map_inj_bl {xs ys : List Bool} (h : xs.map D.bl = ys.map D.bl) : xs = ys := List.map_inj_right (fun a b e => by cases e; rfl) |>.mp h
@[simp] theorem s_oAllM (bs : List Bool) : oAll.o.sem [.lst (bs.map D.bl)] μ Q Ex ↔ Q (.bl (bs.all id)) μ := by
  rw [s_oAll]
  constructor
  · rintro ⟨cs, e, h⟩
    have := map_inj_bl (by simpa using e)
    subst this; exact h
  · intro h; exact ⟨bs, rfl, h⟩
@[simp] theorem s_oSortI (x : D) : oSortI.o.sem [x] μ Q Ex = ∃ ns : List Int, look μ x = .lst (ns.map D.int) ∧ Q (.lst ((isort ns).map D.int)) μ := rfl
@[simp] theorem s_oMax2 (i j : Int) : oMax2.o.sem [.int i, .int j] μ Q Ex = ∃ i' j', D.int i = .int i' ∧ D.int j = .int j' ∧ Q (.int (if j' > i' then j' else i')) μ := rfl
@[simp] theorem s_oMin2 (i j : Int) : oMin2.o.sem [.int i, .int j] μ Q Ex = ∃ i' j', D.int i = .int i' ∧ D.int j = .int j' ∧ Q (.int (if j' < i' then j' else i')) μ := rfl
@[simp] theorem s_oList (x : D) : oList.o.sem [x] μ Q Ex = ∃ xs, seqOf μ x = some xs ∧ Q (.lst xs) μ := rfl
@[simp] theorem s_oListM (x : D) : oListM.o.sem [x] μ Q Ex = ∃ xs, seqOf μ x = some xs ∧ ∀ a, μ a = none → Q (.ref a) (μ.set a (.lst xs)) := rfl
@[simp] theorem s_oTupleL (xs : List D) : oTuple.o.sem [.lst xs] μ Q Ex = Q (.tup xs) μ := rfl
@[simp] theorem s_oTupleT (xs : List D) : oTuple.o.sem [.tup xs] μ Q Ex = Q (.tup xs) μ := rfl
theorem s_oTupleM {a : Addr} {xs : List D} (h : μ a = some (.lst xs)) : oTuple.o.sem [.ref a] μ Q Ex = Q (.tup xs) μ := by
  show sTuple (.ref a) μ Q = _
  unfold sTuple
  rw [look_ref h]
theorem isi_ok {x y : D} {t : String} {ns : List String} {b : Bool} (h1 : tyN μ x = some t) (h2 : tyList y = some ns) (h3 : kitAll t ns = some b) : oIsi.o.sem [x, y] μ Q Ex ↔ Q (.bl b) μ := by
  show sIsi x y μ Q ↔ _
  unfold sIsi
  rw [h1, h2]
  constructor
  · rintro ⟨t', ns', b', e1, e2, e3, h⟩
    cases e1; cases e2
    rw [h3] at e3; cases e3; exact h
  · intro h; exact ⟨t, ns, b, rfl, rfl, h3, h⟩
@[simp] theorem isi_int_int (i : Int) : oIsi.o.sem [.int i, .ty "int"] μ Q Ex ↔ Q (.bl true) μ := isi_ok μ Q Ex rfl rfl (by decide +kernel)
@[simp] theorem isi_int_bool (i : Int) : oIsi.o.sem [.int i, .ty "bool"] μ Q Ex ↔ Q (.bl false) μ := isi_ok μ Q Ex rfl rfl (by decide +kernel)
@[simp] theorem isi_str_str (z : Str) : oIsi.o.sem [.str z, .ty "str"] μ Q Ex ↔ Q (.bl true) μ := isi_ok μ Q Ex rfl rfl (by decide +kernel)
@[simp] theorem isi_tup_tup (xs : List D) : oIsi.o.sem [.tup xs, .ty "tuple"] μ Q Ex ↔ Q (.bl true) μ := isi_ok μ Q Ex rfl rfl (by decide +kernel)
@[simp] theorem isi_dct_dct (xs : List (Key × D)) : oIsi.o.sem [.dct xs, .ty "dict"] μ Q Ex ↔ Q (.bl true) μ := isi_ok μ Q Ex rfl rfl (by decide +kernel)
@[simp] theorem isi_tup_tl (xs : List D) : oIsi.o.sem [.tup xs, .tup [.ty "tuple", .ty "list"]] μ Q Ex ↔ Q (.bl true) μ := isi_ok μ Q Ex rfl rfl (by decide +kernel)
@[simp] theorem isi_lst_tl (xs : List D) : oIsi.o.sem [.lst xs, .tup [.ty "tuple", .ty "list"]] μ Q Ex ↔ Q (.bl true) μ := isi_ok μ Q Ex rfl rfl (by decide +kernel)
@[simp] theorem s_oFn (x : Str) (n : Nat) (dd : List D) (S : DSpec) (ds : List D) : (oFn x n dd S).sem ds μ Q Ex = S (ds ++ dd) μ Q Ex := rfl
@[simp] theorem s_oFnK (x : Str) (n : Nat) (ks : List Str) (arr : List Pk) (S : DSpec) (ds : List D) : (oFnK x n ks arr S).sem ds μ Q Ex = S (arr.map (Pk.d ds)) μ Q Ex := rfl
@[simp] theorem s_oMeth (c m : Str) (n : Nat) (dd : List D) (S : DSpec) (ds : List D) : (oMeth c m n dd S).sem ds μ Q Ex = S (ds ++ dd) μ Q Ex := rfl
@[simp] theorem s_oMakeF (c : Str) (n : Nat) (dd : List D) (S : DSpec) (ds : List D) : (oMakeF c n dd S).sem ds μ Q Ex = ∀ x, μ x = none → S (.ref x :: (ds ++ dd)) (μ.set x (.ins c [])) (fun v μ' => v = .non ∧ ∃ fs μ2, μ' x = some (.ins c fs) ∧ Mem.Sub μ2 μ' ∧ μ2 x = none ∧ Q (.obj c fs) μ2) Ex := rfl
@[simp] theorem s_oGlo (x : Str) (d : D) (ds : List D) : (oGlo x d).sem ds μ Q Ex = Q d μ := rfl
@[simp] theorem s_oFld (c f : Str) (x : D) : (oFld c f).sem [x] μ Q Ex = ∃ fs d, insOf c μ x = some fs ∧ fs.lookup f = some d ∧ Q d μ := rfl
@[simp] theorem s_oLenO (c : Str) (S : DSpec) (x : D) : (oLenO c S).sem [x] μ Q Ex = (isIns c "__len__" x μ ∧ S [x] μ (fun v μ' => ∃ n, v = .int n ∧ 0 ≤ n ∧ n < 2 ^ 63 ∧ Q (.int n) μ') Ex) := rfl
@[simp] theorem s_oEqO (c : Str) (neg : Bool) (S : DSpec) (x y : D) : (oEqO c neg S).sem [x, y] μ Q Ex = (isIns c "__eq__" x μ ∧ isIns c "__eq__" y μ ∧ S [x, y] μ (fun v μ' => ∃ b, v = .bl b ∧ Q (.bl (neg ^^ b)) μ') Ex) := rfl
@[simp] theorem s_oIsiO (c : Str) (x y : D) : (oIsiO c).sem [x, y] μ Q Ex = (y = .cls c ∧ (∃ fs, insOf c μ x = some fs) ∧ Q (.bl true) μ) := rfl
@[simp] theorem s_oAppend (a : Addr) (y : D) : oAppend.o.sem [.ref a, y] μ Q Ex = ∃ xs, μ a = some (.lst xs) ∧ xs.length < sizeLine ∧ Q .non (μ.set a (.lst (xs ++ [y]))) := rfl
@[simp] theorem s_oExtend (a : Addr) (y : D) : oExtend.o.sem [.ref a, y] μ Q Ex = ∃ xs ys, μ a = some (.lst xs) ∧ look μ y = .lst ys ∧ xs.length + ys.length ≤ sizeLine ∧ Q .non (μ.set a (.lst (xs ++ ys))) := rfl
@[simp] theorem s_oPopI (a : Addr) (i : Int) : oPop.o.sem [.ref a, .int i] μ Q Ex = ∃ xs k y, μ a = some (.lst xs) ∧ -(2 ^ 63) ≤ i ∧ i < 2 ^ 63 ∧ seqIndex? i xs.length = some k ∧ xs[k]? = some y ∧ Q y (μ.set a (.lst (xs.eraseIdx k))) := rfl
@[simp] theorem s_oInSign (x y : D) : oInSign.o.sem [x, y] μ Q Ex = ∃ c z, x = .str ⟨#[c]⟩ ∧ y = .str z ∧ Q (.bl (false ^^ decide (c ∈ z.cps.toList))) μ := rfl
@[simp] theorem s_oInD (x y : D) : oInD.o.sem [x, y] μ Q Ex = ∃ k kvs, keyOf x = some k ∧ look μ y = .dct kvs ∧ Q (.bl (false ^^ (getK kvs k).isSome)) μ := rfl
@[simp] theorem s_oGetD (x y : D) : oGetD.o.sem [x, y] μ Q Ex = ∃ k kvs d, keyOf y = some k ∧ look μ x = .dct kvs ∧ getK kvs k = some d ∧ Q d μ := rfl
@[simp] theorem s_oSortSet (x : D) : oSortSet.o.sem [x] μ Q Ex = ∃ ns : List Int, look μ x = .lst (ns.map D.int) ∧ ns.length < 64 ∧ ∀ out : List Int, out.Pairwise (· < ·) → (∀ k, k ∈ out ↔ k ∈ ns) → Q (.lst (out.map D.int)) μ := rfl
@[simp] theorem s_oListRg (x : D) : oListRg.o.sem [x] μ Q Ex = ∃ n : Int, x = .int n ∧ n ≤ 16777216 ∧ 0 ≤ n ∧ Q (.lst ((upto n).map D.int)) μ := rfl
@[simp] theorem s_oDictP (x : D) : oDictP.o.sem [x] μ Q Ex = ∃ kvs, look μ x = .lst (kvs.map pairD) ∧ Q (.dct (mergeD [] kvs)) μ := rfl
@[simp] theorem s_oNeg (i : Int) : oNeg.o.sem [.int i] μ Q Ex = Q (.int (-i)) μ := rfl
@[simp] theorem p_oSl1 : (oSl true false).o.pre = fun ds _ => preSl true false ds μ := rfl
@[simp] theorem s_oSlT1 (xs : List D) (l : Int) : (oSl true false).o.sem [.tup xs, .int l] μ Q Ex = Q (.tup (cutD xs (some l) none)) μ := rfl
@[simp] theorem s_oSlT2 (xs : List D) (h : Int) : (oSl false true).o.sem [.tup xs, .int h] μ Q Ex = Q (.tup (cutD xs none (some h))) μ := rfl
@[simp] theorem s_oSlL2 (xs : List D) (h : Int) : (oSl false true).o.sem [.lst xs, .int h] μ Q Ex = Q (.lst (cutD xs none (some h))) μ := rfl
@[simp] theorem s_oSlR2 (xs : List D) (h : Int) : (oSl false true).o.sem [.rol xs, .int h] μ Q Ex = Q (.lst (cutD xs none (some h))) μ := rfl
theorem s_oSlM2 {a : Addr} {xs : List D} (e : μ a = some (.lst xs)) (h : Int) : (oSl false true).o.sem [.ref a, .int h] μ Q Ex = Q (.lst (cutD xs none (some h))) μ := by
  show sSl (.ref a) none (some h) μ Q = _
  unfold sSl
  rw [look_ref e]
@[simp] theorem p_oSlA (x : D) : (oSl true false).o.pre [x] μ = True := rfl
@[simp] theorem p_oSlB (x y : D) : (oSl true false).o.pre [x, y] μ = True := by cases y <;> rfl
@[simp] theorem p_oSlC (x : D) : (oSl false true).o.pre [x] μ = True := rfl
@[simp] theorem p_oSlD (x y : D) : (oSl false true).o.pre [x, y] μ = True := by cases y <;> rfl
end
section
variable (μ : Mem) (k : KD) (env : Env)
@[simp] theorem s_sRaise (c : Str) (ds : List D) : (sRaise c).sem ds k env μ = k.ex (.exc c none) μ := rfl
@[simp] theorem s_sSetF (c f : Str) (v : D) (a : Addr) : (sSetF c f).sem [v, .ref a] k env μ = ∃ fs, μ a = some (.ins c fs) ∧ fs.length < 1000 ∧ k.nx env (μ.set a (.ins c (putD f v fs))) := rfl
@[simp] theorem s_stSetIx (d y : D) (a : Addr) : stSetIx.o.sem [d, .ref a, y] k env μ = ((∃ xs i j, μ a = some (.lst xs) ∧ y = .int i ∧ ixN xs.length i = some j ∧ k.nx env (μ.set a (.lst (xs.set j d)))) ∨
      ∃ kvs q, μ a = some (.dct kvs) ∧ keyOf y = some q ∧ kvs.length < sizeLine ∧ k.nx env (μ.set a (.dct (putKD kvs q d)))) := rfl
end
section
variable (μ : Mem) (Qi : QI)
@[simp] theorem i_iSeq (x : D) : iSeq.o.sem [x] μ Qi = ∃ xs, seqOf μ x = some xs ∧ Qi xs (keepOf x xs) μ := rfl
@[simp] theorem i_iStr (z : Str) : iStr.o.sem [.str z] μ Qi = Qi (signs z) (fun _ => True) μ := rfl
@[simp] theorem i_iEnum (x : D) : iEnum.o.sem [x] μ Qi = ∃ xs, seqOf μ x = some xs ∧ Qi (enumD xs) (keepOf x xs) μ := rfl
@[simp] theorem i_iZipF (xs ys : List D) : iZipF.o.sem [.tup xs, .tup ys] μ Qi = Qi (zipD xs ys) (fun _ => True) μ := rfl
@[simp] theorem i_iItems (kvs : List (Key × D)) : iItems.o.sem [.dct kvs] μ Qi = Qi (kvs.map pairD) (fun _ => True) μ := rfl
@[simp] theorem seqOf_tup (xs : List D) : seqOf μ (.tup xs) = some xs := rfl
@[simp] theorem seqOf_lst (xs : List D) : seqOf μ (.lst xs) = some xs := rfl
@[simp] theorem seqOf_rol (xs : List D) : seqOf μ (.rol xs) = some xs := rfl
@[simp] theorem keepOf_tup (xs ys : List D) : keepOf (.tup xs) ys = fun _ => True := rfl
@[simp] theorem keepOf_lst (xs ys : List D) : keepOf (.lst xs) ys = fun _ => True := rfl
@[simp] theorem keepOf_rol (xs ys : List D) : keepOf (.rol xs) ys = fun _ => True := rfl
end
@[simp] theorem cut41 (a b c d : D) : cutD [a, b, c, d] (some 1) none = [b, c, d] := rfl
@[simp] theorem cut31 (a b c : D) : cutD [a, b, c] (some 1) none = [b, c] := rfl
@[simp] theorem cut32 (a b c : D) : cutD [a, b, c] none (some 2) = [a, b] := rfl
@[simp] theorem sizeLine_val : sizeLine = 16777216 := sizeLine_eq
@[simp] theorem same_rfl (x : D) : DL.same x x = true := DL.same_self x
@[simp] theorem same_int (i j : Int) : DL.same (.int i) (.int j) = decide (i = j) := by
  by_cases h : i = j
  · subst h; simp
  · rw [DL.same_of_ne (fun e => h (by cases e; rfl))]; simp [h]
@[simp] theorem plainN_int (n : Nat) (i : Int) : plainN n (.int i) = true := by cases n <;> rfl
theorem atI_nat {α : Type} {xs : List α} {i : Nat} {x : α} (h : xs[i]? = some x) : atI xs (i : Int) = some x := by
  have hi := (List.getElem?_eq_some_iff.mp h).1
  have h1 : (0 : Int) ≤ (i : Int) := by omega
  have h2 : (i : Int) < (xs.length : Int) := by omega
  simp [atI, ixN, h1, h2, h]
@[simp] theorem atI_0 (a : D) (xs : List D) : atI (a :: xs) 0 = some a := @atI_nat _ (a :: xs) 0 a rfl
@[simp] theorem atI_1 (a b : D) (xs : List D) : atI (a :: b :: xs) 1 = some b := @atI_nat _ (a :: b :: xs) 1 b rfl
@[simp] theorem atI_2 (a b c : D) (xs : List D) : atI (a :: b :: c :: xs) 2 = some c := @atI_nat _ (a :: b :: c :: xs) 2 c rfl
@[simp] theorem atI_3 (a b c d : D) (xs : List D) : atI (a :: b :: c :: d :: xs) 3 = some d := @atI_nat _ (a :: b :: c :: d :: xs) 3 d rfl
@[simp] theorem atI_last {α : Type} (xs : List α) (x : α) : atI (xs ++ [x]) (-1) = some x := by
  have h1 : ¬ (0 : Int) ≤ -1 := by omega
  have h2 : -((xs ++ [x]).length : Int) ≤ -1 := by simp; omega
  have h3 : ((-1 : Int) + ((xs ++ [x]).length : Int)).toNat = xs.length := by simp; omega
  simp only [atI, ixN, if_neg h1, if_pos h2, Option.bind_some, h3]
  simp
end DL
end
section
set_option Elab.async false
set_option linter.all false
set_option maxRecDepth 100000
set_option maxHeartbeats 1000000
namespace DLZ
open PySem PySem.Spec PyProof.Rows PySem.W L2
section
variable {P : Program} {w : World} {A : Around} {E : Value → Shared → Prop} {s : Shared}
theorem gather_tup {t : Addr} {us : List Value} {Q : List Value → Shared → Prop} (ht : s.heap.IsTuple t us.toArray) (hn : us.length ≤ sizeLine)
    (q : Q us { s with heap := (s.heap.push (seqObj "list" #[] 0)).update s.heap.objs.size (Obj.mapSeq (· ++ us.toArray)) }) : wpAny (model P w) A (collect (.ref t)) Q E s := by
  obtain ⟨ob, h1, h2, k, h3⟩ := id ht
  unfold collect
  refine wpAny_bind (wpAny_runValue (codeAny_builtin entry_proto_collect' ?_))
  show wpAny _ _ (do again (.builtin "list.__iadd__" ⟨[← newList [], .ref t], []⟩)) _ _ s
  refine wpAny_bind (wpAny_newList (wpAny_pure ⟨Code.quiet_builtin _ (by decide +kernel), (codeAny_builtin entry_list_iadd' ?_)⟩))
  show wpAny _ _ (Builtin.List.listExtendWith (.ref s.heap.objs.size) (.ref t) (.ref s.heap.objs.size)) _ _ { s with heap := s.heap.push (seqObj "list" #[] 0) }
  unfold Builtin.List.listExtendWith
  have h1' : (s.heap.push (seqObj "list" #[] 0)).get? t = some ob := Heap.get?_push_of_some _ h1
  refine wpAny_bind (wpAny_typeOf (T := "tuple") ⟨ob, h1', h2⟩ ?_)
  have e1 : (Value.type "tuple" == Value.type "list") = false := by decide
  have e2 : (Value.type "tuple" == Value.type "tuple") = true := by decide
  rw [if_pos (by rw [e1, e2]; simp)]
  refine wpAny_bind (listItems_at h1' h3 ?_)
  refine wpAny_bind (listItems_at (xs := #[]) (n := 0) (id (Heap.get?_push_size _ rfl)) rfl ?_)
  rw [if_neg (by simp)]
  refine wpAny_bind (listUpdate_at (xs := #[]) (n := 0) (Heap.get?_push_size _ rfl) rfl ?_ (Nat.zero_le _) (by show (#[] ++ us.toArray).size ≤ sizeLine + 1; simp only [Array.size_append, List.size_toArray, List.length_nil]; omega))
  refine wpAny_pure ?_
  show wpAny (model P w) A (do
      let x ← load s.heap.objs.size
      match x.data with
      | .seq xs _ => pure xs.toList
      | _ => unsupported "internal:collect") Q E { s with heap := (s.heap.push (seqObj "list" #[] 0)).update s.heap.objs.size (Obj.mapSeq (· ++ us.toArray)) }
  refine wpAny_bind (wpAny_load (id (get?_update_seq (Heap.get?_push_size _ rfl) _)) ?_)
  show wpAny _ _ (pure ((#[] : Array Value) ++ us.toArray).toList) Q E _
  have e3 : ((#[] : Array Value) ++ us.toArray).toList = us := by simp
  rw [e3]
  exact wpAny_pure q
theorem sorted_tup {t : Addr} {us : List Value} {κ : PyProof.Rows.KeyKind} {Q : Value → Shared → Prop} (ht : s.heap.IsTuple t us.toArray) (S : SortsAt P w A.in1.in1 { s with heap := sortingHeap (copyHeap s.heap us) (s.heap.objs.size + 1) us } κ us) (hn : us.length ≤ sizeLine)
    (q : Q (.ref (s.heap.objs.size + 1)) { s with heap := sortedAll s.heap us (sortVals κ false us us).toArray }) : wpAny (model P w) A (call (.builtin "sorted") [.ref t]) Q E s := by
  refine call_function_entry_kw kind_sorted plain_sorted entry_sorted (args_sorted1 _) ?_
  unfold Builtin.«sorted»
  refine wpAny_bind (m := checkCount "sorted" 1 1 _) (wpAny_pure ?_)
  refine wpAny_bind (gather_tup ht hn ?_)
  refine wpAny_bind (wpAny_newList ?_ hn)
  have hz : ((s.heap.push (seqObj "list" #[] 0)).update s.heap.objs.size (Obj.mapSeq (· ++ us.toArray))).objs.size = s.heap.objs.size + 1 := by
    rw [Heap.size_update]
    exact size_push' ..
  show wpAny _ _ _ _ _ { s with heap := copyHeap s.heap us }
  rw [hz]
  refine wpAny_bind (wpAny_holding (wpAny_call_entry_kw slot_list_sort ⟨_, copyHeap_at s.heap us, rfl⟩ entry_list_sort ?srt (args_list_sort _)))
  case srt =>
    show wpAny (model P w) A.in1.in1 (Builtin.«list.sort» ⟨[.ref (s.heap.objs.size + 1)], []⟩) _ _ _
    refine wpAny_mono (list_sort_vals (P := fun f s' => f = .done (.ret .none) ∧ Q (.ref (s.heap.objs.size + 1)) s') (s := { s with heap := copyHeap s.heap us }) (copyHeap_at s.heap us) S hn ⟨rfl, q⟩) (fun f s' hf => ?_) fun _ _ e => e
    obtain ⟨rfl, hq⟩ := hf
    exact ⟨_, rfl, wpAny_pure ⟨_, rfl, hq⟩⟩
end
def rSortedD (K : PySem.W.Frag) : List V → Hp → VK → Prop := fun vs H Q => ∃ (a : Addr) (ys : List V) (ds : List PyData), vs = [V.ref a] ∧ (SqL K H a ys ∨ SqT K H a ys) ∧ DpAll K H ys ds ∧ AllAlike ds ∧ Sortable ds ∧ (∀ d, d ∈ ds → d.depth ≤ 32) ∧
  ∀ p, H p = none → Q (.ref p) (upd H p (.lst (((ys.zip ds).mergeSort (dataLe false fun b => b.2)).map (·.1))))
theorem each_zip {s : Shared} : ∀ {ys : List V} {us : List Value} {ds : List PyData}, Vals ys us → EachIs (fun v d => ∃ as, Reads s.heap v d as) us ds → EachIs (fun u (b : V × PyData) => RelV b.1 u) us (ys.zip ds) ∧ EachIs (fun u (b : V × PyData) => ∃ as, Reads s.heap u b.2 as) us (ys.zip ds)
  | _, _, _, .nil, .nil => ⟨.nil, .nil⟩
  | _, _, _, .cons r t, .cons h g => let ⟨a, b⟩ := each_zip t g; ⟨.cons r a, .cons h b⟩
theorem each_vals : ∀ {us : List Value} {bs : List (V × PyData)}, EachIs (fun u b => RelV b.1 u) us bs → Vals (bs.map (·.1)) us
  | _, _, .nil => .nil
  | _, _, .cons r t => .cons r (each_vals t)
theorem reads_each {h : Heap} {us : List Value} {ds : List PyData} {as : List Addr} (r : ReadsAll h us ds as) : EachIs (fun v d => ∃ as, Reads h v d as) us ds := by
  have := readsAll_each (h := h) (fun d : PyData => d) (vs := us) (bs := ds) (as := as) (by simpa using r)
  exact this
theorem cr_sortedD {X : Cx} (hu : X.A.units + 64 < cLine) : CallR X (.builtin "sorted") (rSortedD X.K) := by
  intro pins s σ H vs us Q I r h
  obtain ⟨a, ys, ds, rfl, hs, hd, hal, hso, hdp, q⟩ := h
  rw [Vals.ref1 r]
  obtain ⟨its, rv, hz, hlt⟩ : ∃ its, Vals ys its ∧ ys.length ≤ sizeLine ∧ (s.heap.IsList a its.toArray ∨ s.heap.IsTuple a its.toArray) := by
    rcases hs with hs | hs
    · obtain ⟨its, rv, p, z⟩ := I.list hs
      exact ⟨its, rv, z, .inl p.isList⟩
    · obtain ⟨its, rv, p, z⟩ := I.tuple hs
      exact ⟨its, rv, z, .inr p⟩
  obtain ⟨as, hr⟩ := Dp.readsAll I ds ys its hd rv
  obtain ⟨e1, e2⟩ := each_zip (s := s) rv (reads_each hr)
  have hl : its.length = ys.length := rv.length.symm
  have hdl : ds.length = its.length := ((reads_each hr).length).symm
  have hmap : (ys.zip ds).map (fun b => b.2) = ds := List.map_snd_zip (by omega)
  have hbl : (ys.zip ds).length = ys.length := by rw [List.length_zip]; omega
  have hub : ∀ b, b ∈ ys.zip ds → X.A.units + 2 + b.2.depth < cLine := fun b hb => by
    have := hdp b.2 (by rw [← hmap]; exact List.mem_map.mpr ⟨b, hb, rfl⟩)
    omega
  have fin : ∀ out : List Value, out.length = (ys.zip ds).length → EachIs (fun u (b : V × PyData) => RelV b.1 u) out ((ys.zip ds).mergeSort (dataLe false fun b => b.2)) → EP X pins σ Q (.ref (s.heap.objs.size + 1)) { s with heap := sortedAll s.heap its (List.toArray out) } := fun out ho eo => by
    obtain ⟨ep, he⟩ := sortedAll_at s.heap its out.toArray
    refine ⟨.ref _, upd H (s.heap.objs.size + 1) (.lst (((ys.zip ds).mergeSort (dataLe false fun b => b.2)).map (·.1))), I.laid (t' := s.toks) (fun _ _ => sortedAll_old) (Nat.le_succ _) ⟨?_, out, ep, each_vals eo, he⟩, rfl, q _ (I.hok.fresh (Nat.le_succ _))⟩
    rw [List.length_map, List.length_mergeSort, hbl]
    exact hz
  have hal' : AllAlike ((ys.zip ds).map fun b => b.2) := by rw [hmap]; exact hal
  have hso' : Sortable ((ys.zip ds).map fun b => b.2) := by rw [hmap]; exact hso
  rcases hlt with h | h
  · exact sorted_data (enc := fun b : V × PyData => b.2) h e1 e2 hal' hso' (by rw [hbl]; exact hz) hub fin
  · have e2' : EachIs (fun u (b : V × PyData) => ∃ as, Reads (sortingHeap (copyHeap s.heap its) (s.heap.objs.size + 1) its) u b.2 as) its (ys.zip ds) := e2.mono fun _ _ ⟨as, r⟩ => ⟨as, PyProof.Rows.Reads.keeps (fun _ _ => sorting_copy_old) r⟩
    refine sorted_tup h (SortsAt.data (s := { s with heap := sortingHeap (copyHeap s.heap its) (s.heap.objs.size + 1) its }) (each_map (R := fun v d => ∃ as, Reads (sortingHeap (copyHeap s.heap its) (s.heap.objs.size + 1) its) v d as) (fun b : V × PyData => b.2) e2') hal' hso' (bound_map (enc := fun b : V × PyData => b.2) hub)) (by omega) ?_
    exact fin _ (by rw [sortVals_length false rfl]; omega) (sortVals_data (enc := fun b : V × PyData => b.2) false e1 e2' hal')
end DLZ
namespace DL
open PySem PySem.Spec L2 PyProof.Rows PySem.W
noncomputable def leD (x y : D) : Bool := dataLe false toPD x y
theorem toPDs_map : ∀ xs : List D, toPDs xs = xs.map toPD
  | [] => rfl
  | x :: xs => by rw [toPDs, toPDs_map xs]; rfl
noncomputable def sSortD : S1 := fun x μ Q => ∃ xs, seqOf μ x = some xs ∧ (∀ d ∈ xs, plainN 32 d = true) ∧ AllAlike (xs.map toPD) ∧ Sortable (xs.map toPD) ∧ Q (.lst (xs.mergeSort leD)) μ
theorem RepL.zipmem {K : PySem.W.Frag} {F : Hp} : ∀ {xs : List D} {ys : List V}, RepL K F xs ys → ∀ z ∈ ys.zip xs, Rep K F z.2 z.1
  | [], _, r, z, h => by simp at h
  | x :: xs, _, r, z, h => by
    obtain ⟨v, vs, rfl, a, b⟩ := repL_cons.mp r
    simp only [List.zip_cons_cons, List.mem_cons] at h
    rcases h with rfl | h
    · exact a
    · exact RepL.zipmem b z h
theorem RepL.ofzip {K : PySem.W.Frag} {F : Hp} : ∀ {zs : List (V × D)}, (∀ z ∈ zs, Rep K F z.2 z.1) → RepL K F (zs.map (·.2)) (zs.map (·.1))
  | [], _ => RepL.nil
  | z :: zs, h => RepL.mk (h z (by simp)) (RepL.ofzip fun y hy => h y (by simp [hy]))
theorem RepL.sort {K : PySem.W.Frag} {F : Hp} {xs : List D} {ys : List V} (r : RepL K F xs ys) : RepL K F (xs.mergeSort leD) (((ys.zip (toPDs xs)).mergeSort (dataLe false fun b => b.2)).map (·.1)) := by
  have hl := r.length
  have e1 : ((ys.zip xs).mergeSort fun a b => leD a.2 b.2).map (fun z => (z.1, toPD z.2)) = (ys.zip (toPDs xs)).mergeSort (dataLe false fun b => b.2) := by
    rw [sort_maps (r := fun a b : V × D => leD a.2 b.2) (s := dataLe false fun b : V × PyData => b.2) (fun z : V × D => (z.1, toPD z.2)) (fun _ _ _ _ => rfl), toPDs_map, List.zip_map_right]
    rfl
  have e2 : ((ys.zip xs).mergeSort fun a b => leD a.2 b.2).map (·.2) = xs.mergeSort leD := by
    rw [sort_maps (r := fun a b : V × D => leD a.2 b.2) (s := leD) (fun z : V × D => z.2) (fun _ _ _ _ => rfl), List.map_snd_zip (by omega)]
  rw [← e1, ← e2, List.map_map]
  exact RepL.ofzip fun z hz => r.zipmem z ((List.mergeSort_perm _ _).mem_iff.mp hz)
theorem linkSortD {X : Cx} : LinkL X (l1 sSortD) (DLZ.rSortedD X.K) := link_l1 fun F μ H x v Qd Q w r h p => by
  obtain ⟨xs, e, hp, hal, hso, h⟩ := h
  obtain ⟨a, vs, rfl, hs, rv⟩ := w.seq r e
  refine ⟨a, vs, toPDs xs, rfl, hs, plain_dps w.le xs vs (plainL_of fun d hd => (plainN_ok 32 d (hp d hd)).1) rv, by rw [toPDs_map]; exact hal, by rw [toPDs_map]; exact hso, fun d hd => ?_, fun q hq => ?_⟩
  · rw [toPDs_map] at hd
    obtain ⟨d', hd', rfl⟩ := List.mem_map.mp hd
    have := plainN_ok 32 d' (hp d' hd')
    rw [deep_pd d' this.1]
    exact this.2
  · obtain ⟨w', l⟩ := w.newF hq (.lst (((vs.zip (toPDs xs)).mergeSort (dataLe false fun b => b.2)).map (·.1)))
    exact p _ _ _ _ μ l w' (rep_lst.mpr ⟨q, _, rfl, upd_same, (RepL.sort rv).le l⟩) h
noncomputable def oSortD : Std := ⟨⟨pCall "sorted", lf (l1 sSortD), fun _ _ => True⟩, fun c => callB_std c (by decide +kernel) (DLZ.cr_sortedD c.room.units) linkSortD PyProof.Rows.boot_sorted⟩
noncomputable def sSortDM : S1 := fun x μ Q => ∃ xs, seqOf μ x = some xs ∧ (∀ d ∈ xs, plainN 32 d = true) ∧ AllAlike (xs.map toPD) ∧ Sortable (xs.map toPD) ∧ ∀ a, μ a = none → Q (.ref a) (μ.set a (.lst (xs.mergeSort leD)))
end DL
end
section
set_option Elab.async false
set_option linter.all false
set_option maxRecDepth 100000
set_option maxHeartbeats 1000000
namespace DL
open PySem PySem.Spec L2 PyProof.Rows
def repB (K : PySem.W.Frag) : Nat → D → Value → Bool
  | _, .non, .none => true
  | _, .bl b, .bool c => b == c
  | _, .int i, .int j _ => decide (i = j)
  | _, .str x, .str y _ => decide (x = y)
  | n + 1, .tup xs, .ref a => (match K.lookup a with
    | some ⟨.type c, _, .seq its _, _⟩ => decide (c = "tuple") && (decide (its.size ≤ sizeLine) && (decide (xs.length = its.toList.length) && (xs.zip its.toList).all fun q => repB K n q.1 q.2))
    | _ => false)
  | _, _, _ => false
theorem repB_all {K : PySem.W.Frag} {n : Nat} (ih : ∀ (d : D) (u : Value), repB K n d u = true → ∃ v, RelV v u ∧ ∀ F, Rep K F d v) : ∀ (xs : List D) (us : List Value), xs.length = us.length → (xs.zip us).all (fun q => repB K n q.1 q.2) = true →
    ∃ vs, Vals vs us ∧ ∀ F, RepL K F xs vs
  | [], [], _, _ => ⟨[], .nil, fun _ => RepL.nil⟩
  | [], _ :: _, e, _ => by simp at e
  | _ :: _, [], e, _ => by simp at e
  | x :: xs, u :: us, e, h => by
    simp only [List.zip_cons_cons, List.all_cons, Bool.and_eq_true] at h
    obtain ⟨v, r, hv⟩ := ih x u h.1
    obtain ⟨vs, rs, hvs⟩ := repB_all ih xs us (by simpa using e) h.2
    exact ⟨v :: vs, .cons r rs, fun F => RepL.mk (hv F) (hvs F)⟩
theorem repB_ok {K : PySem.W.Frag} : ∀ (n : Nat) (d : D) (u : Value), repB K n d u = true → ∃ v, RelV v u ∧ ∀ F, Rep K F d v := by
  intro n
  induction n with
  | zero =>
    intro d u h
    cases d <;> cases u <;> simp only [repB] at h <;> try (first | cases h | skip)
    · exact ⟨.non, rfl, fun F => rep_non.mpr rfl⟩
    · exact ⟨.bl _, rfl, fun F => rep_bl.mpr (by rw [eq_of_beq h])⟩
    · exact ⟨.int _, ⟨_, rfl⟩, fun F => rep_int.mpr (by rw [of_decide_eq_true h])⟩
    · exact ⟨.str _, ⟨_, rfl⟩, fun F => rep_str.mpr (by rw [of_decide_eq_true h])⟩
  | succ n ih =>
    intro d u h
    cases d with
    | tup xs =>
      cases u with
      | ref a =>
        simp only [repB] at h
        split at h
        · rename_i c od its k sl q
          simp only [Bool.and_eq_true, decide_eq_true_eq] at h
          obtain ⟨h1, h2, h3, h4⟩ := h
          obtain ⟨vs, rs, hvs⟩ := repB_all ih xs its.toList h3 h4
          exact ⟨.ref a, rfl, fun F => rep_tup.mpr ⟨a, vs, rfl, .inr ⟨_, its, k, q, congrArg Value.type h1, rfl, h2, rs⟩, hvs F⟩⟩
        · cases h
      | _ => simp [repB] at h
    | non => cases u <;> simp [repB] at h; exact ⟨.non, rfl, fun F => rep_non.mpr rfl⟩
    | bl b => cases u <;> simp [repB] at h; exact ⟨.bl _, rfl, fun F => rep_bl.mpr (by rw [h])⟩
    | int b => cases u <;> simp [repB] at h; exact ⟨.int _, ⟨_, rfl⟩, fun F => rep_int.mpr (by rw [h])⟩
    | str b => cases u <;> simp [repB] at h; exact ⟨.str _, ⟨_, rfl⟩, fun F => rep_str.mpr (by rw [h])⟩
    | _ => cases u <;> simp [repB] at h
def gloB (K : PySem.W.Frag) (x : Str) (d : D) : Bool := match PySem.W.nsIn K mainGlobals x with
  | some (some u) => repB K 8 d u
  | _ => false
theorem good_gloB {p : Pl} {h : Heap} {x : Str} {d : D} (X : p.K.In h) (G : h.Ns mainGlobals p.mg) (c : gloB p.K x d = true) (hdb : (x == ("__debug__" : Str)) = false) : Good p (oGlo x d) := by
  unfold gloB at c
  split at c
  · rename_i u q
    obtain ⟨v, r, hv⟩ := repB_ok _ _ _ c
    exact good_glo (PySem.W.mg_of X G q) r hv hdb
  · cases c
def kwAt (f : Str × Option Str) (x : Str) (K : PySem.W.Frag) : Addr := match K.lookup (He.fAd K f) with
  | some ⟨_, _, .func fd, _⟩ => (match fd.kwdefaults with
    | .ref T => (match PySem.W.nsIn K T x with
      | some (some (.ref a)) => a
      | _ => 0)
    | _ => 0)
  | _ => 0
theorem kw_rep {K : PySem.W.Frag} {f : Str × Option Str} {x : Str} {d : D} (c : repB K 8 d (.ref (kwAt f x K)) = true) (F : Hp) : Rep K F d (.ref (kwAt f x K)) := by
  obtain ⟨v, r, hv⟩ := repB_ok _ _ _ c
  cases v with
  | ref a =>
    have e : a = kwAt f x K := by
      have r' : Value.ref (kwAt f x K) = .ref a := r
      cases r'; rfl
    rw [← e]; exact hv F
  | _ => first | (obtain ⟨t, e⟩ := r; cases e) | cases r
theorem ex_get : ∀ {l : List Bool} {i : Nat} {b : Bool}, l.all id = true → l[i]? = some b → b = true
  | [], _, _, _, e => by simp at e
  | c :: l, 0, b, h, e => by
    simp only [List.all_cons, id, Bool.and_eq_true] at h
    simp at e; rw [← e]; exact h.1
  | c :: l, i + 1, b, h, e => by
    simp only [List.all_cons, id, Bool.and_eq_true] at h
    exact ex_get (i := i) h.2 (by simpa using e)
end DL
end
section
set_option Elab.async false
set_option linter.all false
set_option maxRecDepth 100000
set_option maxHeartbeats 1000000
namespace DL
open PySem PySem.Spec L2 PyProof.Rows
def rExtT (K : PySem.W.Frag) : V → List V → Hp → VK → Prop := fun x vs H Q => ∃ (l b : Addr) (xs zs : List V), x = .ref l ∧ vs = [.ref b] ∧ H l = some (.lst xs) ∧ SqT K H b zs ∧ xs.length + zs.length ≤ sizeLine ∧ Q .non (upd H l (.lst (xs ++ zs)))
theorem mt_extT {X : Cx} : MtM X "list.extend" (rExtT X.K) := by
  intro pins s σ H x vs v us Q I rx rv h
  obtain ⟨l, b, xs, zs, rfl, rfl, hH, hB, hz, q⟩ := h
  cases rx
  obtain ⟨u, rfl, ru⟩ := rv.one
  cases ru
  obtain ⟨z, its, n, r, hl, e⟩ := I.lstM hH
  obtain ⟨its2, r2, ⟨ob, k1, k2, n2, k3⟩, z2⟩ := I.tuple hB
  have hl2 := r2.length
  have hsm : its.toArray.size + its2.toArray.size ≤ sizeLine := by rw [List.size_toArray, List.size_toArray]; omega
  have hno : ¬ (!its.toArray.isEmpty && Builtin.List.listTooLong (its.toArray.size + its2.toArray.size)) = true := by
    rw [notLongL hsm, Bool.and_false]; exact Bool.false_ne_true
  have hbl : b ≠ l := fun z => by
    subst z
    rw [e] at k1
    cases k1
    simp at k2
  refine wpAny_call_entry F.slot_list_extend ⟨_, e, rfl⟩ F.entry_list_extend ?_ (F.args_list_extend_2 _ _)
  unfold Builtin.«list.extend»
  refine wpAny_bind (m := selfAndOne "list.extend" _) (wpAny_pure ?_)
  show wpAny _ _ (Builtin.List.listExtendWith (.ref l) (.ref b) .none) _ _ _
  unfold Builtin.List.listExtendWith
  refine wpAny_bind (wpAny_typeOf (T := "tuple") ⟨ob, k1, k2⟩ ?_)
  have e1 : (Value.type "tuple" == Value.type "list") = false := by decide
  have e2 : (Value.type "tuple" == Value.type "tuple") = true := by decide
  rw [if_pos (by rw [e1, e2]; simp)]
  refine wpAny_bind (listItems_at k1 k3 ?_)
  refine wpAny_bind (listItems_at (xs := its.toArray) (n := n) e rfl ?_)
  rw [if_neg hno]
  refine wpAny_bind (listUpdate_at (xs := its.toArray) (n := n) e rfl ?_ (by rw [List.size_toArray]; omega) (by simp only [Array.size_append, List.size_toArray] at hsm ⊢; omega))
  refine wpAny_pure ⟨_, rfl, ?_⟩
  refine ⟨.non, _, I.lset (its' := its ++ its2) hH e (by simp) (r.append r2) ?_, rfl, q⟩
  rw [List.length_append]
  omega
def sExtT : SL := fun ds μ Q => match ds with
  | [.ref a, y] => ∃ xs ys, μ a = some (.lst xs) ∧ look μ y = .tup ys ∧ xs.length + ys.length ≤ sizeLine ∧ Q .non (μ.set a (.lst (xs ++ ys)))
  | _ => False
def oExtendT : Std := ⟨⟨fun _ => pMeth "extend", lf sExtT, preOne isLM⟩, fun c => methL_std PySem.F.plainAttrs_list PySem.F.slot_list_extend PySem.F.type_list_extend mt_extT (fun F μ H xs vs Qd Q w r h p => by
  unfold sExtT at h
  split at h
  · rename_i a y
    obtain ⟨xs, ys, e, ey, hz, h⟩ := h
    obtain ⟨v, u, rfl, r1, r2⟩ := r.two
    rw [rep_ref] at r1; subst r1
    obtain ⟨o', e1, vs, rfl, rl⟩ := w.mem a _ e
    obtain ⟨b, us, rfl, hb, rb⟩ := w.tup r2 ey
    exact ⟨a, b, vs, us, rfl, rfl, e1, hb, by rw [← rl.length, ← rb.length]; exact hz, p F _ _ _ _ (Same.refl _) (w.setM e (.ofL (rl.app rb))) (rep_non.mpr rfl) h⟩
  · exact h.elim)⟩
@[simp] theorem p_oExtendT (μ : Mem) (x : D) : oExtendT.o.pre [x] μ = isLM x μ := rfl
@[simp] theorem p_oExtendT2 (μ : Mem) (x y : D) : oExtendT.o.pre [x, y] μ = True := rfl
@[simp] theorem s_oExtendT (μ : Mem) (Q : QD) (Ex : QX) (a : Addr) (y : D) : oExtendT.o.sem [.ref a, y] μ Q Ex = ∃ xs ys, μ a = some (.lst xs) ∧ look μ y = .tup ys ∧ xs.length + ys.length ≤ sizeLine ∧ Q .non (μ.set a (.lst (xs ++ ys))) := rfl
end DL
end
section
set_option Elab.async false
set_option linter.all false
set_option maxRecDepth 100000
set_option maxHeartbeats 1000000
namespace DL
open PySem PySem.Spec L2 PyProof.Rows
def sEqB (neg : Bool) : S2 := fun x y μ Q => match x, y with
  | .bl a, .bl b => Q (.bl (neg ^^ decide (a = b))) μ
  | _, _ => False
theorem linkNeB {X : Cx} : Link2 X (sEqB true) rNe := by
  intro F μ H x y v u Qd Q w r1 r2 h p
  cases x <;> try exact h.elim
  cases y <;> try exact h.elim
  rename_i a b
  rw [rep_bl] at r1 r2
  subst r1; subst r2
  exact ⟨rfl, p F _ H _ μ (Same.refl _) w (rep_bl.mpr (by cases a <;> cases b <;> rfl)) h⟩
theorem linkEqB {X : Cx} : Link2 X (sEqB false) rEq := by
  intro F μ H x y v u Qd Q w r1 r2 h p
  cases x <;> try exact h.elim
  cases y <;> try exact h.elim
  rename_i a b
  rw [rep_bl] at r1 r2
  subst r1; subst r2
  exact ⟨rfl, p F _ H _ μ (Same.refl _) w (rep_bl.mpr (by cases a <;> cases b <;> rfl)) h⟩
def oNeB : Std := ⟨⟨fun _ => pCmp .NotEq, bi2 (sEqB true), fun _ _ => True⟩, fun c => cmp_std op_ne linkNeB⟩
def oEqB : Std := ⟨⟨fun _ => pCmp .Eq, bi2 (sEqB false), fun _ _ => True⟩, fun c => cmp_std op_eq linkEqB⟩
@[simp] theorem p_oNeB : oNeB.o.pre = fun _ _ => True := rfl
@[simp] theorem p_oEqB : oEqB.o.pre = fun _ _ => True := rfl
@[simp] theorem s_oNeB (μ : Mem) (Q : QD) (Ex : QX) (a b : Bool) : oNeB.o.sem [.bl a, .bl b] μ Q Ex = Q (.bl (true ^^ decide (a = b))) μ := rfl
@[simp] theorem s_oEqB (μ : Mem) (Q : QD) (Ex : QX) (a b : Bool) : oEqB.o.sem [.bl a, .bl b] μ Q Ex = Q (.bl (false ^^ decide (a = b))) μ := rfl
@[simp] theorem p_oSlE (μ : Mem) (x : D) : (oSl true true).o.pre [x] μ = True := rfl
@[simp] theorem p_oSlF (μ : Mem) (x : D) (i : Int) : (oSl true true).o.pre [x, .int i] μ = True := rfl
@[simp] theorem p_oSlG (μ : Mem) (x : D) (i j : Int) : (oSl true true).o.pre [x, .int i, .int j] μ = True := rfl
@[simp] theorem s_oSlT3 (μ : Mem) (Q : QD) (Ex : QX) (xs : List D) (l h : Int) : (oSl true true).o.sem [.tup xs, .int l, .int h] μ Q Ex = Q (.tup (cutD xs (some l) (some h))) μ := rfl
end DL
end
section
set_option Elab.async false
set_option linter.all false
set_option maxRecDepth 100000
set_option maxHeartbeats 0
namespace K
open PySem PySem.Spec DL C8 L2
def top (i : Nat) : Stmt := PySem.Challenge.pw_pastlay_k77_whole_cut_back.main.body.getD i (.Pass ⟨0, 0, 0, 0⟩)
def meth (i j : Nat) : Stmt := (match top i with
  | .ClassDef _ _ _ body .. => body.getD j (.Pass ⟨0, 0, 0, 0⟩)
  | _ => .Pass ⟨0, 0, 0, 0⟩)
end K
end
section
set_option Elab.async false
set_option linter.all false
set_option maxRecDepth 100000
set_option maxHeartbeats 0
namespace K
open PySem PySem.Spec PyProof.Rows L2 DL C8
def d_Book___len__ : He.DefD := ⟨("Book", some "__len__"), "__len__", "Book.__len__", defArgs (meth 25 1), defBody (meth 25 1), defScope (meth 25 1), [], []⟩
def d_Book_strokes : He.DefD := ⟨("Book", some "strokes"), "strokes", "Book.strokes", defArgs (meth 25 7), defBody (meth 25 7), defScope (meth 25 7), [], []⟩
def d__law_cells : He.DefD := ⟨("_law_cells", none), "_law_cells", "_law_cells", defArgs (top 79), defBody (top 79), defScope (top 79), [], []⟩
def d__law_nested : He.DefD := ⟨("_law_nested", none), "_law_nested", "_law_nested", defArgs (top 83), defBody (top 83), defScope (top 83), [], []⟩
def d__law_pen : He.DefD := ⟨("_law_pen", none), "_law_pen", "_law_pen", defArgs (top 70), defBody (top 70), defScope (top 70), [], []⟩
def d__law_top : He.DefD := ⟨("_law_top", none), "_law_top", "_law_top", defArgs (top 80), defBody (top 80), defScope (top 80), [], []⟩
def d__law_weave : He.DefD := ⟨("_law_weave", none), "_law_weave", "_law_weave", defArgs (top 78), defBody (top 78), defScope (top 78), [], []⟩
def d__law_well : He.DefD := ⟨("_law_well", none), "_law_well", "_law_well", defArgs (top 71), defBody (top 71), defScope (top 71), [], []⟩
def d_is_name : He.DefD := ⟨("is_name", none), "is_name", "is_name", defArgs (top 15), defBody (top 15), defScope (top 15), [], []⟩
def d_is_whole : He.DefD := ⟨("is_whole", none), "is_whole", "is_whole", defArgs (top 14), defBody (top 14), defScope (top 14), [], [("least", .int 0)]⟩
def d_joined : He.DefD := ⟨("joined", none), "joined", "joined", defArgs (top 20), defBody (top 20), defScope (top 20), [], []⟩
def d_laid_over : He.DefD := ⟨("laid_over", none), "laid_over", "laid_over", defArgs (top 29), defBody (top 29), defScope (top 29), [], []⟩
def d_merged : He.DefD := ⟨("merged", none), "merged", "merged", defArgs (top 31), defBody (top 31), defScope (top 31), [], []⟩
def d_moved : He.DefD := ⟨("moved", none), "moved", "moved", defArgs (top 57), defBody (top 57), defScope (top 57), [], []⟩
def d_need_colours : He.DefD := ⟨("need_colours", none), "need_colours", "need_colours", defArgs (top 66), defBody (top 66), defScope (top 66), [], []⟩
def d_renumbered : He.DefD := ⟨("renumbered", none), "renumbered", "renumbered", defArgs (top 58), defBody (top 58), defScope (top 58), [], []⟩
def d_woven : He.DefD := ⟨("woven", none), "woven", "woven", defArgs (top 53), defBody (top 53), defScope (top 53), [], []⟩
def d__law_draw : He.DefD := ⟨("_law_draw", none), "_law_draw", "_law_draw", defArgs (top 72), defBody (top 72), defScope (top 72), [], []⟩
def d_both : He.DefD := ⟨("both", none), "both", "both", defArgs (top 21), defBody (top 21), defScope (top 21), [], []⟩
def d_is_colour : He.DefD := ⟨("is_colour", none), "is_colour", "is_colour", defArgs (top 18), defBody (top 18), defScope (top 18), [], []⟩
def d_is_place : He.DefD := ⟨("is_place", none), "is_place", "is_place", defArgs (top 16), defBody (top 16), defScope (top 16), [], []⟩
def d_outside : He.DefD := ⟨("outside", none), "outside", "outside", defArgs (top 22), defBody (top 22), defScope (top 22), [], []⟩
def d_painted : He.DefD := ⟨("painted", none), "painted", "painted", defArgs (top 30), defBody (top 30), defScope (top 30), [], []⟩
def d_unlike : He.DefD := ⟨("unlike", none), "unlike", "unlike", defArgs (top 59), defBody (top 59), defScope (top 59), [], []⟩
def d__law_fit : He.DefD := ⟨("_law_fit", none), "_law_fit", "_law_fit", defArgs (top 82), defBody (top 82), defScope (top 82), [], []⟩
def d__law_hues : He.DefD := ⟨("_law_hues", none), "_law_hues", "_law_hues", defArgs (top 74), defBody (top 74), defScope (top 74), [], []⟩
def d__law_looks : He.DefD := ⟨("_law_looks", none), "_law_looks", "_law_looks", defArgs (top 81), defBody (top 81), defScope (top 81), [], []⟩
def d__law_lot : He.DefD := ⟨("_law_lot", none), "_law_lot", "_law_lot", defArgs (top 73), defBody (top 73), defScope (top 73), [], []⟩
def d__law_stroke : He.DefD := ⟨("_law_stroke", none), "_law_stroke", "_law_stroke", defArgs (top 75), defBody (top 75), defScope (top 75), [], []⟩
def d_apart : He.DefD := ⟨("apart", none), "apart", "apart", defArgs (top 23), defBody (top 23), defScope (top 23), [], []⟩
def d_are_prices : He.DefD := ⟨("are_prices", none), "are_prices", "are_prices", defArgs (top 64), defBody (top 64), defScope (top 64), [], []⟩
def d_is_moment : He.DefD := ⟨("is_moment", none), "is_moment", "is_moment", defArgs (top 27), defBody (top 27), defScope (top 27), [], []⟩
def d_is_stretch : He.DefD := ⟨("is_stretch", none), "is_stretch", "is_stretch", defArgs (top 17), defBody (top 17), defScope (top 17), [], []⟩
def d__law_laying : He.DefD := ⟨("_law_laying", none), "_law_laying", "_law_laying", defArgs (top 77), defBody (top 77), defScope (top 77), [], []⟩
def d__law_strokes : He.DefD := ⟨("_law_strokes", none), "_law_strokes", "_law_strokes", defArgs (top 76), defBody (top 76), defScope (top 76), [], []⟩
def d_done_by : He.DefD := ⟨("done_by", none), "done_by", "done_by", defArgs (top 28), defBody (top 28), defScope (top 28), [], []⟩
def d_is_look : He.DefD := ⟨("is_look", none), "is_look", "is_look", defArgs (top 36), defBody (top 36), defScope (top 36), [], []⟩
def d_is_part : He.DefD := ⟨("is_part", none), "is_part", "is_part", defArgs (top 43), defBody (top 43), defScope (top 43), [], []⟩
def d_is_stroke : He.DefD := ⟨("is_stroke", none), "is_stroke", "is_stroke", defArgs (top 19), defBody (top 19), defScope (top 19), [], []⟩
def d_need_prices : He.DefD := ⟨("need_prices", none), "need_prices", "need_prices", defArgs (top 65), defBody (top 65), defScope (top 65), [], []⟩
def d_Book___init__ : He.DefD := ⟨("Book", some "__init__"), "__init__", "Book.__init__", defArgs (meth 25 0), defBody (meth 25 0), defScope (meth 25 0), [.adr (He.dflAt ("Book", some "__init__") 0)], []⟩
def d_are_looks : He.DefD := ⟨("are_looks", none), "are_looks", "are_looks", defArgs (top 37), defBody (top 37), defScope (top 37), [], []⟩
def d_colours : He.DefD := ⟨("colours", none), "colours", "colours", defArgs (top 33), defBody (top 33), defScope (top 33), [], [("moment", .non)]⟩
def d_is_putting : He.DefD := ⟨("is_putting", none), "is_putting", "is_putting", defArgs (top 50), defBody (top 50), defScope (top 50), [], []⟩
def d_is_wish : He.DefD := ⟨("is_wish", none), "is_wish", "is_wish", defArgs (top 44), defBody (top 44), defScope (top 44), [], []⟩
def d_picture : He.DefD := ⟨("picture", none), "picture", "picture", defArgs (top 32), defBody (top 32), defScope (top 32), [], [("moment", .non)]⟩
def d_is_laying : He.DefD := ⟨("is_laying", none), "is_laying", "is_laying", defArgs (top 51), defBody (top 51), defScope (top 51), [], []⟩
def d_need_looks : He.DefD := ⟨("need_looks", none), "need_looks", "need_looks", defArgs (top 38), defBody (top 38), defScope (top 38), [], []⟩
def d_need_wish : He.DefD := ⟨("need_wish", none), "need_wish", "need_wish", defArgs (top 45), defBody (top 45), defScope (top 45), [], []⟩
def d_shown : He.DefD := ⟨("shown", none), "shown", "shown", defArgs (top 39), defBody (top 39), defScope (top 39), [], []⟩
def d_firm : He.DefD := ⟨("firm", none), "firm", "firm", defArgs (top 46), defBody (top 46), defScope (top 46), [], []⟩
def d_laid_by : He.DefD := ⟨("laid_by", none), "laid_by", "laid_by", defArgs (top 54), defBody (top 54), defScope (top 54), [], []⟩
def d_need_laying : He.DefD := ⟨("need_laying", none), "need_laying", "need_laying", defArgs (top 52), defBody (top 52), defScope (top 52), [], []⟩
def d_laid : He.DefD := ⟨("laid", none), "laid", "laid", defArgs (top 55), defBody (top 55), defScope (top 55), [], []⟩
def d_need_all : He.DefD := ⟨("need_all", none), "need_all", "need_all", defArgs (top 61), defBody (top 61), defScope (top 61), [], []⟩
def d_numbers : He.DefD := ⟨("numbers", none), "numbers", "numbers", defArgs (top 56), defBody (top 56), defScope (top 56), [], []⟩
def d_price_of : He.DefD := ⟨("price_of", none), "price_of", "price_of", defArgs (top 67), defBody (top 67), defScope (top 67), [], []⟩
def d_wrong_now : He.DefD := ⟨("wrong_now", none), "wrong_now", "wrong_now", defArgs (top 60), defBody (top 60), defScope (top 60), [], []⟩
def d__law_elders : He.DefD := ⟨("_law_elders", none), "_law_elders", "_law_elders", defArgs (top 84), defBody (top 84), defScope (top 84), [], []⟩
def d_broken : He.DefD := ⟨("broken", none), "broken", "broken", defArgs (top 62), defBody (top 62), defScope (top 62), [], [("looks", .adr (kwAt ("broken", none) "looks"))]⟩
def d_cut_back : He.DefD := ⟨("cut_back", none), "cut_back", "cut_back", defArgs (top 68), defBody (top 68), defScope (top 68), [], []⟩
def d_is_right : He.DefD := ⟨("is_right", none), "is_right", "is_right", defArgs (top 63), defBody (top 63), defScope (top 63), [], [("looks", .adr (kwAt ("is_right", none) "looks"))]⟩
def d_law : He.DefD := ⟨("law", none), "law", "law", defArgs (top 85), defBody (top 85), defScope (top 85), [], []⟩
def fn0 : List He.DefD := [d_Book___len__, d_Book_strokes, d__law_cells, d__law_nested, d__law_pen, d__law_top, d__law_weave, d__law_well, d_is_name, d_is_whole, d_joined, d_laid_over]
def fn1 : List He.DefD := [d_merged, d_moved, d_need_colours, d_renumbered, d_woven, d__law_draw, d_both, d_is_colour, d_is_place, d_outside, d_painted, d_unlike]
def fn2 : List He.DefD := [d__law_fit, d__law_hues, d__law_looks, d__law_lot, d__law_stroke, d_apart, d_are_prices, d_is_moment, d_is_stretch, d__law_laying, d__law_strokes, d_done_by]
def fn3 : List He.DefD := [d_is_look, d_is_part, d_is_stroke, d_need_prices, d_Book___init__, d_are_looks, d_colours, d_is_putting, d_is_wish, d_picture, d_is_laying, d_need_looks]
def fn4 : List He.DefD := [d_need_wish, d_shown, d_firm, d_laid_by, d_need_laying, d_laid, d_need_all, d_numbers, d_price_of, d_wrong_now, d__law_elders, d_broken]
def fn5 : List He.DefD := [d_cut_back, d_is_right, d_law]
def fn : List He.DefD := fn0 ++ fn1 ++ fn2 ++ fn3 ++ fn4 ++ fn5
def fa0 : List He.Fa := [.free "len", .free "isinstance", .free "int", .free "bool", .free "str", .free "tuple", .free "list", .free "dict", .free "set", .free "range", .free "enumerate", .free "zip", .free "sorted", .free "min", .free "max", .free "sum", .free "all", .free "any", .free "repr", .free "ValueError", .free "reversed", .free "Exception", .cls "Book", .noat "Book" "row", .glo "_law_cells", .glo "_law_nested", .glo "_law_pen", .glo "_law_top", .glo "_law_weave", .glo "_law_well"]
def fa1 : List He.Fa := [.glo "is_name", .int "MOST_LETTERS" 8, .str "ALPHABET" "abcdefghijklmnopqrstuvwxyz", .glo "is_whole", .glo "joined", .glo "laid_over", .glo "merged", .glo "moved", .glo "need_colours", .exc "BadPrices", .glo "BadPrices", .glo "renumbered", .glo "woven", .glo "_law_draw", .glo "both", .glo "is_colour", .glo "is_place", .int "LAST" 1000000000, .glo "outside", .glo "painted", .glo "unlike", .glo "_law_fit", .glo "_law_hues", .glo "_law_looks", .glo "_law_lot", .glo "_law_stroke", .glo "apart", .glo "are_prices", .int "MOST_PRICE" 999, .glo "is_moment"]
def fa2 : List He.Fa := [.meth "Book" "__len__", .glo "is_stretch", .glo "_law_laying", .glo "_law_strokes", .glo "done_by", .meth "Book" "strokes", .exc "NoMoment", .glo "NoMoment", .glo "is_look", .glo "is_part", .glo "is_stroke", .glo "need_prices", .exc "BadStroke", .glo "BadStroke", .glo "are_looks", .int "MOST_LOOKS" 20, .glo "colours", .glo "is_putting", .glo "is_wish", .int "MOST_STRETCHES" 12, .glo "picture", .glo "is_laying", .glo "need_looks", .exc "BadLook", .glo "BadLook", .glo "need_wish", .exc "BadWish", .glo "BadWish", .glo "shown", .glo "firm"]
def fa3 : List He.Fa := [.glo "laid_by", .mkr "Book", .glo "Book", .glo "need_laying", .exc "BadLaying", .glo "BadLaying", .glo "laid", .glo "need_all", .glo "numbers", .glo "price_of", .glo "wrong_now", .glo "_law_elders", .glo "broken", .glo "cut_back", .glo "is_right", .glo "law"]
def fa : List He.Fa := fa0 ++ fa1 ++ fa2 ++ fa3
def exs (K : PySem.W.Frag) : List Bool := [gloB K "ALL" (.tup [.tup [.int 0, .int 1000000000]]), repB K 8 (.tup []) (.ref (kwAt ("broken", none) "looks" K)), gloB K "NOW" (.int (-1)), repB K 8 (.tup []) (.ref (kwAt ("is_right", none) "looks" K))]
def exF (K : PySem.W.Frag) : Bool := (exs K).all id
abbrev R : PySem.W.OpenRow := PySem.W.OpenLaw.row PySem.Challenge.rw_pastlay_k77_whole_cut_back
abbrev hk : PySem.W.Hook := hookX 5 fa fn exF
def ob (s : PySem.W.SharedT) : AlX := obsXG 5 fa fn exF (HandSHeadRun.getT s)
theorem ob_eq (s : PySem.W.SharedT) : ob s = hk.obs s.abs := obsXG_eq (HandSHeadRun.getT_eq s)
def nm0 : List Str := ["_wall", "PastError", "BadStroke", "NoSlot", "NoMoment", "BadLook", "BadWish", "BadLaying", "BadPrices", "LAST", "ALPHABET", "MOST_LETTERS"]
def nm1 : List Str := ["is_whole", "is_name", "is_place", "is_stretch", "is_colour", "is_stroke", "joined", "both", "outside", "apart", "Book", "is_moment"]
def nm2 : List Str := ["done_by", "laid_over", "painted", "merged", "picture", "colours", "MOST_LOOKS", "is_look", "are_looks", "need_looks", "shown", "ALL"]
def nm3 : List Str := ["MOST_STRETCHES", "is_part", "is_wish", "need_wish", "firm", "MOST_PRICE", "NOW", "is_putting", "is_laying", "need_laying", "woven", "laid_by"]
def nm4 : List Str := ["laid", "numbers", "moved", "renumbered", "unlike", "wrong_now", "need_all", "broken", "is_right", "are_prices", "need_prices", "need_colours"]
def nm5 : List Str := ["price_of", "cut_back", "_law_pen", "_law_well", "_law_draw", "_law_lot", "_law_hues", "_law_stroke", "_law_strokes", "_law_laying", "_law_weave", "_law_cells"]
def nm6 : List Str := ["_law_top", "_law_looks", "_law_fit", "_law_nested", "_law_elders"]
def nms : List Str := nm0 ++ nm1 ++ nm2 ++ nm3 ++ nm4 ++ nm5 ++ nm6
theorem run (w : World) : HandSHeadRun.RunEq R (PySem.W.view R.prog [85]) hk ob 9000 nms w := by
  intro os
  kernel_rfl
end K
end
section
set_option Elab.async false
set_option linter.all false
set_option maxRecDepth 100000
set_option maxHeartbeats 1000000
namespace DL
open PySem PySem.Spec L2 PyProof.Rows

def leafV : Leaf → V
  | .none => .non
  | .num i => .int i
  | .text x => .str x
def leafOf : D → Option Leaf
  | .non => some .none
  | .int i => some (.num i)
  | .str x => some (.text x)
  | _ => none
theorem leafOf_rep {K : PySem.W.Frag} {F : Hp} {x : D} {v : V} {k : Leaf} (h : leafOf x = some k) (r : Rep K F x v) : v = leafV k := by
  cases x <;> simp [leafOf] at h
  · subst h; rw [rep_non] at r; exact r
  · subst h; rw [rep_int] at r; exact r
  · subst h; rw [rep_str] at r; exact r
theorem leaf_is {P : Program} {w : World} {k : Leaf} {u : Value} (r : RelV (leafV k) u) : (leafKind P w).is k u = true := by
  cases k with
  | none => cases r; rfl
  | num i => obtain ⟨t, rfl⟩ := r; exact decide_eq_true rfl
  | text x =>
    obtain ⟨t, rfl⟩ := r
    show (x == x) = true
    simp
inductive Nk (K : PySem.W.Frag) (H : Hp) : NestedKey → V → Prop
  | non : Nk K H .none .non
  | int (i : Int) : Nk K H (.num i) (.int i)
  | str (x : Str) : Nk K H (.text x) (.str x)
  | tup {b : Addr} {ks : List NestedKey} {ys : List V} (h : SqT K H b ys) (hl : ks.length = ys.length) (he : ∀ (i : Nat) k y, ks[i]? = some k → ys[i]? = some y → Nk K H k y) : Nk K H (.tup ks) (.ref b)
mutual
theorem nk_rep {K : PySem.W.Frag} {F H : Hp} (l : Le F H) : ∀ (k : NestedKey) (v : V), Rep K F (keyT k) v → Nk K H k v
  | .none, v, r => by rw [keyT, rep_non] at r; subst r; exact .non
  | .num i, v, r => by rw [keyT, rep_int] at r; subst r; exact .int i
  | .text x, v, r => by rw [keyT, rep_str] at r; subst r; exact .str x
  | .tup ks, v, r => by
    rw [keyT, rep_tup] at r
    obtain ⟨a, vs, rfl, ht, rl⟩ := r
    obtain ⟨h1, h2⟩ := nk_reps l ks vs rl
    exact .tup (SqT.le l ht.sq) h1 h2
theorem nk_reps {K : PySem.W.Frag} {F H : Hp} (l : Le F H) : ∀ (ks : List NestedKey) (vs : List V), RepL K F (keyTs ks) vs → ks.length = vs.length ∧ ∀ (i : Nat) k y, ks[i]? = some k → vs[i]? = some y → Nk K H k y
  | [], vs, r => by
    rw [keyTs, repL_nil] at r; subst r
    exact ⟨rfl, fun i k y e => by simp at e⟩
  | k :: ks, vs, r => by
    rw [keyTs] at r
    obtain ⟨v, r', rfl, h1, h2⟩ := repL_cons.mp r
    obtain ⟨h3, h4⟩ := nk_reps l ks r' h2
    refine ⟨by simp [h3], fun i k' y e1 e2 => ?_⟩
    cases i with
    | zero => simp at e1 e2; subst e1 e2; exact nk_rep l k v h1
    | succ i => exact h4 i k' y (by simpa using e1) (by simpa using e2)
end
theorem Nk.le {K : PySem.W.Frag} {H H' : Hp} {k : NestedKey} {v : V} (h : Nk K H k v) (l : ∀ b ys, SqT K H b ys → SqT K H' b ys) : Nk K H' k v := by
  induction h with
  | non => exact .non
  | int i => exact .int i
  | str x => exact .str x
  | tup h hl he ih => exact .tup (l _ _ h) hl fun i k y a b => ih i k y a b
mutual
def keyN : D → Option NestedKey
  | .non => some .none
  | .int i => some (.num i)
  | .str x => some (.text x)
  | .tup xs => (keyNs xs).map .tup
  | _ => none
def keyNs : List D → Option (List NestedKey)
  | [] => some []
  | d :: ds => match keyN d, keyNs ds with
    | some k, some ks => some (k :: ks)
    | _, _ => none
end
mutual
theorem keyN_T : ∀ (d : D) (k : NestedKey), keyN d = some k → d = keyT k
  | .non, k, h => by simp [keyN] at h; subst h; simp [keyT]
  | .int i, k, h => by simp [keyN] at h; subst h; simp [keyT]
  | .str i, k, h => by simp [keyN] at h; subst h; simp [keyT]
  | .tup xs, k, h => by
    simp [keyN] at h
    obtain ⟨ks, h, rfl⟩ := h
    rw [keyT, keyNs_T xs ks h]
  | .bl _, k, h => by simp [keyN] at h
  | .lst _, k, h => by simp [keyN] at h
  | .rol _, k, h => by simp [keyN] at h
  | .dct _, k, h => by simp [keyN] at h
  | .obj _ _, k, h => by simp [keyN] at h
  | .ref _, k, h => by simp [keyN] at h
  | .cls _, k, h => by simp [keyN] at h
  | .ty _, k, h => by simp [keyN] at h
theorem keyNs_T : ∀ (ds : List D) (ks : List NestedKey), keyNs ds = some ks → ds = keyTs ks
  | [], ks, h => by simp [keyNs] at h; subst h; simp [keyTs]
  | d :: ds, ks, h => by
    rw [keyNs] at h
    split at h
    · rename_i k ks' h1 h2
      cases h
      rw [keyTs, ← keyN_T d k h1, ← keyNs_T ds ks' h2]
    · cases h
end
section
variable {X : Cx} {pins : List (Addr × Obj)} {σ : L2.St} {H : Hp} {s : Shared}
theorem nk_is (I : Inv X pins σ H s) {k : NestedKey} {y : V} (n : Nk X.K H k y) : ∀ {u : Value}, RelV y u → NestedIs s.heap k u := by
  induction n with
  | non => intro u r; cases r; exact .none
  | int i => intro u r; obtain ⟨t, rfl⟩ := r; exact .int i t
  | str x => intro u r; obtain ⟨t, rfl⟩ := r; exact .text x t
  | tup h hl he ih =>
    intro u r
    cases r
    rename_i b ks ys
    obtain ⟨its, rv, ⟨o, ho, hc, n, hd⟩, _⟩ := I.tuple h
    refine .tup ho hc hd ?_
    have key : ∀ (ks : List NestedKey) (ys : List V) (its : List Value), ks.length = ys.length → Vals ys its → (∀ (i : Nat) k y, ks[i]? = some k → ys[i]? = some y → ∀ {u : Value}, RelV y u → NestedIs s.heap k u) → NestedAll s.heap ks its := by
      intro ks
      induction ks with
      | nil => intro ys its h1 h2 _; cases ys with
        | nil => cases h2; exact .nil
        | cons => simp at h1
      | cons k ks ihk =>
        intro ys its h1 h2 h3
        cases ys with
        | nil => simp at h1
        | cons y ys =>
          cases h2 with
          | cons r t => exact .cons (h3 0 k y rfl rfl r) (ihk ys _ (by simpa using h1) t fun i k' y' a b => h3 (i + 1) k' y' (by simpa using a) (by simpa using b))
    exact key ks ys its hl rv (fun i k y a b u r => ih i k y a b r)

def valX (xs : List (NestedKey × Addr × V)) (k : NestedKey) : Option V := (xs.find? fun x => decide (x.1 = k)).map (·.2.2)
def TGet (X : Cx) (H : Hp) (a : Addr) (y : V) (o : Option V) : Prop :=
  (∃ vs k, H a = some (.ext (ldcF X.prog X.w a vs)) ∧ (a == sysModules) = false ∧ vs.length ≤ sizeLine ∧ y = leafV k ∧ o = valV vs k) ∨
  ∃ xs k b, H a = some (.ext (tabF X.prog X.w a xs)) ∧ (a == sysModules) = false ∧ xs.length ≤ sizeLine ∧ (xs.map (·.1)).Nodup ∧ (∀ x ∈ xs, Nk X.K H x.1 (.ref x.2.1) ∧ x.1.depth ≤ 8) ∧
    y = .ref b ∧ Nk X.K H k y ∧ k.depth ≤ 8 ∧ o = valX xs k
theorem ldc_at {a : Addr} {vs : List (Leaf × V)} (I : Inv X pins σ H s) (e : H a = some (.ext (ldcF X.prog X.w a vs))) : ∃ us, KV vs us ∧ s.heap.DictOf (leafKind X.prog X.w) a us := (I.hok a _ e).1
theorem tab_at {a : Addr} {xs : List (NestedKey × Addr × V)} (I : Inv X pins σ H s) (e : H a = some (.ext (tabF X.prog X.w a xs))) (hn : (xs.map (·.1)).Nodup) (hk : ∀ x ∈ xs, Nk X.K H x.1 (.ref x.2.1) ∧ x.1.depth ≤ 8) :
    ∃ us, Paired (fun (x : NestedKey × Addr × V) (u : NestedKey × Addr × Value) => x.1 = u.1 ∧ x.2.1 = u.2.1 ∧ RelV x.2.2 u.2.2) xs us ∧ s.heap.DictOfH (nestedKind X.prog X.w) a us := by
  obtain ⟨us, r, o, es, ep, h1, h2, h3, h4⟩ := (I.hok a _ e).1
  have keys : ∀ {xs : List (NestedKey × Addr × V)} {us : List (NestedKey × Addr × Value)}, Paired (fun (x : NestedKey × Addr × V) (u : NestedKey × Addr × Value) => x.1 = u.1 ∧ x.2.1 = u.2.1 ∧ RelV x.2.2 u.2.2) xs us → xs.map (·.1) = us.map (·.1) ∧ ∀ u ∈ us, ∃ x ∈ xs, x.1 = u.1 ∧ x.2.1 = u.2.1 := by
    intro xs us r
    induction r with
    | nil => exact ⟨rfl, fun u h => by cases h⟩
    | cons h t ih =>
      refine ⟨by simp [h.1, ih.1], fun u hu => ?_⟩
      rcases List.mem_cons.mp hu with rfl | hu
      · exact ⟨_, List.mem_cons_self, h.1, h.2.1⟩
      · obtain ⟨x, hx, q⟩ := ih.2 u hu
        exact ⟨x, List.mem_cons_of_mem _ hx, q⟩
  obtain ⟨k1, k2⟩ := keys r
  refine ⟨us, r, o, es, ep, h1, h2, h3, h4, fun u hu => ?_, by rw [← k1]; exact hn⟩
  obtain ⟨x, hx, e1, e2⟩ := k2 u hu
  obtain ⟨n, dp⟩ := hk x hx
  rw [← e1, ← e2]
  exact ⟨nk_is I n rfl, dp⟩
theorem valX_rel {xs : List (NestedKey × Addr × V)} {us : List (NestedKey × Addr × Value)} (r : Paired (fun (x : NestedKey × Addr × V) (u : NestedKey × Addr × Value) => x.1 = u.1 ∧ x.2.1 = u.2.1 ∧ RelV x.2.2 u.2.2) xs us) (k : NestedKey) :
    RelO (valX xs k) ((atKey us k).map (·.2)) := by
  induction r with
  | nil => exact True.intro
  | @cons p q ps qs h t ih =>
    obtain ⟨h1, h2, h3⟩ := h
    unfold valX atKey at ih ⊢
    by_cases e : p.1 = k
    · have e' : q.1 = k := h1.symm.trans e
      simp only [List.find?_cons, e, e', decide_true, Option.map_some]
      exact h3
    · have e' : ¬ q.1 = k := fun z => e (h1.trans z)
      simp only [List.find?_cons, decide_eq_false e, decide_eq_false e']
      exact ih
variable {a : Addr} {y v : V} {u r : Value} {o : Option V} {A : Around} {E : Value → Shared → Prop}
theorem TGet.dict (I : Inv X pins σ H s) (g : TGet X H a y o) : s.TypeIs (.ref a) "dict" ∧ (∀ b, Value.ref a = .ref b → ∃ ob, s.heap.get? b = some ob ∧ ob.dict = none) ∧ (a == sysModules) = false := by
  rcases g with ⟨vs, k, e, hd, _⟩ | ⟨xs, k, b, e, hd, _, hn, hk, _⟩
  · obtain ⟨us, _, dd⟩ := ldc_at I e
    refine ⟨dd.typeIs, fun b q => ?_, hd⟩
    cases q
    obtain ⟨ob, _, _, h1, h2, _⟩ := dd
    exact ⟨ob, h1, h2.2.1⟩
  · obtain ⟨us, _, dd⟩ := tab_at I e hn hk
    refine ⟨dd.typeIs, fun b q => ?_, hd⟩
    cases q
    obtain ⟨ob, _, _, h1, h2, _⟩ := dd
    exact ⟨ob, h1, h2.2.1⟩
theorem t_getItem {Q : Value → Shared → Prop} (hu : A.units + 9 < cLine) (I : Inv X pins σ H s) (g : TGet X H a y (some v)) (ry : RelV y u) (h : ∀ w' s', Inv X pins σ H s' → RelV v w' → Q w' s') :
    wpAny (model X.prog X.w) A (getItem (.ref a) u) Q E s := by
  rcases g with ⟨vs, k, e, hd, _, rfl, l⟩ | ⟨xs, k, b, e, hd, _, hn, hk, rfl, n, dp, l⟩
  · obtain ⟨us, rel, dd⟩ := ldc_at I e
    obtain ⟨w', hw, rw'⟩ := RelO.some_of (v := v) (o := valueAt us k) (by rw [l]; exact rel.val k)
    exact wpAny_getItem_of (leaf_is ry) dd.mapOf hw (h w' _ (I.tok _) rw')
  · cases (show u = Value.ref b from ry)
    obtain ⟨us, rel, dd⟩ := tab_at I e hn hk
    obtain ⟨w', hw, rw'⟩ := RelO.some_of (v := v) (o := (atKey us k).map (·.2)) (by rw [l]; exact valX_rel rel k)
    obtain ⟨p, hp, hp2⟩ := Option.map_eq_some_iff.mp hw
    refine wpAny_getItem_heap (knd := nestedKind X.prog X.w) (show A.units + 1 + 8 < cLine from hu) ⟨nk_is I n rfl, dp⟩ dd hp ?_
    rw [hp2]
    exact h w' _ (I.tok _) rw'
theorem t_in {Q : Value → Shared → Prop} (hu : A.units + 9 < cLine) (I : Inv X pins σ H s) (g : TGet X H a y o) (ry : RelV y u) (h : ∀ s', Inv X pins σ H s' → Q (.bool o.isSome) s') :
    wpAny (model X.prog X.w) A (compareOp .In u (.ref a)) Q E s := by
  rcases g with ⟨vs, k, e, hd, _, rfl, l⟩ | ⟨xs, k, b, e, hd, _, hn, hk, rfl, n, dp, l⟩
  · obtain ⟨us, rel, dd⟩ := ldc_at I e
    refine wpAny_in_of (leaf_is ry) hd dd.mapOf ?_
    rw [← (rel.val k).isSome_eq, ← l]
    exact h _ (I.tok _)
  · cases (show u = Value.ref b from ry)
    obtain ⟨us, rel, dd⟩ := tab_at I e hn hk
    refine wpAny_in_heap (knd := nestedKind X.prog X.w) (show A.units + 1 + 8 < cLine from hu) ⟨nk_is I n rfl, dp⟩ hd dd ?_
    have q := (valX_rel rel k).isSome_eq
    rw [Option.isSome_map] at q
    rw [← q, ← l]
    exact h _ (I.tok _)
theorem t_notIn {Q : Value → Shared → Prop} (hu : A.units + 9 < cLine) (I : Inv X pins σ H s) (g : TGet X H a y o) (ry : RelV y u) (h : ∀ s', Inv X pins σ H s' → Q (.bool (!o.isSome)) s') :
    wpAny (model X.prog X.w) A (compareOp .NotIn u (.ref a)) Q E s := by
  rcases g with ⟨vs, k, e, hd, _, rfl, l⟩ | ⟨xs, k, b, e, hd, _, hn, hk, rfl, n, dp, l⟩
  · obtain ⟨us, rel, dd⟩ := ldc_at I e
    refine wpAny_notIn_of (leaf_is ry) hd dd.mapOf ?_
    rw [← (rel.val k).isSome_eq, ← l]
    exact h _ (I.tok _)
  · cases (show u = Value.ref b from ry)
    obtain ⟨us, rel, dd⟩ := tab_at I e hn hk
    refine wpAny_notIn_heap (knd := nestedKind X.prog X.w) (show A.units + 1 + 8 < cLine from hu) ⟨nk_is I n rfl, dp⟩ hd dd ?_
    have q := (valX_rel rel k).isSome_eq
    rw [Option.isSome_map] at q
    rw [← q, ← l]
    exact h _ (I.tok _)
theorem t_get2 {d : V} {Q : Value → Shared → Prop} (hu : A.units + 9 < cLine) (I : Inv X pins σ H s) (g : TGet X H a y o) (ry : RelV y u) (rd : RelV d r) (h : ∀ w' s', Inv X pins σ H s' → RelV (o.getD d) w' → Q w' s') :
    wpAny (model X.prog X.w) A (call (.builtin "dict.get") [.ref a, u, r]) Q E s := by
  rcases g with ⟨vs, k, e, hd, _, rfl, l⟩ | ⟨xs, k, b, e, hd, _, hn, hk, rfl, n, dp, l⟩
  · obtain ⟨us, rel, dd⟩ := ldc_at I e
    refine call_meetsIn PySem.F.slot_dict_get dd.typeIs PySem.F.entry_dict_get (PySem.F.args_dict_get_3 _ _ _) (meets_dict_get_default (leafKind X.prog X.w) a (leaf_is ry) hd r) ⟨_, dd.mapOf, h _ _ (I.tok _) ?_⟩
    rw [l]
    exact (rel.val k).getD rd
  · cases (show u = Value.ref b from ry)
    obtain ⟨us, rel, dd⟩ := tab_at I e hn hk
    refine call_meetsIn PySem.F.slot_dict_get dd.typeIs PySem.F.entry_dict_get (PySem.F.args_dict_get_3 _ _ _) (meetsH_dict_get_default (nestedKind X.prog X.w) a b hd r) ⟨(show A.units + 1 + 8 < cLine from hu), k, us, ⟨nk_is I n rfl, dp⟩, dd, h _ _ (I.tok _) ?_⟩
    rw [l]
    exact (valX_rel rel k).getD rd
end
end DL
end
section
set_option Elab.async false
set_option linter.all false
set_option maxRecDepth 100000
set_option maxHeartbeats 1000000
namespace DL
open PySem PySem.Spec L2 PyProof.Rows

theorem ldcF_stay {P : Program} {w : World} {a : Addr} {vs : List (Leaf × V)} {h1 h2 : Heap} (h : ldcF P w a vs h1) (k : ∀ o, h1.get? a = some o → h2.get? a = some o) : ldcF P w a vs h2 := by
  obtain ⟨us, r, o, es, ep, e, q⟩ := h
  exact ⟨us, r, o, es, ep, k _ e, q⟩
theorem tabF_stay {P : Program} {w : World} {a : Addr} {xs : List (NestedKey × Addr × V)} {h1 h2 : Heap} (h : tabF P w a xs h1) (k : ∀ o, h1.get? a = some o → h2.get? a = some o) : tabF P w a xs h2 := by
  obtain ⟨us, r, o, es, ep, e, q⟩ := h
  exact ⟨us, r, o, es, ep, k _ e, q⟩
theorem ldc_ok {P : Program} {w : World} {H : Hp} {h : Heap} {a : Addr} {vs : List (Leaf × V)} (q : ldcF P w a vs h) : ObjOk P w H h a (.ext (ldcF P w a vs)) :=
  ⟨q, let ⟨_, _, o, _, _, e, _⟩ := q; ⟨o, e⟩, fun _ _ => ldcF_stay⟩
theorem tab_ok {P : Program} {w : World} {H : Hp} {h : Heap} {a : Addr} {xs : List (NestedKey × Addr × V)} (q : tabF P w a xs h) : ObjOk P w H h a (.ext (tabF P w a xs)) :=
  ⟨q, let ⟨_, _, o, _, _, e, _⟩ := q; ⟨o, e⟩, fun _ _ => tabF_stay⟩

def putX (xs : List (NestedKey × Addr × V)) (k : NestedKey) (b : Addr) (v : V) : List (NestedKey × Addr × V) :=
  if (valX xs k).isSome then xs.map (fun x => if x.1 = k then (x.1, x.2.1, v) else x) else xs ++ [(k, b, v)]
theorem putX_rel {xs : List (NestedKey × Addr × V)} {us : List (NestedKey × Addr × Value)} (r : Paired (fun (x : NestedKey × Addr × V) (u : NestedKey × Addr × Value) => x.1 = u.1 ∧ x.2.1 = u.2.1 ∧ RelV x.2.2 u.2.2) xs us)
    (k : NestedKey) (b : Addr) {v : V} {u : Value} (rv : RelV v u) : Paired (fun (x : NestedKey × Addr × V) (u : NestedKey × Addr × Value) => x.1 = u.1 ∧ x.2.1 = u.2.1 ∧ RelV x.2.2 u.2.2) (putX xs k b v) (storedH us k b u) := by
  have q : (valX xs k).isSome = (atKey us k).isSome := by rw [(valX_rel r k).isSome_eq, Option.isSome_map]
  unfold putX storedH
  rw [q]
  split
  · rename_i q'; clear q q'
    induction r with
    | nil => exact .nil
    | @cons p z ps zs h t ih =>
      rw [List.map_cons, List.map_cons]
      refine .cons ?_ ih
      obtain ⟨h1, h2, h3⟩ := h
      unfold putAt
      by_cases e : p.1 = k
      · rw [if_pos e, if_pos (h1.symm.trans e)]; exact ⟨h1, h2, rv⟩
      · rw [if_neg e, if_neg (fun z => e (h1.trans z))]; exact ⟨h1, h2, h3⟩
  · exact Paired.snoc r ⟨rfl, rfl, rv⟩
def TPut (X : Cx) (H : Hp) (a : Addr) (y v : V) (H' : Hp) : Prop :=
  (∃ vs k, H a = some (.ext (ldcF X.prog X.w a vs)) ∧ vs.length < sizeLine ∧ y = leafV k ∧ H' = upd H a (.ext (ldcF X.prog X.w a (putK vs k v)))) ∨
  ∃ xs k b, H a = some (.ext (tabF X.prog X.w a xs)) ∧ xs.length < sizeLine ∧ (xs.map (·.1)).Nodup ∧ (∀ x ∈ xs, Nk X.K H x.1 (.ref x.2.1) ∧ x.1.depth ≤ 8) ∧
    y = .ref b ∧ Nk X.K H k y ∧ k.depth ≤ 8 ∧ H' = upd H a (.ext (tabF X.prog X.w a (putX xs k b v)))
section
variable {X : Cx} {pins : List (Addr × Obj)} {σ : L2.St} {H H' : Hp} {s : Shared} {a : Addr} {y v : V} {u r : Value} {A : Around} {E : Value → Shared → Prop}
theorem t_setItem {Q : Unit → Shared → Prop} (hu : A.units + 9 < cLine) (I : Inv X pins σ H s) (g : TPut X H a y v H') (ry : RelV y u) (rv : RelV v r) (h : ∀ s', Inv X pins σ H' s' → Q () s') :
    wpAny (model X.prog X.w) A (setItem (.ref a) u r) Q E s := by
  rcases g with ⟨vs, k, e, l, rfl, rfl⟩ | ⟨xs, k, b, e, l, hn, hk, rfl, n, dp, rfl⟩
  · obtain ⟨us, rel, dd⟩ := ldc_at I e
    have hz : us.length ≤ sizeLine := by rw [← rel.length]; omega
    refine wpAny_setItem_pairs (hsz := hz) (leaf_is ry) dd fun h' dd' hs => h _ ?_
    have he : ∃ q, h'.get? a = some q := let ⟨q, _, _, hq, _⟩ := dd'; ⟨q, hq⟩
    exact d_write I (by rw [e]; exact True.intro) hs he (ldc_ok ⟨_, rel.put k rv, dd'⟩)
  · cases (show u = Value.ref b from ry)
    obtain ⟨us, rel, dd⟩ := tab_at I e hn hk
    have hz : us.length ≤ sizeLine := by rw [← Paired.length rel]; omega
    refine wpAny_setItem_heap (hsz := hz) (knd := nestedKind X.prog X.w) (show A.units + 1 + 8 < cLine from hu) ⟨nk_is I n rfl, dp⟩ dd fun h' dd' hs => h _ ?_
    obtain ⟨q, es, ep, hq, h2, h3, h4, _, h5⟩ := dd'
    exact d_write I (by rw [e]; exact True.intro) hs ⟨q, hq⟩ (tab_ok ⟨_, putX_rel rel k b rv, q, es, ep, hq, h2, h3, h4⟩)
theorem pe_newQ {pos : Pos} : PE X (.Dict [] [] pos) (fun _ H Q => ∀ p, H p = none → (p == sysModules) = false → Q (.ref p) (upd H p (.ext (ldcF X.prog X.w p [])))) := ⟨fun pins s σ H Q I h =>
  wpAny_Dict_empty ⟨.ref s.heap.objs.size, _, I.laid (a := s.heap.objs.size) (o := .ext (ldcF X.prog X.w s.heap.objs.size [])) (t' := s.toks) (fun _ _ q => Heap.get?_push_of_some _ q) (Nat.le_refl _) (ldc_ok ⟨[], .nil, Heap.DictOf.new s.heap⟩), rfl,
    h _ (I.hok.fresh (Nat.le_refl _)) (beq_eq_false_iff_ne.mpr (Ne.symm (Nat.ne_of_lt I.big)))⟩⟩
theorem pe_newT {pos : Pos} : PE X (.Dict [] [] pos) (fun _ H Q => ∀ p, H p = none → (p == sysModules) = false → Q (.ref p) (upd H p (.ext (tabF X.prog X.w p [])))) := ⟨fun pins s σ H Q I h =>
  wpAny_Dict_empty ⟨.ref s.heap.objs.size, _, I.laid (a := s.heap.objs.size) (o := .ext (tabF X.prog X.w s.heap.objs.size [])) (t' := s.toks) (fun _ _ q => Heap.get?_push_of_some _ q) (Nat.le_refl _) (tab_ok ⟨[], .nil, _, #[], 0, Heap.get?_push_size _ rfl, ⟨rfl, rfl, rfl⟩, rfl, rfl⟩), rfl,
    h _ (I.hok.fresh (Nat.le_refl _)) (beq_eq_false_iff_ne.mpr (Ne.symm (Nat.ne_of_lt I.big)))⟩⟩
end

def getQ (kvs : List (Leaf × D)) (k : Leaf) : Option D := (kvs.find? fun kv => decide (kv.1 = k)).map (·.2)
def getT (kvs : List (NestedKey × D)) (k : NestedKey) : Option D := (kvs.find? fun kv => decide (kv.1 = k)).map (·.2)
def putQ (kvs : List (Leaf × D)) (k : Leaf) (v : D) : List (Leaf × D) := if (getQ kvs k).isSome then kvs.map (fun kv => if kv.1 = k then (kv.1, v) else kv) else kvs ++ [(k, v)]
def putT (kvs : List (NestedKey × D)) (k : NestedKey) (v : D) : List (NestedKey × D) := if (getT kvs k).isSome then kvs.map (fun kv => if kv.1 = k then (kv.1, v) else kv) else kvs ++ [(k, v)]
def RepV (K : PySem.W.Frag) (F : Hp) : Option D → Option V → Prop
  | some d, some v => Rep K F d v
  | none, none => True
  | _, _ => False
theorem getQ_rep {K : PySem.W.Frag} {F : Hp} {k : Leaf} {kvs : List (Leaf × D)} {vs : List (Leaf × V)} (r : RepQ K F kvs vs) : RepV K F (getQ kvs k) (valV vs k) := by
  unfold RepQ at r
  induction r with
  | nil => exact True.intro
  | @cons p q ps qs h t ih =>
    obtain ⟨h1, h2⟩ := h
    unfold getQ valV at ih ⊢
    by_cases e : p.1 = k
    · have e' : q.1 = k := h1.symm.trans e
      simp only [List.find?_cons, e, e', decide_true, Option.map_some]
      exact h2
    · have e' : ¬ q.1 = k := fun z => e (h1.trans z)
      simp only [List.find?_cons, decide_eq_false e, decide_eq_false e']
      exact ih
theorem getT_rep {K : PySem.W.Frag} {F : Hp} {k : NestedKey} {kvs : List (NestedKey × D)} {vs : List (NestedKey × Addr × V)} (r : RepT K F kvs vs) : RepV K F (getT kvs k) (valX vs k) := by
  unfold RepT at r
  induction r with
  | nil => exact True.intro
  | @cons p q ps qs h t ih =>
    obtain ⟨h1, _, h2⟩ := h
    unfold getT valX at ih ⊢
    by_cases e : p.1 = k
    · have e' : q.1 = k := h1.symm.trans e
      simp only [List.find?_cons, e, e', decide_true, Option.map_some]
      exact h2
    · have e' : ¬ q.1 = k := fun z => e (h1.trans z)
      simp only [List.find?_cons, decide_eq_false e, decide_eq_false e']
      exact ih
theorem RepV.isSome {K : PySem.W.Frag} {F : Hp} {o : Option D} {q : Option V} (r : RepV K F o q) : o.isSome = q.isSome := by
  cases o <;> cases q <;> first | rfl | exact r.elim
theorem putQ_rep {K : PySem.W.Frag} {F : Hp} {k : Leaf} {d : D} {v : V} {kvs : List (Leaf × D)} {vs : List (Leaf × V)} (r : RepQ K F kvs vs) (h : Rep K F d v) : RepQ K F (putQ kvs k d) (putK vs k v) := by
  have q := (getQ_rep (k := k) r).isSome
  unfold putQ putK
  rw [valV_any, q]
  split
  · rename_i q'; clear q q'
    unfold RepQ at r ⊢
    induction r with
    | nil => exact .nil
    | @cons p z ps zs h1 t ih =>
      rw [List.map_cons, List.map_cons]
      refine .cons ?_ ih
      obtain ⟨h1, h2⟩ := h1
      by_cases e : p.1 = k
      · rw [if_pos e, if_pos (h1.symm.trans e)]; exact ⟨h1, h⟩
      · rw [if_neg e, if_neg (fun z => e (h1.trans z))]; exact ⟨h1, h2⟩
  · exact Paired.snoc r ⟨rfl, h⟩
theorem putT_rep {K : PySem.W.Frag} {F : Hp} {k : NestedKey} {b : Addr} {d : D} {v : V} {kvs : List (NestedKey × D)} {vs : List (NestedKey × Addr × V)} (r : RepT K F kvs vs) (hk : Rep K F (keyT k) (.ref b)) (h : Rep K F d v) : RepT K F (putT kvs k d) (putX vs k b v) := by
  have q := (getT_rep (k := k) r).isSome
  unfold putT putX
  rw [q]
  split
  · rename_i q'; clear q q'
    unfold RepT at r ⊢
    induction r with
    | nil => exact .nil
    | @cons p z ps zs h1 t ih =>
      rw [List.map_cons, List.map_cons]
      refine .cons ?_ ih
      obtain ⟨h1, h0, h2⟩ := h1
      by_cases e : p.1 = k
      · rw [if_pos e, if_pos (h1.symm.trans e)]; exact ⟨h1, h0, h⟩
      · rw [if_neg e, if_neg (fun z => e (h1.trans z))]; exact ⟨h1, h0, h2⟩
  · exact Paired.snoc r ⟨rfl, hk, h⟩
theorem length_putQ (kvs : List (Leaf × D)) (k : Leaf) (v : D) : (putQ kvs k v).length ≤ kvs.length + 1 := by
  unfold putQ; split <;> simp
theorem length_putT (kvs : List (NestedKey × D)) (k : NestedKey) (v : D) : (putT kvs k v).length ≤ kvs.length + 1 := by
  unfold putT; split <;> simp
theorem putT_keys (kvs : List (NestedKey × D)) (k : NestedKey) (v : D) : (putT kvs k v).map (·.1) = if k ∈ kvs.map (·.1) then kvs.map (·.1) else kvs.map (·.1) ++ [k] := by
  have h : (getT kvs k).isSome = decide (k ∈ kvs.map (·.1)) := by
    unfold getT
    rw [Option.isSome_map]
    induction kvs with
    | nil => rfl
    | cons p kvs ih =>
      simp only [List.find?_cons, List.map_cons, List.mem_cons]
      by_cases e : p.1 = k
      · simp [e]
      · have e' : ¬ k = p.1 := fun z => e z.symm
        simp only [decide_eq_false e, ih, e', false_or]
  unfold putT
  rw [h]
  by_cases e : k ∈ kvs.map (·.1)
  · simp only [e, decide_true, if_true, List.map_map]
    refine List.map_congr_left fun x _ => ?_
    simp only [Function.comp]
    split <;> rfl
  · simp only [e, decide_false, if_false]
    simp
theorem putT_nodup {kvs : List (NestedKey × D)} (h : (kvs.map (·.1)).Nodup) (k : NestedKey) (v : D) : ((putT kvs k v).map (·.1)).Nodup := by
  rw [putT_keys]
  split
  · exact h
  · rename_i e
    rw [List.nodup_append]
    refine ⟨h, List.nodup_cons.mpr ⟨(fun z => by cases z), List.nodup_nil⟩, fun a ha b hb => ?_⟩
    rw [List.mem_singleton] at hb
    subst hb
    exact fun z => e (z ▸ ha)
theorem putT_depth {kvs : List (NestedKey × D)} (h : ∀ p ∈ kvs, p.1.depth ≤ 8) {k : NestedKey} (hk : k.depth ≤ 8) (v : D) : ∀ p ∈ putT kvs k v, p.1.depth ≤ 8 := by
  intro p hp
  have : p.1 ∈ (putT kvs k v).map (·.1) := List.mem_map_of_mem hp
  rw [putT_keys] at this
  have key : ∀ q ∈ kvs.map (·.1), q.depth ≤ 8 := fun q hq => by
    obtain ⟨p, hp, rfl⟩ := List.mem_map.mp hq
    exact h p hp
  split at this
  · exact key _ this
  · rcases List.mem_append.mp this with q | q
    · exact key _ q
    · rw [List.mem_singleton] at q
      rw [q]; exact hk
def tget (μ : Mem) (x y : D) : Option (Option D) := match x with
  | .ref a => match μ a with
    | some (.ldc kvs) => (leafOf y).map fun k => getQ kvs k
    | some (.tab kvs) => match keyN y with
      | some (.tup ks) => if (NestedKey.tup ks).depth ≤ 8 then some (getT kvs (.tup ks)) else none
      | _ => none
    | _ => none
  | _ => none
theorem RepT.keys {K : PySem.W.Frag} {F H : Hp} (l : Le F H) {kvs : List (NestedKey × D)} {xs : List (NestedKey × Addr × V)} (r : RepT K F kvs xs) (hd : ∀ p ∈ kvs, p.1.depth ≤ 8) :
    xs.map (·.1) = kvs.map (·.1) ∧ xs.length = kvs.length ∧ ∀ x ∈ xs, Nk K H x.1 (.ref x.2.1) ∧ x.1.depth ≤ 8 := by
  unfold RepT at r
  induction r with
  | nil => exact ⟨rfl, rfl, fun x h => by cases h⟩
  | @cons p q ps qs h t ih =>
    obtain ⟨i1, i2, i3⟩ := ih fun p hp => hd p (List.mem_cons_of_mem _ hp)
    refine ⟨by simp [h.1, i1], by simp [i2], fun x hx => ?_⟩
    rcases List.mem_cons.mp hx with rfl | hx
    · refine ⟨?_, ?_⟩
      · rw [← h.1]; exact nk_rep l _ _ h.2.1
      · rw [← h.1]; exact hd _ List.mem_cons_self
    · exact i3 x hx
theorem tget_ok {X : Cx} {F : Hp} {μ : Mem} {H : Hp} (w : Wd X.kw F μ H) {x y : D} {v u : V} {o : Option D} (r : Rep X.K F x v) (q : Rep X.K F y u) (h : tget μ x y = some o) : ∃ a ov, v = .ref a ∧ TGet X H a u ov ∧ RepV X.K F o ov := by
  unfold tget at h
  split at h
  · rename_i x a
    rw [rep_ref] at r
    split at h
    · rename_i kvs hm
      obtain ⟨ob, e, xs, rfl, rq, hl, hs⟩ := w.mem _ _ hm
      cases hk : leafOf y with
      | none => rw [hk] at h; cases h
      | some k =>
        rw [hk] at h; cases h
        exact ⟨a, _, r, .inl ⟨xs, k, e, hs, by rw [← Paired.length rq]; exact hl, leafOf_rep hk q, rfl⟩, getQ_rep rq⟩
    · rename_i kvs hm
      obtain ⟨ob, e, xs, rfl, rt, hl, hs, hn, hd⟩ := w.mem _ _ hm
      split at h
      · rename_i ks hk
        split at h
        · rename_i hdp
          cases h
          obtain ⟨k1, k2, k3⟩ := RepT.keys w.le rt hd
          have e2 := keyN_T y _ hk
          subst e2
          have n := nk_rep w.le _ _ q
          obtain ⟨b, rfl⟩ : ∃ b, u = .ref b := by cases n; exact ⟨_, rfl⟩
          exact ⟨a, _, r, .inr ⟨xs, _, b, e, hs, by rw [k2]; exact hl, by rw [k1]; exact hn, k3, rfl, n, hdp, rfl⟩, getT_rep rt⟩
        · cases h
      · cases h
    · cases h
  · cases h
theorem room9 {A : Around} {k : Nat} (r : Room k A) : A.units + 9 < cLine := Nat.lt_of_le_of_lt (Nat.add_le_add_left (by decide : 9 ≤ 64) _) r.units
end DL
end
section
set_option Elab.async false
set_option linter.all false
set_option maxRecDepth 100000
set_option maxHeartbeats 1000000
namespace DL
open PySem PySem.Spec L2 PyProof.Rows

section
variable {X : Cx} {E : XK} {k : Nat}
theorem pe_tget {o i : Expr} {pos : Pos} {td ty : TE} (hu : X.A.units + 9 < cLine) (ho : PE X o td) (hi : PE X i ty) (hs : NoSl i) :
    PE X (.Subscript o i pos) fun σ H Q => td σ H fun x H1 => ty σ H1 fun y H2 => ∃ a v, x = .ref a ∧ TGet X H2 a y (some v) ∧ Q v H2 := by
  refine ⟨fun pins s σ H Q I h => ?_⟩
  refine subD_of PySem.F.slot_dict_getitem.lookup hs (thn (ho.run pins s σ H _ I h) fun u s1 ⟨x, H1, I1, rx, q1⟩ => thn (hi.run pins s1 σ H1 _ I1 q1) fun iv s2 ⟨y, H2, I2, ry, a, v, ex, g, q2⟩ => ?_)
  subst ex
  obtain rfl : u = Value.ref a := rx
  exact ⟨(g.dict I2).1, t_getItem hu I2 g ry fun w' s3 I3 rw' => ⟨v, H2, I3, rw', q2⟩⟩
theorem pc_tin {i o : Expr} {td ty : TE} (hu : X.A.units + 9 < cLine) (hi : PE X i ty) (ho : PE X o td) (neg : Bool) :
    PC X (if neg then .NotIn else .In) i o fun σ H Q => ty σ H fun y H1 => td σ H1 fun x H2 => ∃ a ov, x = .ref a ∧ TGet X H2 a y ov ∧ Q (.bl (neg ^^ ov.isSome)) H2 := by
  refine ⟨fun pins s σ H Q I h => ?_⟩
  refine thn (hi.run pins s σ H _ I h) fun iv s1 ⟨y, H1, I1, ry, q1⟩ => thn (ho.run pins s1 σ H1 _ I1 q1) fun u s2 ⟨x, H2, I2, rx, a, ov, ex, g, q2⟩ => ?_
  subst ex
  obtain rfl : u = Value.ref a := rx
  cases neg with
  | false => exact t_in hu I2 g ry fun s3 I3 => ⟨.bl ov.isSome, H2, I3, rfl, by simpa using q2⟩
  | true => exact t_notIn hu I2 g ry fun s3 I3 => ⟨.bl (!ov.isSome), H2, I3, rfl, by simpa using q2⟩
def sInT (neg : Bool) : S2 := fun x y μ Q => ∃ o, tget μ y x = some o ∧ Q (.bl (neg ^^ o.isSome)) μ
theorem inT_val (c : Ctx X E k) (neg : Bool) : OpnOk X E ⟨fun _ => pCmp (if neg then .NotIn else .In), bi2 (sInT neg), fun _ _ => True⟩ := by
  have key : ∀ {a b : Expr} {t u : DT}, DEj X E a t → DEj X E b u →
      PC X (if neg then .NotIn else .In) a b (teOf X.kw E (dApp ⟨fun _ => pCmp (if neg then .NotIn else .In), bi2 (sInT neg), fun _ _ => True⟩ [t, u])) := by
    intro a b t u h1 h2
    refine ⟨fun pins s σ H Q I h => (pc_tin (room9 c.room) h1 h2 neg).run pins s σ H Q I ?_⟩
    obtain ⟨F, μ, env, Qd, Ex, w, re, x, h, p⟩ := h
    refine ⟨F, μ, env, _, Ex, w, re, x, h, fun F1 v H1 d μ1 l1 w1 r1 h1 => ?_⟩
    refine ⟨F1, μ1, env, _, Ex, w1, re.le l1, x.le l1, h1.2, fun F2 v2 H2 d2 μ2 l2 w2 r2 h2 => ?_⟩
    obtain ⟨_, o, e1, h3⟩ := h2
    obtain ⟨a, ov, rfl, g, rv⟩ := tget_ok w2 r2 (Rep.le l2 _ _ r1) e1
    refine ⟨a, ov, rfl, g, ?_⟩
    rw [← rv.isSome]
    exact p F2 _ H2 _ μ2 (l1.trans l2) w2 (rep_bl.mpr rfl) h3
  have inv : ∀ {op : CmpOp} {e : Expr} {es : List Expr}, pCmp op e = some es → ∃ a b pos, e = .Compare a [op] [b] pos ∧ es = [a, b] ∧ behindInMarks op b = false := by
    intro op e es h
    unfold pCmp at h
    split at h
    · rename_i a o b pos
      split at h
      · rename_i q
        simp only [Bool.and_eq_true, decide_eq_true_eq, Bool.not_eq_true'] at q
        obtain ⟨q1, q2⟩ := q
        subst q1
        cases h
        exact ⟨a, b, pos, rfl, rfl, q2⟩
      · cases h
    · cases h
  refine ⟨fun {e es ts} h l => ?_, fun {e es ts} h l => ?_⟩
  · obtain ⟨a, b, pos, rfl, rfl, hm⟩ := inv h
    obtain ⟨t, u, rfl, h1, h2⟩ := l.two
    exact pe_cmp (key h1 h2) hm
  · obtain ⟨a, b, pos, rfl, rfl, hm⟩ := inv h
    obtain ⟨t, u, rfl, h1, h2⟩ := l.two
    refine PT.imp (pt_cmp (key h1 h2) hm) fun σ H Q ⟨F, μ, env, Qd, Ex, w, re, x, h, p⟩ => ?_
    refine ⟨F, μ, env, _, Ex, w, re, x, h, fun F1 v H1 d μ1 l1 w1 r1 ⟨b, e, h1⟩ => ?_⟩
    subst e
    rw [rep_bl] at r1
    exact ⟨b, r1, p F1 H1 b μ1 l1 w1 h1⟩
end
def oInT : Std := ⟨⟨fun _ => pCmp .In, bi2 (sInT false), fun _ _ => True⟩, fun c => inT_val c false⟩
def oNotInT : Std := ⟨⟨fun _ => pCmp .NotIn, bi2 (sInT true), fun _ _ => True⟩, fun c => inT_val c true⟩
def sGetT : S2 := fun x y μ Q => ∃ d, tget μ x y = some (some d) ∧ Q d μ
def oGetT : Std := ⟨⟨fun _ => pSub, bi2 sGetT, fun _ _ => True⟩, fun c => by
  refine OpnOk.plain (fun e es h => ?_) fun {e es ts} h l => ?_
  · cases e <;> first | rfl | cases h
  · cases e <;> try (cases h; done)
    rename_i a b pos
    have h2 : (if notSlice b then some [a, b] else none) = some es := h
    clear h
    split at h2
    · rename_i q; cases h2
      obtain ⟨t, u, rfl, h1, h2⟩ := l.two
      refine PE.imp (pe_tget (room9 c.room) h1 h2 (plainIx_of q)) fun σ H Q ⟨F, μ, env, Qd, Ex, w, re, x, h, p⟩ => ?_
      refine ⟨F, μ, env, _, Ex, w, re, x, h, fun F1 v H1 d μ1 l1 w1 r1 h1 => ?_⟩
      refine ⟨F1, μ1, env, _, Ex, w1, re.le l1, x.le l1, h1.2, fun F2 v2 H2 d2 μ2 l2 w2 r2 h2 => ?_⟩
      obtain ⟨_, d3, e1, h3⟩ := h2
      obtain ⟨a, ov, rfl, g, rv⟩ := tget_ok w2 (Rep.le l2 _ _ r1) r2 e1
      cases ov with
      | none => exact rv.elim
      | some v3 => exact ⟨a, v3, rfl, g, p F2 _ H2 _ μ2 (l1.trans l2) w2 rv h3⟩
    · cases h2⟩
def isTM : D → Mem → Prop := fun x μ => match x with
  | .ref a => (∃ kvs, μ a = some (.ldc kvs)) ∨ ∃ kvs, μ a = some (.tab kvs)
  | _ => False
section
variable {X : Cx} {E : XK} {k : Nat}
theorem pe_tget2 {o e f : Expr} {apos cpos : Pos} {td ty tx : TE} (hu : X.A.units + 9 < cLine) (ho : PE X o td) (he : PE X e ty) (hf : PE X f tx) (m : M2 X o "get" apos e f cpos) :
    PE X (.Call (.Attribute o "get" apos) [e, f] [] cpos) fun σ H Q => td σ H fun x H1 => ∃ a y0 o0, x = .ref a ∧ TGet X H1 a y0 o0 ∧ ty σ H1 fun y H2 => tx σ H2 fun z H3 => ∃ ov, TGet X H3 a y ov ∧ Q (ov.getD z) H3 := by
  refine ⟨fun pins s σ H Q I h => ?_⟩
  refine wpAny_Call_method m.base m.few m.line PySem.F.plainAttrs_dict PySem.F.slot_dict_get PySem.F.type_dict_get (thn (ho.run pins s σ H _ I h) fun u s1 ⟨x, H1, I1, rx, a, y0, o0, ex, d, q1⟩ => ?_)
  subst ex
  obtain rfl : u = Value.ref a := rx
  obtain ⟨t1, t2, _⟩ := d.dict I1
  refine ⟨t1, t2, ?_⟩
  rw [m.trees]
  refine Calls.callWith_builtin rfl (Calls.evalArgs_plain (Calls.spliced_cons (thn (he.run pins s1 σ H1 _ I1 q1) fun iv s2 ⟨y, H2, I2, ry, q2⟩ =>
    Calls.spliced_cons (thn (hf.run pins s2 σ H2 _ I2 q2) fun fv s3 ⟨z, H3, I3, rz, ov, g, q3⟩ => Calls.spliced_nil ?_))))
  exact t_get2 hu I3 g ry rz fun w' s4 I4 rw' => ⟨_, H3, I4, rw', q3⟩
theorem isTM_ok {F : Hp} {μ : Mem} {H : Hp} (w : Wd X.kw F μ H) {x : D} {v : V} (r : Rep X.K F x v) (h : isTM x μ) : ∃ a y o, v = .ref a ∧ TGet X H a y o := by
  cases x <;> try exact h.elim
  rename_i a
  rw [rep_ref] at r
  rcases h with ⟨kvs, h⟩ | ⟨kvs, h⟩
  · obtain ⟨a, o, e, g, _⟩ := tget_ok (x := .ref a) (y := .non) (v := .ref a) (u := .non) (o := getQ kvs .none) w (rep_ref.mpr rfl) (rep_non.mpr rfl) (by simp [tget, h, leafOf])
    cases e
    exact ⟨_, _, _, r, g⟩
  · obtain ⟨ob, e, xs, rfl, rt, hl, hs, hn, hd⟩ := w.mem _ _ h
    obtain ⟨k1, k2, k3⟩ := RepT.keys w.le rt hd
    cases xs with
    | nil => exact ⟨a, .non, none, r, .inl ⟨[], .none, by
        have : ldcF X.prog X.w a [] = tabF X.prog X.w a [] := by
          funext h
          refine propext ⟨fun ⟨us, r, o, es, ep, h1, h2, h3, h4, h5, _⟩ => ?_, fun ⟨us, r, o, es, ep, h1, h2, h3, h4⟩ => ?_⟩
          · cases r
            refine ⟨[], .nil, o, es, ep, h1, h2, h3, ?_⟩
            have := h5.length
            simpa using this
          · cases r
            have h4' : es.toList = [] := h4
            refine ⟨[], .nil, o, es, ep, h1, h2, h3, fun z hz => ?_, ?_, List.nodup_nil⟩
            · have : z ∈ es.toList := by simpa using hz
              rw [h4'] at this; cases this
            · rw [h4']; exact .nil
        rw [this]; exact e, hs, Nat.zero_le _, rfl, rfl⟩⟩
    | cons x xs => exact ⟨a, _, _, r, .inr ⟨_, x.1, x.2.1, e, hs, by rw [k2]; exact hl, by rw [k1]; exact hn, k3, rfl, (k3 _ List.mem_cons_self).1, (k3 _ List.mem_cons_self).2, rfl⟩⟩
end
def sGetT2 : SL := fun ds μ Q => match ds with
  | [x, y, z] => ∃ o, tget μ x y = some o ∧ Q (o.getD z) μ
  | _ => False
def pGet2 : Expr → Option (List Expr)
  | .Call (.Attribute o n ap) [e, f] [] cp => if decide (n = "get") && (notSuper o && ((notStar e && notStar f) && ap.endLine == cp.line)) then some [o, e, f] else none
  | _ => none
def oGetT2 : Std := ⟨⟨fun _ => pGet2, lf sGetT2, preOne isTM⟩, fun {X E k} c => by
  have inv : ∀ {e : Expr} {es : List Expr}, pGet2 e = some es → ∃ o ap e1 f cp, e = .Call (.Attribute o "get" ap) [e1, f] [] cp ∧ es = [o, e1, f] ∧ notSuper o = true ∧ notStar e1 = true ∧ notStar f = true ∧ (ap.endLine == cp.line) = true := by
    intro e es h
    unfold pGet2 at h
    split at h
    · rename_i o n ap e1 f cp
      split at h
      · rename_i q
        simp only [Bool.and_eq_true, decide_eq_true_eq] at q
        obtain ⟨q1, q2, ⟨q3, q4⟩, q5⟩ := q
        subst q1
        cases h
        exact ⟨o, ap, e1, f, cp, rfl, rfl, q2, q3, q4, q5⟩
      · cases h
    · cases h
  refine OpnOk.plain (fun e es h => by obtain ⟨o, ap, e1, f, cp, rfl, _⟩ := inv h; rfl) fun {e es ts} h l => ?_
  obtain ⟨o, ap, e1, f, cp, rfl, rfl, h1, h2, h3, h4⟩ := inv h
  cases l with
  | cons ho hr =>
  rename_i t ts
  obtain ⟨tb, tc, rfl, he, hf⟩ := hr.two
  have trees : starEach [e1, f] X.env = [(false, eval e1 X.env), (false, eval f X.env)] := by
    rw [starEach_cons h2, starEach_cons h3]; rfl
  refine PE.imp (pe_tget2 (room9 c.room) ho he hf ⟨base_of h1, by rw [noStar_all (by simp [h2, h3])]; simp [keywordEach, backToKw], h4, by rw [trees]; rfl⟩) fun σ H Q ⟨F, μ, env, Qd, Ex, w, re, x, h, p⟩ => ?_
  refine ⟨F, μ, env, _, Ex, w, re, x, dApp_one rfl h, fun F1 v H1 d μ1 l1 w1 r1 h1 => ?_⟩
  obtain ⟨a, y0, o0, rfl, g0⟩ := isTM_ok w1 r1 h1.1
  refine ⟨a, y0, o0, rfl, g0, F1, μ1, env, _, Ex, w1, re.le l1, x.le l1, h1.2, fun F2 v2 H2 d2 μ2 l2 w2 r2 h2 => ?_⟩
  refine ⟨F2, μ2, env, _, Ex, w2, re.le (l1.trans l2), x.le (l1.trans l2), h2, fun F3 v3 H3 d3 μ3 l3 w3 r3 h3 => ?_⟩
  obtain ⟨o, e1, h3⟩ := h3
  obtain ⟨a', ov, e, g, rv⟩ := tget_ok w3 (Rep.le (l2.trans l3) _ _ r1) (Rep.le l3 _ _ r2) e1
  cases e
  refine ⟨ov, g, p F3 _ H3 _ μ3 ((l1.trans l2).trans l3) w3 ?_ h3⟩
  cases o with
  | none => cases ov with
    | none => exact r3
    | some _ => exact rv.elim
  | some _ => cases ov with
    | none => exact rv.elim
    | some _ => exact rv⟩
def pDct0 : Expr → Option (List Expr)
  | .Dict [] [] _ => some []
  | _ => none
def oDctQ : Std := ⟨⟨fun _ => pDct0, lf fun ds μ Q => ds = [] ∧ ∀ a, μ a = none → Q (.ref a) (μ.set a (.ldc [])), fun _ _ => True⟩, fun c => by
  refine OpnOk.plain (fun e es h => by
    have h : pDct0 e = some es := h
    unfold pDct0 at h; split at h <;> first | rfl | cases h) fun {e es ts} h l => ?_
  have h : pDct0 e = some es := h
  unfold pDct0 at h
  split at h
  · cases h
    cases l
    refine PE.imp pe_newQ fun σ H Q ⟨F, μ, env, Qd, Ex, w, re, x, ⟨_, h⟩, p⟩ q hq hs => ?_
    exact p F _ _ _ _ (Same.refl _) (w.newM hq (m := .ldc []) ⟨[], rfl, .nil, Nat.zero_le _, hs⟩) (rep_ref.mpr rfl) (h q (w.freeM hq))
  · cases h⟩
def oDctT : Std := ⟨⟨fun _ => pDct0, lf fun ds μ Q => ds = [] ∧ ∀ a, μ a = none → Q (.ref a) (μ.set a (.tab [])), fun _ _ => True⟩, fun c => by
  refine OpnOk.plain (fun e es h => by
    have h : pDct0 e = some es := h
    unfold pDct0 at h; split at h <;> first | rfl | cases h) fun {e es ts} h l => ?_
  have h : pDct0 e = some es := h
  unfold pDct0 at h
  split at h
  · cases h
    cases l
    refine PE.imp pe_newT fun σ H Q ⟨F, μ, env, Qd, Ex, w, re, x, ⟨_, h⟩, p⟩ q hq hs => ?_
    exact p F _ _ _ _ (Same.refl _) (w.newM hq (m := .tab []) ⟨[], rfl, .nil, Nat.zero_le _, hs, List.nodup_nil, fun _ z => nomatch z⟩) (rep_ref.mpr rfl) (h q (w.freeM hq))
  · cases h⟩
def tput (μ : Mem) (x y v : D) : Option (Addr × MO) := match x with
  | .ref a => match μ a with
    | some (.ldc kvs) => if kvs.length < sizeLine then (leafOf y).map fun k => (a, .ldc (putQ kvs k v)) else none
    | some (.tab kvs) => match keyN y with
      | some (.tup ks) => if (NestedKey.tup ks).depth ≤ 8 ∧ kvs.length < sizeLine then some (a, .tab (putT kvs (.tup ks) v)) else none
      | _ => none
    | _ => none
  | _ => none
theorem tput_ok {X : Cx} {F : Hp} {μ : Mem} {H : Hp} (w : Wd X.kw F μ H) {x y d : D} {v u z : V} {a : Addr} {m : MO} (r : Rep X.K F x v) (q : Rep X.K F y u) (rd : Rep X.K F d z) (h : tput μ x y d = some (a, m)) :
    ∃ H', v = .ref a ∧ TPut X H a u z H' ∧ Wd X.kw F (μ.set a m) H' := by
  unfold tput at h
  split at h
  · rename_i x a'
    rw [rep_ref] at r
    split at h
    · rename_i kvs hm
      obtain ⟨ob, e, xs, rfl, rq, hl, hs⟩ := w.mem _ _ hm
      split at h
      · rename_i hz
        cases hk : leafOf y with
        | none => rw [hk] at h; cases h
        | some k =>
          rw [hk] at h; cases h
          have hl' := Paired.length rq
          refine ⟨_, r, .inl ⟨xs, k, e, by rw [← hl']; exact hz, leafOf_rep hk q, rfl⟩, w.setM hm ⟨_, rfl, putQ_rep rq rd, ?_, hs⟩⟩
          have := length_putQ kvs k d
          omega
      · cases h
    · rename_i kvs hm
      obtain ⟨ob, e, xs, rfl, rt, hl, hs, hn, hd⟩ := w.mem _ _ hm
      split at h
      · rename_i ks hk
        split at h
        · rename_i hdp
          cases h
          obtain ⟨k1, k2, k3⟩ := RepT.keys w.le rt hd
          have e2 := keyN_T y _ hk
          subst e2
          have n := nk_rep w.le _ _ q
          obtain ⟨b, rfl⟩ : ∃ b, u = .ref b := by cases n; exact ⟨_, rfl⟩
          refine ⟨_, r, .inr ⟨xs, _, b, e, by rw [k2]; exact hdp.2, by rw [k1]; exact hn, k3, rfl, n, hdp.1, rfl⟩, w.setM hm ⟨_, rfl, putT_rep rt q rd, ?_, hs, putT_nodup hn _ _, putT_depth hd hdp.1 _⟩⟩
          have := length_putT kvs (.tup ks) d
          omega
        · cases h
      · cases h
    · cases h
  · cases h
def sSetT : SOpn := ⟨fun _ => pSetIx, fun ds k env μ => match ds with
  | [d, x, y] => ∃ a m, tput μ x y d = some (a, m) ∧ k.nx env (μ.set a m)
  | _ => False, fun _ _ => True⟩
theorem ps_tput {X : Cx} {o i value : Expr} {pos pos' : Pos} {td ty tv : TE} (hu : X.A.units + 9 < cLine) (ho : PE X o td) (hi : PE X i ty) (hv : PE X value tv) (hs : swapsWith value (some (.Subscript o i pos')) pos.line X.env = pure false) :
    PS X (.Assign [.Subscript o i pos'] value pos) (fun D σ H => tv σ H fun v H1 => td σ H1 fun x H2 => ty σ H2 fun y H3 => ∃ a H4, x = .ref a ∧ TPut X H3 a y v H4 ∧ D.nx σ H4) := by
  refine ⟨fun pins s σ H D I h => ?_⟩
  refine wpAny_Assign_Subscript (thn (hv.run pins s σ H _ I h) fun r s1 ⟨v, H1, I1, rv, q1⟩ => thn (ho.run pins s1 σ H1 _ I1 q1) fun u s2 ⟨x, H2, I2, rx, q2⟩ => thn (hi.run pins s2 σ H2 _ I2 q2) fun iv s3 ⟨y, H3, I3, ry, a, H4, ex, g, q3⟩ => ?_) hs
  subst ex
  obtain rfl : u = Value.ref a := rx
  exact t_setItem hu I3 g ry rv fun s4 I4 => ⟨σ, H4, I4, q3⟩
def stSetT : StdS := ⟨sSetT, fun {X E k} c => by
  intro st es ts h l
  have h2 : pSetIx st = some es := h
  clear h
  unfold pSetIx at h2
  split at h2
  · rename_i o i tp v pos
    split at h2
    · rename_i q
      cases h2
      obtain ⟨tv, to, ti, rfl, hv, ho, hi⟩ : ∃ tv to ti, ts = [tv, to, ti] ∧ DEj X E v tv ∧ DEj X E o to ∧ DEj X E i ti := by
        cases l with
        | cons h1 l => obtain ⟨a, b, rfl, h2, h3⟩ := l.two; exact ⟨_, _, _, rfl, h1, h2, h3⟩
      refine PS.imp (ps_tput (room9 c.room) ho hi hv swaps_sub) fun D σ H ⟨F, μ, env, k, w, re, x, h, en⟩ => ?_
      refine ⟨F, μ, env, _, k.ex, w, re, x, h, fun F1 v1 H1 d1 μ1 l1 w1 r1 h1 => ?_⟩
      refine ⟨F1, μ1, env, _, k.ex, w1, re.le l1, x.le l1, h1.2, fun F2 v2 H2 d2 μ2 l2 w2 r2 h2 => ?_⟩
      refine ⟨F2, μ2, env, _, k.ex, w2, re.le (l1.trans l2), x.le (l1.trans l2), h2.2, fun F3 v3 H3 d3 μ3 l3 w3 r3 h3 => ?_⟩
      obtain ⟨_, a, m, e1, h3⟩ := h3
      obtain ⟨H4, rfl, g, w4⟩ := tput_ok w3 (Rep.le l3 _ _ r2) r3 (Rep.le (l2.trans l3) _ _ r1) e1
      exact ⟨a, H4, rfl, g, en.nx F3 σ H4 env _ ((l1.trans l2).trans l3) w4 (re.le ((l1.trans l2).trans l3)) h3⟩
    · cases h2
  · cases h2⟩
end DL
end
section
set_option Elab.async false
set_option linter.all false
set_option maxRecDepth 100000
set_option maxHeartbeats 1000000
namespace DLS
open PySem PySem.Spec PyProof.Rows

abbrev IsZs (h : Heap) (z TI TO : Addr) (f0 : Value) : Prop := h.get? z = some { cls := .type "zip", dict := none, data := .fields #[f0, .bool false, .bool true, .ref TI, .ref TO], slots := #[] }
section
variable {prog : Program} {w : World} {A : Around} {E : Value → Shared → Prop} {s : Shared}
theorem oe_item {v : Value} {Q : Option Value → Shared → Prop} (h : wpAny (model prog w) A (Builtin.SmallTypes.nextOf v) (fun x s' => Q (some x) s') (fun _ _ => False) s) : wpAny (model prog w) A (Builtin.SmallTypes.nextOrEnd v) Q E s := by
  unfold Builtin.SmallTypes.nextOrEnd
  exact wpAny_bind (wpAny_attempt (wpAny_mono h (fun x s' h => wpAny_pure h) fun _ _ h => h.elim))
theorem oe_end {v : Value} {Q : Option Value → Shared → Prop}
    (h : wpAny (model prog w) A (Builtin.SmallTypes.nextOf v) (fun _ _ => False) (fun e s' => (∃ a o, e = .ref a ∧ s'.heap.get? a = some o ∧ o.cls = .type "StopIteration") ∧ Q none s') s) : wpAny (model prog w) A (Builtin.SmallTypes.nextOrEnd v) Q E s := by
  unfold Builtin.SmallTypes.nextOrEnd
  refine wpAny_bind (wpAny_attempt (wpAny_mono h (fun x s' h => h.elim) fun e s' h => ?_))
  obtain ⟨⟨a, o, rfl, ho, hc⟩, hq⟩ := h
  exact wpAny_bind (wpAny_isInstance (T := "StopIteration") (b := true) ⟨o, ho, hc⟩ isSubtype_stop (wpAny_pure hq))
theorem stop_raised {α : Type} {Q : α → Shared → Prop} (hh : A.handled = none)
    (hE : ∀ h' e, (∀ b o, s.heap.get? b = some o → h'.get? b = some o) → (∃ o, h'.get? e = some o ∧ o.cls = .type "StopIteration") → E (.ref e) { s with heap := h' }) : wpAny (model prog w) A (Builtin.SmallTypes.stopIteration (α := α)) Q E s := by
  unfold Builtin.SmallTypes.stopIteration
  refine wpAny_bind ?_
  simp only [newExc, newTuple]
  refine wpAny_bind (wpAny_newObj_type ?_ (by size_fits))
  refine wpAny_bind (m := firstArgMember _ _) (wpAny_of_eq (a := Value.none) (by first | rfl | (simp only [firstArgMember]; rfl)) ?_)
  refine wpAny_newObj_type ?_ (by size_fits)
  simp only [raiseNew]
  refine wpAny_bind (wpAny_handled ?_)
  rw [hh]
  exact wpAny_bind (wpAny_pure (wpAny_throw (hE _ _ (fun b o x => Heap.get?_push_of_some _ (Heap.get?_push_of_some _ x)) ⟨_, Heap.get?_push_size _ rfl, rfl⟩)))

variable {z TI TO i1 i2 : Addr} {fp1 fp2 : List Addr} {n1 n2 i : Nat} {P1 P2 : Nat → Value → Prop} {St1 St2 : Nat → Heap → Prop} {a1 a2 : Value}
theorem strict_item {Q : Value → Shared → Prop} (S : ZipSep2 z TI TO i1 i2 fp1 fp2) (D1 : Draws prog w A i1 fp1 n1 P1 St1) (D2 : Draws prog w A i2 fp2 n2 P2 St2)
    (hz : IsZs s.heap z TI TO .none) (hTI : IsTupOf2 s.heap TI (.ref i1) (.ref i2)) (hTO : IsTupOf2 s.heap TO a1 a2) (st1 : St1 i s.heap) (st2 : St2 i s.heap) (hlt1 : i < n1) (hlt2 : i < n2)
    (hQ : ∀ x1 x2 h' tk, P1 i x1 → P2 i x2 → IsZs h' z TI TO (rawInt s.heap.objs.size) → IsTupOf2 h' TO x1 x2 → St1 (i + 1) h' → St2 (i + 1) h' → IsTupOf2 h' s.heap.objs.size x1 x2 → h'.objs.size = s.heap.objs.size + 1 →
      (∀ c o, c ≠ z → c ≠ TO → c ≠ i1 → c ≠ i2 → s.heap.get? c = some o → h'.get? c = some o) → Q (.ref s.heap.objs.size) { s with heap := h', toks := tk }) :
    wpAny (model prog w) A (Builtin.«zip.__next__» ⟨[.ref z], []⟩) (fun fin s' => ∃ v, fin = .done (.ret v) ∧ Q v s') E s := by
  obtain ⟨hp, g, d, t0, os⟩ := s
  show wpAny _ _ (field (.ref z) 2 >>= _) _ _ _
  refine wpAny_bind (wpAny_field hz rfl (x := .bool true) rfl ?_)
  show wpAny _ _ (field (.ref z) 3 >>= _) _ _ _
  refine wpAny_bind (wpAny_field hz rfl (x := .ref TI) rfl ?_)
  refine wpAny_bind (wpAny_seqItems hTI rfl ?_)
  show wpAny _ _ (Builtin.SmallTypes.ownedTupleIsFree (.ref z) >>= _) _ _ _
  refine wpAny_bind ?_
  unfold Builtin.SmallTypes.ownedTupleIsFree
  refine wpAny_bind (wpAny_field hz rfl (x := .none) rfl (wpAny_pure ?_))
  simp only [if_true]
  refine wpAny_bind (wpAny_rule ?_)
  refine wpAny_bind (wpAny_field hz rfl (x := .ref TO) rfl ?_)
  refine wpAny_bind (wpAny_setField_rec hz (by simp) fun k0 hz0 e0 => ?_)
  have hz0 : IsZs k0 z TI TO .ellipsis := hz0
  have e0 : Heap.SameBut z hp k0 := e0
  refine wpAny_bind ?_
  simp only [List.zipIdx_cons, List.zipIdx_nil, List.forIn_cons, List.forIn_nil]
  refine wpAny_bind (wpAny_bind (wpAny_onRaise ?_))
  show wpAny _ _ (Builtin.SmallTypes.nextOrEnd (.ref i1)) _ _ ⟨k0, g, d, t0, os⟩
  refine oe_item (D1.item i _ _ _ hlt1 (D1.over st1 e0 S.zf1) fun x1 p1 t1 hx1 sn1 f1 => ?_)
  have f1 : Heap.SameBut i1 k0 p1 := f1
  have hU1 : IsTupOf2 p1 TO a1 a2 := f1.extBut _ _ S.Ti1 (e0.extBut _ _ S.TOz hTO)
  refine wpAny_bind (wpAny_seqItems (s := ⟨p1, g, d, t1, os⟩) hU1 rfl ?_)
  refine wpAny_bind (updateSeq_IsTupOf2 (s := ⟨p1, g, d, t1, os⟩) hU1 fun k1 hT1 e1 => ?_)
  have hT1 : IsTupOf2 k1 TO x1 a2 := hT1
  have e1 : Heap.SameBut TO p1 k1 := e1
  refine wpAny_bind (wpAny_letGo (wpAny_pure ?_))
  refine wpAny_bind (wpAny_bind (wpAny_onRaise ?_))
  show wpAny _ _ (Builtin.SmallTypes.nextOrEnd (.ref i2)) _ _ ⟨k1, g, d, t1, os⟩
  refine oe_item (D2.item i _ _ _ hlt2 (D2.over (D2.over (D2.over st2 e0 S.zf2) f1 S.sep1_2) e1 S.Tf2) fun x2 p2 t2 hx2 sn2 f2 => ?_)
  have f2 : Heap.SameBut i2 k1 p2 := f2
  have hU2 : IsTupOf2 p2 TO x1 a2 := f2.extBut _ _ S.Ti2 hT1
  refine wpAny_bind (wpAny_seqItems (s := ⟨p2, g, d, t2, os⟩) hU2 rfl ?_)
  refine wpAny_bind (updateSeq_IsTupOf2 (s := ⟨p2, g, d, t2, os⟩) hU2 fun k2 hT2 e2 => ?_)
  have hT2 : IsTupOf2 k2 TO x1 x2 := hT2
  have e2 : Heap.SameBut TO p2 k2 := e2
  refine wpAny_bind (wpAny_letGo (wpAny_pure (wpAny_pure ?_)))
  refine wpAny_bind (wpAny_seqItems (s := ⟨k2, g, d, t2, os⟩) hT2 rfl ?_)
  refine wpAny_bind (wpAny_newTuple ?_)
  have hsz : k2.objs.size = hp.objs.size := by rw [e2.1, f2.1, e1.1, f1.1, e0.1]
  have hzz : IsZs k2 z TI TO .ellipsis := e2.extBut _ _ S.TOz.symm (f2.extBut _ _ S.zi2 (e1.extBut _ _ S.TOz.symm (f1.extBut _ _ S.zi1 hz0)))
  have hkk : ∀ c o, c ≠ z → c ≠ TO → c ≠ i1 → c ≠ i2 → hp.get? c = some o → k2.get? c = some o := fun c o cz cT c1 c2 e =>
    e2.extBut _ _ cT (f2.extBut _ _ c2 (e1.extBut _ _ cT (f1.extBut _ _ c1 (e0.extBut _ _ cz e))))
  have hj1 : St1 (i + 1) k2 := D1.over (D1.over (D1.over sn1 e1 S.Tf1) f2 S.sep2_1) e2 S.Tf1
  have hj2 : St2 (i + 1) k2 := D2.over sn2 e2 S.Tf2
  have hzlt : z < k2.objs.size := Heap.lt_size hzz
  show wpAny _ _ (Builtin.SmallTypes.ownedTupleHandOut (.ref z) (.ref k2.objs.size) >>= _) _ _ ⟨k2.push { cls := .type "tuple", data := .seq #[x1, x2] }, g, d, t2, os⟩
  refine wpAny_bind ?_
  unfold Builtin.SmallTypes.ownedTupleHandOut
  have hz6 : IsZs (k2.push { cls := .type "tuple", data := .seq #[x1, x2] }) z TI TO .ellipsis := Heap.get?_push_of_some _ hzz
  refine wpAny_bind (wpAny_setField_rec hz6 (by simp) fun k7 hz7 e7 => ?_)
  have hz7 : IsZs k7 z TI TO (rawInt k2.objs.size) := hz7
  refine wpAny_setField_rec hz7 (by simp) fun k8 hz8 e8 => ?_
  have hz8 : IsZs k8 z TI TO (rawInt k2.objs.size) := hz8
  have e7 : Heap.SameBut z (k2.push { cls := .type "tuple", data := .seq #[x1, x2] }) k7 := e7
  have e8 : Heap.SameBut z k7 k8 := e8
  have up : ∀ c o, c ≠ z → k2.get? c = some o → k8.get? c = some o := fun c o c1 e => e8.extBut _ _ c1 (e7.extBut _ _ c1 (Heap.get?_push_of_some _ e))
  have hT8 : IsTupOf2 k8 k2.objs.size x1 x2 := e8.extBut _ _ (Nat.ne_of_gt hzlt) (e7.extBut _ _ (Nat.ne_of_gt hzlt) (Heap.get?_push_size _ rfl))
  have hs8 : k8.objs.size = k2.objs.size + 1 := by rw [e8.1, e7.1, Heap.size_push]
  rw [hsz] at hz8 hT8 hs8
  refine wpAny_pure ⟨_, rfl, ?_⟩
  show Q (.ref k2.objs.size) ⟨k8, g, d, t2, os⟩
  rw [hsz]
  exact hQ x1 x2 k8 t2 hx1 hx2 hz8 (up _ _ S.TOz hT2) (D1.frame _ _ _ hj1 fun b hb o e => up b o (fun q => S.zf1 (q ▸ hb)) e) (D2.frame _ _ _ hj2 fun b hb o e => up b o (fun q => S.zf2 (q ▸ hb)) e) hT8 hs8
    fun c o c1 c2 c3 c4 e => up c o c1 (hkk c o c1 c2 c3 c4 e)
theorem strict_end {Q : Fin → Shared → Prop} (hh : A.handled = none) (S : ZipSep2 z TI TO i1 i2 fp1 fp2) (D1 : Draws prog w A i1 fp1 n1 P1 St1) (D2 : Draws prog w A i2 fp2 n2 P2 St2)
    (hz : IsZs s.heap z TI TO .none) (hTI : IsTupOf2 s.heap TI (.ref i1) (.ref i2)) (hTO : IsTupOf2 s.heap TO a1 a2) (st1 : St1 n1 s.heap) (st2 : St2 n2 s.heap)
    (hE : ∀ h' e, (∀ c o, c ≠ z → c ≠ TO → c ≠ i1 → c ≠ i2 → s.heap.get? c = some o → h'.get? c = some o) → (∃ o, h'.get? e = some o ∧ o.cls = .type "StopIteration") → E (.ref e) { s with heap := h' }) :
    wpAny (model prog w) A (Builtin.«zip.__next__» ⟨[.ref z], []⟩) Q E s := by
  obtain ⟨hp, g, d, t0, os⟩ := s
  show wpAny _ _ (field (.ref z) 2 >>= _) _ _ _
  refine wpAny_bind (wpAny_field hz rfl (x := .bool true) rfl ?_)
  show wpAny _ _ (field (.ref z) 3 >>= _) _ _ _
  refine wpAny_bind (wpAny_field hz rfl (x := .ref TI) rfl ?_)
  refine wpAny_bind (wpAny_seqItems hTI rfl ?_)
  show wpAny _ _ (Builtin.SmallTypes.ownedTupleIsFree (.ref z) >>= _) _ _ _
  refine wpAny_bind ?_
  unfold Builtin.SmallTypes.ownedTupleIsFree
  refine wpAny_bind (wpAny_field hz rfl (x := .none) rfl (wpAny_pure ?_))
  simp only [if_true]
  refine wpAny_bind (wpAny_rule ?_)
  refine wpAny_bind (wpAny_field hz rfl (x := .ref TO) rfl ?_)
  refine wpAny_bind (wpAny_setField_rec hz (by simp) fun k0 hz0 e0 => ?_)
  have hz0 : IsZs k0 z TI TO .ellipsis := hz0
  have e0 : Heap.SameBut z hp k0 := e0
  refine wpAny_bind ?_
  simp only [List.zipIdx_cons, List.zipIdx_nil, List.forIn_cons, List.forIn_nil]
  refine wpAny_bind (wpAny_bind (wpAny_onRaise ?_))
  show wpAny _ _ (Builtin.SmallTypes.nextOrEnd (.ref i1)) _ _ ⟨k0, g, d, t0, os⟩
  refine oe_end (D1.done ⟨k0, g, d, t0, os⟩ _ _ (D1.over st1 e0 S.zf1) fun q e hq he => ?_)
  have hq : Heap.ExtBut i1 k0 q := hq
  obtain ⟨oe, hoe, hce⟩ := he
  refine ⟨⟨e, oe, rfl, hoe, hce⟩, ?_⟩
  have hzq : IsZs q z TI TO .ellipsis := hq _ _ S.zi1 hz0
  refine wpAny_bind (wpAny_setField_rec (s := ⟨q, g, d, t0, os⟩) hzq (by simp) fun q1 hz1 e1 => ?_)
  have e1 : Heap.SameBut z q q1 := e1
  refine wpAny_bind (wpAny_bind ?_)
  simp only [List.drop_succ_cons, List.drop_zero, List.zipIdx_cons, List.zipIdx_nil, List.forIn_cons, List.forIn_nil]
  have st2' : St2 n2 q1 := D2.frame _ _ _ (D2.over st2 e0 S.zf2) fun b hb o e => e1.extBut _ _ (fun x => S.zf2 (x ▸ hb)) (hq _ _ (fun x => S.sep1_2 (x ▸ hb)) e)
  refine wpAny_bind (wpAny_bind (oe_end (D2.done ⟨q1, g, d, t0, os⟩ _ _ st2' fun r e' hr he' => ?_)))
  have hr : Heap.ExtBut i2 q1 r := hr
  obtain ⟨oe', hoe', hce'⟩ := he'
  refine ⟨⟨e', oe', rfl, hoe', hce'⟩, ?_⟩
  simp only [Option.isSome_none, Bool.false_eq_true, if_false]
  refine wpAny_pure (wpAny_pure (wpAny_bind (wpAny_rule (stop_raised hh fun h' e2 hk hc => ?_))))
  exact hE h' e2 (fun c o cz cT c1 c2 x => hk _ _ (hr _ _ c2 (e1.extBut _ _ cz (hq _ _ c1 (e0.extBut _ _ cz x))))) hc
theorem next_strict_item {Q : Option Value → Shared → Prop} (S : ZipSep2 z TI TO i1 i2 fp1 fp2) (D1 : Draws prog w A.in1 i1 fp1 n1 P1 St1) (D2 : Draws prog w A.in1 i2 fp2 n2 P2 St2)
    (hz : IsZs s.heap z TI TO .none) (hTI : IsTupOf2 s.heap TI (.ref i1) (.ref i2)) (hTO : IsTupOf2 s.heap TO a1 a2) (st1 : St1 i s.heap) (st2 : St2 i s.heap) (hlt1 : i < n1) (hlt2 : i < n2)
    (hQ : ∀ x1 x2 h' tk, P1 i x1 → P2 i x2 → IsZs h' z TI TO (rawInt s.heap.objs.size) → IsTupOf2 h' TO x1 x2 → St1 (i + 1) h' → St2 (i + 1) h' → IsTupOf2 h' s.heap.objs.size x1 x2 → h'.objs.size = s.heap.objs.size + 1 →
      (∀ c o, c ≠ z → c ≠ TO → c ≠ i1 → c ≠ i2 → s.heap.get? c = some o → h'.get? c = some o) → Q (some (.ref s.heap.objs.size)) { s with heap := h', toks := tk }) :
    wpAny (model prog w) A (pyNext (.ref z)) Q E s := by
  have hT : s.TypeIs (.ref z) "zip" := ⟨_, hz, rfl⟩
  unfold pyNext
  exact wpAny_bind (wpAny_attempt (wpAny_callSpecial?_slot (name := Str.ofString "__next__") hT PySem.F.slot_zip_next
    (wpAny_call_entry PySem.F.slot_zip_next hT PySem.F.entry_zip_next
      (strict_item S D1 D2 hz hTI hTO st1 st2 hlt1 hlt2 fun x1 x2 h' tk b1 b2 b3 b4 b5 b6 b7 b8 b9 => wpAny_pure (hQ x1 x2 h' tk b1 b2 b3 b4 b5 b6 b7 b8 b9)) (PySem.F.args_zip_next_1 _))))
theorem next_strict_end {Q : Option Value → Shared → Prop} (hh : A.handled = none) (S : ZipSep2 z TI TO i1 i2 fp1 fp2) (D1 : Draws prog w A.in1 i1 fp1 n1 P1 St1) (D2 : Draws prog w A.in1 i2 fp2 n2 P2 St2)
    (hz : IsZs s.heap z TI TO .none) (hTI : IsTupOf2 s.heap TI (.ref i1) (.ref i2)) (hTO : IsTupOf2 s.heap TO a1 a2) (st1 : St1 n1 s.heap) (st2 : St2 n2 s.heap)
    (hQ : ∀ h', (∀ c o, c ≠ z → c ≠ TO → c ≠ i1 → c ≠ i2 → s.heap.get? c = some o → h'.get? c = some o) → Q none { s with heap := h' }) : wpAny (model prog w) A (pyNext (.ref z)) Q E s := by
  have hT : s.TypeIs (.ref z) "zip" := ⟨_, hz, rfl⟩
  unfold pyNext
  refine wpAny_bind (wpAny_attempt (wpAny_callSpecial?_slot (name := Str.ofString "__next__") hT PySem.F.slot_zip_next
    (wpAny_call_entry PySem.F.slot_zip_next hT PySem.F.entry_zip_next (strict_end (A := A.in1) hh S D1 D2 hz hTI hTO st1 st2 fun h' e hk he => ?_) (PySem.F.args_zip_next_1 _))))
  obtain ⟨o, ho, hc⟩ := he
  refine wpAny_bind (wpAny_isInstance (T := "StopIteration") (b := true) ⟨o, ho, hc⟩ isSubtype_stop ?_)
  exact wpAny_pure (hQ _ hk)
theorem go_strict {elts : List Expr} {x1} {pos : Pos} {T : Addr} {Q : Unit → Shared → Prop} (hz : IsZs s.heap z TI TO (rawInt T))
    (hQ : ∀ h', IsZs h' z TI TO .none → Heap.SameBut z s.heap h' → Q () { s with heap := h' }) : wpAny (model prog w) A (letOwnedTupleGo (.Tuple elts x1 pos) (.ref z) (.ref T)) Q E s := by
  unfold letOwnedTupleGo
  refine wpAny_bind (wpAny_load hz ?_)
  show wpAny _ _ (if (["enumerate", "zip", "dict_itemiterator", "dict_reverseitemiterator", "odict_iterator", "itertools.zip_longest", "itertools.pairwise"].contains "zip" &&
      (#[rawInt T, .bool false, .bool true, .ref TI, .ref TO] : Array Value)[0]? == some (rawInt T)) = true then _ else _) Q E s
  rw [if_pos (by simp)]
  refine wpAny_bind (wpAny_rule ?_)
  show wpAny _ _ (setField (.ref z) 0 .none) Q E s
  exact wpAny_setField_rec hz (by simp) fun h' hz' hs' => hQ h' hz' hs'
theorem iter_strict {f0 : Value} {Q : Value → Shared → Prop} (hz : IsZs s.heap z TI TO f0) (h : Q (.ref z) s) : wpAny (model prog w) A (pyIter (.ref z)) Q E s := by
  have hT : s.TypeIs (.ref z) "zip" := ⟨_, hz, rfl⟩
  refine wpAny_pyIter_slot hT PySem.F.slot_zip_iter (wpAny_call_entry PySem.F.slot_zip_iter hT PySem.F.entry_zip_iter ?_ (PySem.F.args_zip_iter_1 _))
  show wpAny _ _ (ret (.ref z)) _ _ s
  exact wpAny_pure ⟨_, rfl, "zip", _, hT, PySem.F.slot_zip_next.lookup, h⟩
end

theorem typeCall_zip_st (a b : Value) : checkTypeCall "zip" ⟨[a, b], [(Str.ofString "strict", .bool true)]⟩ = pure () := by kernel_rfl
theorem newCall_zip_st (a b : Value) : checkBuiltinCall "zip.__new__" ⟨[.type "zip", a, b], [(Str.ofString "strict", .bool true)]⟩ = pure () := by kernel_rfl
theorem args_object_init_st (obj a b : Value) : argsOk "object.__init__" ⟨[obj, a, b], [(Str.ofString "strict", .bool true)]⟩ := by unfold argsOk; kernel_rfl
def SeqIs (k : Bool) (h : Heap) (l : Addr) (xs : Array Value) : Prop := if k then h.IsList l xs else h.IsTuple l xs
def IterIs (k : Bool) (h : Heap) (i l : Addr) (n : Nat) : Prop := if k then h.IsListIter i l n else h.IsTupleIter i l n
def iterObj (k : Bool) (l : Addr) : Obj := { cls := .type (if k then "list_iterator" else "tuple_iterator"), data := .fields #[.ref l, .int 0 0] }
theorem draws_of {prog : Program} {w : World} {A : Around} (hh : A.handled = none) (k : Bool) (it l : Addr) (hne : l ≠ it) (items : Array Value) :
    Draws prog w A it [it, l] items.size (fun i v => items[i]? = some v) (fun i h => IterIs k h it l i ∧ SeqIs k h l items) := by
  cases k
  · exact Draws.tuple hh it l hne items
  · exact Draws.list hh it l hne items
theorem iter_of {prog : Program} {w : World} {A : Around} {E : Value → Shared → Prop} {s : Shared} {k : Bool} {l : Addr} {xs : Array Value} {Q : Value → Shared → Prop} (hl : SeqIs k s.heap l xs)
    (h : Q (.ref s.heap.objs.size) { s with heap := s.heap.push (iterObj k l) }) : wpAny (model prog w) A (pyIter (.ref l)) Q E s := by
  cases k
  · exact wpAny_pyIter_tuple hl h
  · exact wpAny_pyIter_list hl h
theorem SeqIs.push {k : Bool} {h : Heap} {l : Addr} {xs : Array Value} (x : SeqIs k h l xs) (o : Obj) : SeqIs k (h.push o) l xs := by
  cases k
  · exact Heap.IsTuple.push x o
  · exact Heap.IsList.push x o
abbrev zs3 (k1 k2 : Bool) (h : Heap) (l1 l2 : Addr) : Heap := ((h.push (iterObj k1 l1)).push (iterObj k2 l2)).push { cls := .type "tuple", data := .seq #[.ref h.objs.size, .ref (h.push (iterObj k1 l1)).objs.size] }
abbrev zs4 (k1 k2 : Bool) (h : Heap) (l1 l2 : Addr) : Heap := (zs3 k1 k2 h l1 l2).push { cls := .type "tuple", data := .seq #[.none, .none] }
abbrev zs5 (k1 k2 : Bool) (h : Heap) (l1 l2 : Addr) : Heap := (zs4 k1 k2 h l1 l2).push { cls := .type "zip", data := .fields #[.none, .bool false, .bool true, .ref ((h.push (iterObj k1 l1)).push (iterObj k2 l2)).objs.size, .ref (zs3 k1 k2 h l1 l2).objs.size] }
theorem meets_strict_new (k1 k2 : Bool) (l1 l2 : Addr) (xs ys : Array Value) :
    Meets (Builtin.«zip.__new__» ⟨[.type "zip", .ref l1, .ref l2], [(Str.ofString "strict", .bool true)]⟩) (fun _ R s => SeqIs k1 s.heap l1 xs ∧ SeqIs k2 s.heap l2 ys ∧
      R (.ok (.ret (.ref (zs4 k1 k2 s.heap l1 l2).objs.size))) { s with heap := zs5 k1 k2 s.heap l1 l2 }) :=
  .of_wp fun prog w A R s h => by
    obtain ⟨hp, g, d, tk, os⟩ := s; obtain ⟨hl1, hl2, h⟩ := h
    have hsub := sub_zip
    have e1 : (Str.ofString "strict" == ("strict" : Str)) = true := by decide +kernel
    have e2 : (Str.ofString "strict" != ("strict" : Str)) = false := by decide +kernel
    have e3 : (("strict" : Str) == Str.ofString "strict") = true := by decide +kernel
    have w1 : ∀ {A' : Around} {E : Value → Shared → Prop} {Q : Value → Shared → Prop}, Q (.ref hp.objs.size) ⟨hp.push (iterObj k1 l1), g, d, tk, os⟩ → wpAny (model prog w) A' (pyIter (.ref l1)) Q E ⟨hp, g, d, tk, os⟩ :=
      fun q => iter_of (s := ⟨hp, g, d, tk, os⟩) hl1 q
    have w2 : ∀ {A' : Around} {E : Value → Shared → Prop} {Q : Value → Shared → Prop}, Q (.ref (hp.push (iterObj k1 l1)).objs.size) ⟨(hp.push (iterObj k1 l1)).push (iterObj k2 l2), g, d, tk, os⟩ →
        wpAny (model prog w) A' (pyIter (.ref l2)) Q E ⟨hp.push (iterObj k1 l1), g, d, tk, os⟩ :=
      fun q => iter_of (s := ⟨hp.push (iterObj k1 l1), g, d, tk, os⟩) (hl2.push _) q
    wp_walk using w1, w2
    exact ⟨_, rfl, h⟩
section
variable {prog : Program} {w : World} {A : Around} {E : Value → Shared → Prop} {s : Shared}
theorem iterIs_of {k : Bool} {h : Heap} {i l : Addr} (e : h.get? i = some (iterObj k l)) : IterIs k h i l 0 := by
  cases k
  · exact ⟨_, e, rfl, rfl⟩
  · exact ⟨_, e, rfl, rfl⟩
theorem call_strict {k1 k2 : Bool} {l1 l2 : Addr} {xs ys : Array Value} {Q : Value → Shared → Prop} (hl1 : SeqIs k1 s.heap l1 xs) (hl2 : SeqIs k2 s.heap l2 ys)
    (h : ∀ h', IsZs h' (s.heap.objs.size + 4) (s.heap.objs.size + 2) (s.heap.objs.size + 3) .none → IsTupOf2 h' (s.heap.objs.size + 2) (.ref s.heap.objs.size) (.ref (s.heap.objs.size + 1)) →
      IsTupOf2 h' (s.heap.objs.size + 3) .none .none → IterIs k1 h' s.heap.objs.size l1 0 → IterIs k2 h' (s.heap.objs.size + 1) l2 0 → h'.objs.size = s.heap.objs.size + 5 →
      (∀ c o, s.heap.get? c = some o → h'.get? c = some o) → Q (.ref (s.heap.objs.size + 4)) { s with heap := h' }) :
    wpAny (model prog w) A (call (.type "zip") [.ref l1, .ref l2] [(Str.ofString "strict", .bool true)]) Q E s := by
  refine callType_newKw PySem.F.called_zip (by decide) (typeCall_zip_st _ _) (newCall_zip_st _ _) (fun obj => args_object_init_st obj _ _) PySem.F.entry_zip_new
    (meets_strict_new k1 k2 l1 l2 xs ys) ⟨hl1, hl2, ?_⟩
  have z1 : (s.heap.push (iterObj k1 l1)).objs.size = s.heap.objs.size + 1 := Heap.size_push ..
  have z2 : ((s.heap.push (iterObj k1 l1)).push (iterObj k2 l2)).objs.size = s.heap.objs.size + 2 := by rw [Heap.size_push, z1]
  have z3 : (zs3 k1 k2 s.heap l1 l2).objs.size = s.heap.objs.size + 3 := by rw [Heap.size_push, z2]
  have z4 : (zs4 k1 k2 s.heap l1 l2).objs.size = s.heap.objs.size + 4 := by rw [Heap.size_push, z3]
  have z5 : (zs5 k1 k2 s.heap l1 l2).objs.size = s.heap.objs.size + 5 := by rw [Heap.size_push, z4]
  have o1 : (iterObj k1 l1).isFreed = false := by cases k1 <;> rfl
  have o2 : (iterObj k2 l2).isFreed = false := by cases k2 <;> rfl
  have g5 : (zs5 k1 k2 s.heap l1 l2).get? (zs4 k1 k2 s.heap l1 l2).objs.size = some _ := Heap.get?_push_size _ rfl
  have g4 : (zs5 k1 k2 s.heap l1 l2).get? (zs3 k1 k2 s.heap l1 l2).objs.size = some _ := Heap.get?_push_of_some _ (Heap.get?_push_size _ rfl)
  have g3 : (zs5 k1 k2 s.heap l1 l2).get? ((s.heap.push (iterObj k1 l1)).push (iterObj k2 l2)).objs.size = some _ := Heap.get?_push_of_some _ (Heap.get?_push_of_some _ (Heap.get?_push_size _ rfl))
  have g2 : (zs5 k1 k2 s.heap l1 l2).get? (s.heap.push (iterObj k1 l1)).objs.size = some _ := Heap.get?_push_of_some _ (Heap.get?_push_of_some _ (Heap.get?_push_of_some _ (Heap.get?_push_size _ o2)))
  have g1 : (zs5 k1 k2 s.heap l1 l2).get? s.heap.objs.size = some _ := Heap.get?_push_of_some _ (Heap.get?_push_of_some _ (Heap.get?_push_of_some _ (Heap.get?_push_of_some _ (Heap.get?_push_size _ o1))))
  show _ ∧ _
  rw [z2, z3, z4] at g5
  rw [z1, z2] at g3
  rw [z3] at g4
  rw [z1] at g2
  rw [z4]
  exact ⟨⟨_, g5, rfl⟩, h _ g5 g3 g4 (iterIs_of g1) (iterIs_of g2) z5 fun c o x =>
    Heap.get?_push_of_some _ (Heap.get?_push_of_some _ (Heap.get?_push_of_some _ (Heap.get?_push_of_some _ (Heap.get?_push_of_some _ x))))⟩
end
end DLS
end
section
set_option Elab.async false
set_option linter.all false
set_option maxRecDepth 100000
set_option maxHeartbeats 1000000
namespace DL
open PySem PySem.Spec L2 PyProof.Rows DLS

def SqK (k : Bool) (K : PySem.W.Frag) (H : Hp) (a : Addr) (xs : List V) : Prop := if k then SqL K H a xs else SqT K H a xs
theorem sqK_is {X : Cx} {pins : List (Addr × Obj)} {σ : L2.St} {H : Hp} {s : Shared} {a : Addr} {xs : List V} (I : Inv X pins σ H s) {k : Bool} (h : SqK k X.K H a xs) : ∃ its : List Value, Vals xs its ∧ SeqIs k s.heap a its.toArray ∧ a < s.heap.objs.size := by
  cases k
  · obtain ⟨its, r, p, _⟩ := I.tuple h
    exact ⟨its, r, p, p.lt⟩
  · obtain ⟨its, r, p, _⟩ := I.list h
    exact ⟨its, r, p.isList, p.lt⟩
theorem sqK_inj {X : Cx} {pins : List (Addr × Obj)} {σ : L2.St} {H : Hp} {s : Shared} {a : Addr} {xs ys : List V} (I : Inv X pins σ H s) {k : Bool} (h : SqK k X.K H a xs) (h' : SqK k X.K H a ys) : xs = ys := by
  cases k
  · exact I.tuple_inj h h'
  · exact I.list_inj h h'
def ItzS (K : PySem.W.Frag) (k1 k2 : Bool) (a b : Addr) : It :=
  ⟨fun i H => ∃ (xs ys : List V) (x y : V), SqK k1 K H a xs ∧ SqK k2 K H b ys ∧ xs[i]? = some x ∧ ys[i]? = some y,
    fun i H v H' => ∃ T x y, v = .ref T ∧ H T = none ∧ H' = upd H T (.tup [x, y]) ∧ (∀ xs, SqK k1 K H a xs → xs[i]? = some x) ∧ ∀ ys, SqK k2 K H b ys → ys[i]? = some y,
    fun i H => ∃ xs ys : List V, SqK k1 K H a xs ∧ SqK k2 K H b ys ∧ xs.length = i ∧ ys.length = i⟩
theorem IterIs.at' {k : Bool} {h h' : Heap} {i l : Addr} {n : Nat} (x : IterIs k h i l n) (e : ∀ o, h.get? i = some o → h'.get? i = some o) : IterIs k h' i l n := by
  cases k
  · exact Heap.IsTupleIter.at x e
  · exact Heap.IsListIter.at x e
theorem IterIs.obj {k : Bool} {h : Heap} {i l : Addr} {n : Nat} (x : IterIs k h i l n) : ∃ o, h.get? i = some o ∧ o.data = .fields #[.ref l, .int n 0] := by
  cases k
  · obtain ⟨o, e, _, d⟩ := x; exact ⟨o, e, d⟩
  · obtain ⟨o, e, _, d⟩ := x; exact ⟨o, e, d⟩
theorem sep_of {z TI TO i1 i2 a b : Addr} (D : ZipApart z TI TO i1 i2 a b) : ZipSep2 z TI TO i1 i2 [i1, a] [i2, b] where
  TIz := D.TIz
  TOz := D.TOz
  TITO := D.TITO
  TIi1 := D.TIi1
  mem1 := by simp
  zf1 := by simp; exact ⟨D.i1z.symm, D.l1z.symm⟩
  Tf1 := by simp; exact ⟨D.TOi1, D.l1TO.symm⟩
  TIi2 := D.TIi2
  mem2 := by simp
  zf2 := by simp; exact ⟨D.i2z.symm, D.l2z.symm⟩
  Tf2 := by simp; exact ⟨D.TOi2, D.l2TO.symm⟩
  sep1_2 := by simp; exact ⟨D.i12, D.l2i1.symm⟩
  sep2_1 := by simp; exact ⟨D.i12.symm, D.l1i2.symm⟩
theorem turn_zipS {P : Program} {w : World} {K : PySem.W.Frag} {elts : List Expr} {kk : Nat} {tpos : Pos} {k1 k2 : Bool} {a b z TI TO i1 i2 : Addr} (D : ZipApart z TI TO i1 i2 a b) :
    Turn P w K (.Tuple elts kk tpos) (ItzS K k1 k2 a b) [z, TI, TO, i1, i2] z (fun i h => IsZs h z TI TO .none ∧ IsTupOf2 h TI (.ref i1) (.ref i2) ∧ (∃ x y, IsTupOf2 h TO x y) ∧ IterIs k1 h i1 a i ∧ IterIs k2 h i2 b i) where
  mem := by simp
  obj := fun i h st c hc => by
    obtain ⟨hz, hTI, ⟨x, y, hTO⟩, h1, h2⟩ := st
    obtain ⟨o1, e1, d1⟩ := IterIs.obj h1
    obtain ⟨o2, e2, d2⟩ := IterIs.obj h2
    have e' : c = z ∨ c = TI ∨ c = TO ∨ c = i1 ∨ c = i2 := by simpa using hc
    rcases e' with q | q | q | q | q
    · rw [q]; exact ⟨_, hz, fun v q => nomatch q⟩
    · rw [q]; exact ⟨_, hTI, fun v q => nomatch q⟩
    · rw [q]; exact ⟨_, hTO, fun v q => nomatch q⟩
    · rw [q]; exact ⟨o1, e1, fun v q => by rw [d1] at q; cases q⟩
    · rw [q]; exact ⟨o2, e2, fun v q => by rw [d2] at q; cases q⟩
  keep := fun i h h' st k => by
    obtain ⟨hz, hTI, ⟨x, y, hTO⟩, h1, h2⟩ := st
    exact ⟨k z (by simp) _ hz, k TI (by simp) _ hTI, ⟨x, y, k TO (by simp) _ hTO⟩, IterIs.at' h1 fun o q => k i1 (by simp) o q, IterIs.at' h2 fun o q => k i2 (by simp) o q⟩
  item := by
    intro X hP hw hK hc i pins s σ H E I hf st hg
    subst hP hw hK
    obtain ⟨hz, hTI, ⟨x0, y0, hTO⟩, h1, h2⟩ := st
    obtain ⟨xs, ys, x, y, hqx, hqy, hx, hy⟩ := hg
    obtain ⟨its, rv, p, _⟩ := sqK_is I hqx
    obtain ⟨its2, rv2, p2, _⟩ := sqK_is I hqy
    obtain ⟨u, hu, ru⟩ := rv.get hx
    obtain ⟨u2, hu2, ru2⟩ := rv2.get hy
    have hzl : z < s.heap.objs.size := Heap.lt_size hz
    have l1 : i < its.toArray.size := by simpa using (List.getElem?_eq_some_iff.mp hu).1
    have l2 : i < its2.toArray.size := by simpa using (List.getElem?_eq_some_iff.mp hu2).1
    have hh : X.A.in1.handled = none := I.ok.hd hc
    refine next_strict_item (sep_of D) (draws_of hh k1 i1 a D.l1i1 its.toArray) (draws_of hh k2 i2 b D.l2i2 its2.toArray) hz hTI hTO ⟨h1, p⟩ ⟨h2, p2⟩ l1 l2 fun x1 x2 h' tk q1 q2 z' TO' h1' h2' hT hsz hk => ?_
    have ex1 : x1 = u := by
      have q1 : its.toArray[i]? = some x1 := q1
      have := q1.symm.trans (show its.toArray[i]? = some u by simpa using hu)
      exact Option.some.inj this
    have ex2 : x2 = u2 := by
      have q2 : its2.toArray[i]? = some x2 := q2
      have := q2.symm.trans (show its2.toArray[i]? = some u2 by simpa using hu2)
      exact Option.some.inj this
    subst ex1; subst ex2
    refine ⟨_, rfl, go_strict (s := { s with heap := h', toks := tk }) z' fun h'' z'' sb => ?_⟩
    have hT2 : h''.get? s.heap.objs.size = some { cls := .type "tuple", data := .seq #[x1, x2] } := (sb.2 _ (Nat.ne_of_gt hzl)).trans hT
    have new : ObjOk X.prog X.w (upd H s.heap.objs.size (.tup [x, y])) h'' s.heap.objs.size (.tup [x, y]) :=
      ⟨by show 2 ≤ sizeLine; decide, [x1, x2], .cons ru (.cons ru2 .nil), ⟨_, hT2, rfl, _, rfl⟩⟩
    have I1 : Inv X pins σ (upd H s.heap.objs.size (.tup [x, y])) { s with heap := h'', toks := tk } :=
      I.turnedNew (t' := tk) (ch := [z, TI, TO, i1, i2]) (fun c o hb q => (sb.2 c (fun q' => hb (by simp [q']))).trans (hk c o (fun q' => hb (by simp [q'])) (fun q' => hb (by simp [q'])) (fun q' => hb (by simp [q'])) (fun q' => hb (by simp [q'])) q)) hf (Nat.le_refl _) new
    refine ⟨.ref s.heap.objs.size, _, I1, rfl, ⟨_, x, y, rfl, I.hok.fresh (Nat.le_refl _), rfl, fun l hl => by rw [sqK_inj I hl hqx]; exact hx, fun l hl => by rw [sqK_inj I hl hqy]; exact hy⟩, ⟨z'', ?_, ⟨x1, x2, ?_⟩, ?_, ?_⟩, fun c hcm => ?_⟩
    · exact (sb.2 _ D.TIz).trans (hk _ _ D.TIz D.TITO D.TIi1 D.TIi2 hTI)
    · exact (sb.2 _ D.TOz).trans TO'
    · exact IterIs.at' h1'.1 fun o q => (sb.2 _ D.i1z).trans q
    · exact IterIs.at' h2'.1 fun o q => (sb.2 _ D.i2z).trans q
    · have hlt : c < s.heap.objs.size := by
        obtain ⟨o1, e1, _⟩ := IterIs.obj h1
        obtain ⟨o2, e2, _⟩ := IterIs.obj h2
        have e' : c = z ∨ c = TI ∨ c = TO ∨ c = i1 ∨ c = i2 := by simpa using hcm
        rcases e' with q | q | q | q | q
        · rw [q]; exact hzl
        · rw [q]; exact Heap.lt_size hTI
        · rw [q]; exact Heap.lt_size hTO
        · rw [q]; exact Heap.lt_size e1
        · rw [q]; exact Heap.lt_size e2
      rw [upd_ne (Nat.ne_of_lt hlt)]
      exact (hf c hcm).1
  done := by
    intro X hP hw hK hc i pins s σ H E I hf st hg
    subst hP hw hK
    obtain ⟨hz, hTI, ⟨x0, y0, hTO⟩, h1, h2⟩ := st
    obtain ⟨xs, ys, hqx, hqy, e1, e2⟩ := hg
    obtain ⟨its, rv, p, _⟩ := sqK_is I hqx
    obtain ⟨its2, rv2, p2, _⟩ := sqK_is I hqy
    have l1 : its.toArray.size = i := by rw [List.size_toArray, ← rv.length, e1]
    have l2 : its2.toArray.size = i := by rw [List.size_toArray, ← rv2.length, e2]
    have hh : X.A.in1.handled = none := I.ok.hd hc
    exact next_strict_end (I.ok.hd hc) (sep_of D) (draws_of hh k1 i1 a D.l1i1 its.toArray) (draws_of hh k2 i2 b D.l2i2 its2.toArray) hz hTI hTO (by rw [l1]; exact ⟨h1, p⟩) (by rw [l2]; exact ⟨h2, p2⟩) fun h' hk => ⟨rfl, I.turnedL (t' := s.toks) (ch := [z, TI, TO, i1, i2]) (fun c o hb q =>
      hk c o (fun q' => hb (by simp [q'])) (fun q' => hb (by simp [q'])) (fun q' => hb (by simp [q'])) (fun q' => hb (by simp [q'])) q) hf⟩
  self := fun A i s Q E st h => iter_strict st.1 h

def pZipS (sc : Scope) : Expr → Expr → Option (List Expr) := fun tg e => if isTup tg then (match e with
  | .Call (.Name y _) [a, b] [⟨some k, .Constant (.bool true) _ _, _⟩] _ => if decide (y = "zip") && (decide (k = "strict") && (decide (sc.names.lookup ("zip" : Str) = some .globalImplicit) && (notStar a && notStar b))) then some [a, b] else none
  | _ => none) else none
theorem pZipS_inv {sc : Scope} {tg e : Expr} {es : List Expr} (h : pZipS sc tg e = some es) : ∃ elts kk tpos p a b j p2 kp pos, tg = .Tuple elts kk tpos ∧ e = .Call (.Name "zip" p) [a, b] [⟨some "strict", .Constant (.bool true) j p2, kp⟩] pos ∧ es = [a, b] ∧ sc.names.lookup ("zip" : Str) = some .globalImplicit ∧ notStar a = true ∧ notStar b = true := by
  unfold pZipS at h
  split at h
  · rename_i ht
    split at h
    · rename_i y p a b k j p2 kp pos
      split at h
      · rename_i q
        simp only [Bool.and_eq_true, decide_eq_true_eq] at q
        obtain ⟨q1, q2, q3, q4, q5⟩ := q
        subst q1; subst q2
        cases h
        obtain ⟨elts, kk, tpos, rfl⟩ : ∃ elts kk tpos, tg = .Tuple elts kk tpos := by
          cases tg <;> first | (cases ht; done) | exact ⟨_, _, _, rfl⟩
        exact ⟨elts, kk, tpos, p, a, b, j, p2, kp, pos, rfl, rfl, rfl, q3, q4, q5⟩
      · cases h
    · cases h
  · cases h
def fixD : D → Option (Bool × List D)
  | .tup xs => some (false, xs)
  | .lst xs => some (true, xs)
  | _ => none
theorem fixD_ok {K : PySem.W.Frag} {F : Hp} {x : D} {v : V} {k : Bool} {xs : List D} (r : Rep K F x v) (h : fixD x = some (k, xs)) : ∃ a vs, v = .ref a ∧ SqK k K F a vs ∧ RepL K F xs vs := by
  cases x <;> simp [fixD] at h
  · obtain ⟨rfl, rfl⟩ := h
    obtain ⟨a, vs, rfl, s, r⟩ := rep_tup.mp r
    exact ⟨a, vs, rfl, s.sq, r⟩
  · obtain ⟨rfl, rfl⟩ := h
    obtain ⟨a, vs, rfl, s, r⟩ := rep_lst.mp r
    exact ⟨a, vs, rfl, SqL.of s, r⟩
theorem SqK.le {k : Bool} {K : PySem.W.Frag} {F F' : Hp} {a : Addr} {xs : List V} (l : Le F F') (h : SqK k K F a xs) : SqK k K F' a xs := by
  cases k
  · exact SqT.le l h
  · exact SqL.le l h
def sZipS : List D → Mem → QI → Prop := fun ds μ Qi => match ds with
  | [x, y] => ∃ k1 xs k2 ys, fixD x = some (k1, xs) ∧ fixD y = some (k2, ys) ∧ xs.length = ys.length ∧ Qi (zipD xs ys) (fun _ => True) μ
  | _ => False
theorem walk_zs {K : KW} {F : Hp} {k1 k2 : Bool} {a b : Addr} {xs ys : List D} {vs us : List V} (hl : xs.length = ys.length) (ha : SqK k1 K F a vs) (hb : SqK k2 K F b us) (ra : RepL K F xs vs) (rb : RepL K F ys us) : WalkD K F (ItzS K k1 k2 a b) (zipD xs ys) (fun _ => True) := by
  have la := ra.length
  have lb := rb.length
  refine ⟨fun i F2 μ2 H2 l w k hi => ?_, fun F2 μ2 H2 l w k => ?_, fun i F2 μ2 H2 x H3 l w k hi y => ?_⟩
  · rw [zipD_length] at hi
    exact ⟨vs, us, vs[i]'(by omega), us[i]'(by omega), SqK.le w.le (SqK.le l ha), SqK.le w.le (SqK.le l hb), by simp [show i < vs.length by omega], by simp [show i < us.length by omega]⟩
  · refine ⟨vs, us, SqK.le w.le (SqK.le l ha), SqK.le w.le (SqK.le l hb), ?_, ?_⟩ <;> rw [zipD_length] <;> omega
  · rw [zipD_length] at hi
    obtain ⟨T, x', y', rfl, hT, hH, hx, hy⟩ := y
    obtain ⟨d, e3, e4⟩ := (RepL.le l _ _ ra).getV (hx vs (SqK.le w.le (SqK.le l ha)))
    obtain ⟨d2, e5, e6⟩ := (RepL.le l _ _ rb).getV (hy us (SqK.le w.le (SqK.le l hb)))
    obtain ⟨F3, l3, w3, r3⟩ := pair_yld w hT hH e4 e6
    exact ⟨F3, _, l3, w3, by simp [zipD, List.getElem?_zipWith, e3, e5], r3⟩
theorem zipS_ok {X : Cx} {E : XK} {k : Nat} (c : Ctx X E k) : ItnOk X E ⟨pZipS, sZipS⟩ := by
  intro tg it es ts h l
  obtain ⟨elts, kk, tpos, p, a, b, j, p2, kp, pos, rfl, rfl, rfl, hg, ha, hb⟩ := pZipS_inv h
  have hs : [a, b].all notStar = true := by simp [ha, hb]
  refine ⟨fun pins s σ H R I hw => ?_⟩
  obtain ⟨F, μ, env, Qi, Ex, w, re, x, h, po⟩ := hw
  refine wpAny_Call_Name_kw (ld_blt I hg (c.free _ (by decide +kernel)) PyProof.Rows.boot_zip ?_)
  refine DLZ.callWith_typeKw (by rw [starEach_cons ha, starEach_cons hb]; rfl) rfl ?_
  have eb : backTo pos (starEach [a, b] X.env) = (false, eval a X.env) :: backTo pos (starEach [b] X.env) := by rw [starEach_cons ha]; rfl
  rw [eb]
  refine evalArgs_kwB rfl ?_
  rw [← eb]
  refine thn ((l.pa hs).run pos pins s σ H (fun vs H1 => ∃ F1 μ1 ds, Le F F1 ∧ Wd X.kw F1 μ1 H1 ∧ RepL X.K F1 ds vs ∧ sZipS ds μ1 Qi) I ⟨F, μ, env, _, Ex, w, re, x, h, fun F1 vs H1 ds μ1 l1 w1 r1 h1 => ⟨F1, μ1, ds, l1, w1, r1, h1⟩⟩) fun us s1 ⟨vs, H1, I1, rv, F1, μ1, ds, l1, w1, r1, h1⟩ => ?_
  refine kws_cons (thn (pe_bl.run pins s1 σ H1 (fun v H2 => v = .bl true ∧ H2 = H1) I1 ⟨rfl, rfl⟩) fun v s2 ⟨x2, H2, I2, rv2, e1, e2⟩ => kws_nil ?_)
  subst e1; subst e2
  obtain rfl : v = Value.bool true := rv2
  unfold sZipS at h1
  split at h1
  · rename_i d1 d2
    obtain ⟨k1, xs, k2, ys, f1, f2, hl, h1⟩ := h1
    obtain ⟨v1, u1, rfl, r2, r3⟩ := r1.two
    obtain ⟨a1, vs1, rfl, sa, ra⟩ := fixD_ok r2 f1
    obtain ⟨b1, us1, rfl, sb, rb⟩ := fixD_ok r3 f2
    cases rv with
    | cons r rr =>
      cases rr with
      | cons r' rr =>
        cases rr
        obtain rfl : _ = Value.ref a1 := r
        obtain rfl : _ = Value.ref b1 := r'
        obtain ⟨its, rv', q1, hl1⟩ := sqK_is I2 (SqK.le w1.le sa)
        obtain ⟨its2, rv2', q2, hl2⟩ := sqK_is I2 (SqK.le w1.le sb)
        have fresh5 : ∀ c, c ∈ [s2.heap.objs.size + 4, s2.heap.objs.size + 2, s2.heap.objs.size + 3, s2.heap.objs.size, s2.heap.objs.size + 1] → FpOk X pins H2 c := fun c hcm => by
          have e' : c = s2.heap.objs.size + 4 ∨ c = s2.heap.objs.size + 2 ∨ c = s2.heap.objs.size + 3 ∨ c = s2.heap.objs.size ∨ c = s2.heap.objs.size + 1 := by simpa using hcm
          have hle : s2.heap.objs.size ≤ c := by
            rcases e' with z | z | z | z | z
            · rw [z]; exact Nat.le_add_right _ _
            · rw [z]; exact Nat.le_add_right _ _
            · rw [z]; exact Nat.le_add_right _ _
            · rw [z]; exact Nat.le_refl _
            · rw [z]; exact Nat.le_add_right _ _
          exact I2.fpOk hle (I2.hok.fresh hle)
        refine call_strict q1 q2 fun h' hz hTI hTO h1' h2' hsz hk => iter_strict hz ?_
        have I3 : L2.Inv X pins σ H2 { s2 with heap := h' } := I2.kept (t' := s2.toks) hk
        exact ⟨s2.heap.objs.size + 4, [s2.heap.objs.size + 4, s2.heap.objs.size + 2, s2.heap.objs.size + 3, s2.heap.objs.size, s2.heap.objs.size + 1], _, _, H2, rfl, I3, turn_zipS (PySem.W.ktu_apart s2.heap.objs.size a1 b1 hl1 hl2), ⟨hz, hTI, ⟨_, _, hTO⟩, h1', h2'⟩, fresh5,
          po F1 H2 _ _ μ1 _ l1 w1 (walk_zs hl sa sb ra rb) h1⟩
  · exact h1.elim
def iZipS : StdI := ⟨⟨pZipS, sZipS⟩, zipS_ok, fun sc tg it es h => by
  obtain ⟨elts, kk, tpos, p, a, b, j, p2, kp, pos, rfl, rfl, rfl, hg, ha, hb⟩ := pZipS_inv h
  exact folded_of rfl⟩
end DL
end
section
set_option Elab.async false
set_option linter.all false
set_option maxRecDepth 100000
set_option maxHeartbeats 1000000
namespace DL
open PySem PySem.Spec L2 PyProof.Rows

theorem plainL_mem : ∀ {xs : List D} {x : D}, plainL xs = true → x ∈ xs → plainD x = true
  | [], _, _, h => by cases h
  | y :: ys, x, h, hx => by
    have h' : plainD y = true ∧ plainL ys = true := by simpa [plainL] using h
    rcases List.mem_cons.mp hx with rfl | hx
    · exact h'.1
    · exact plainL_mem h'.2 hx
theorem toPDs_any {x : D} (hx : plainD x = true) : ∀ {xs : List D}, plainL xs = true → ((toPDs xs).any fun z => PyData.eqv z (toPD x)) = xs.any fun z => same z x
  | [], _ => rfl
  | y :: ys, h => by
    have h' : plainD y = true ∧ plainL ys = true := by simpa [plainL] using h
    simp only [toPDs, List.any_cons, eqv_is h'.1 hx, toPDs_any hx h'.2]
theorem toPDs_get : ∀ {xs : List D} {j : Nat}, (toPDs xs)[j]? = (xs[j]?).map toPD
  | [], j => by simp [toPDs]
  | y :: ys, 0 => by simp [toPDs]
  | y :: ys, j + 1 => by simpa [toPDs] using toPDs_get (xs := ys) (j := j)
def sInL (neg : Bool) : S2 := fun x y μ Q => ∃ ys, look μ y = .lst ys ∧ plainN 32 (look μ x) = true ∧ plainN 32 (.lst ys) = true ∧ Q (.bl (neg ^^ ys.any fun z => same z (look μ x))) μ
theorem linkInL {X : Cx} : Link2 X (sInL false) (rInD X.K) := by
  intro F μ H x y v u Qd Q w r1 r2 ⟨ys, e, h1, h2, h⟩ p
  have h2' : plainN 32 (look μ y) = true := by rw [e]; exact h2
  have d2 := look_dp w h2' r2
  rw [e] at d2
  refine ⟨_, _, look_dp w h1 r1, d2, plainN_shaped (by decide) h1, ?_, ?_⟩
  · exact plainN_shaped (d := .lst ys) (by decide) h2
  · have hp : plainL ys = true := by have := (plainN_ok _ _ h2).1; simpa [plainD] using this
    show Q (.bl ((toPDs ys).any _)) H
    rw [toPDs_any (plainN_ok _ _ h1).1 hp]
    exact p F _ H _ μ (Same.refl _) w (rep_bl.mpr rfl) (by simpa using h)
theorem linkNotInL {X : Cx} : Link2 X (sInL true) (rNotInD X.K) := by
  intro F μ H x y v u Qd Q w r1 r2 ⟨ys, e, h1, h2, h⟩ p
  have h2' : plainN 32 (look μ y) = true := by rw [e]; exact h2
  have d2 := look_dp w h2' r2
  rw [e] at d2
  refine ⟨_, _, look_dp w h1 r1, d2, plainN_shaped (by decide) h1, ?_, ?_⟩
  · exact plainN_shaped (d := .lst ys) (by decide) h2
  · have hp : plainL ys = true := by have := (plainN_ok _ _ h2).1; simpa [plainD] using this
    show Q (.bl (!(toPDs ys).any _)) H
    rw [toPDs_any (plainN_ok _ _ h1).1 hp]
    exact p F _ H _ μ (Same.refl _) w (rep_bl.mpr rfl) (by simpa using h)
theorem room65 {A : Around} {k : Nat} (r : Room k A) : A.units + 65 < cLine := by have := r.un; omega
noncomputable def oInL : Std := ⟨⟨fun _ => pCmp .In, bi2 (sInL false), fun _ _ => True⟩, fun c => cmp_std (op_inD (room65 c.room)) linkInL⟩
noncomputable def oNotInL : Std := ⟨⟨fun _ => pCmp .NotIn, bi2 (sInL true), fun _ _ => True⟩, fun c => cmp_std (op_notInD (room65 c.room)) linkNotInL⟩

def isLA : D → Mem → Prop := fun x μ => ∃ xs, look μ x = .lst xs
section
variable {X : Cx} {E : XK} {k : Nat}
theorem methA_std {m : Str} {id : String} {s : SL} {r : V → List V → Hp → VK → Prop} (pa : PySem.PlainAttrs "list") (slot : PySem.Slot "list" m id) (hty : typeOf (.builtin id) = pure (.type "method_descriptor")) (hm : MtR X id r)
    (hl : LinkL X s (fun vs H Q => match vs with
      | v :: vs => r v vs H Q
      | [] => False)) : OpnOk X E ⟨fun _ => pMeth m, lf s, preOne isLA⟩ := by
  refine OpnOk.plain (fun e es h => by obtain ⟨o, ap, es, cp, rfl, _⟩ := pMeth_inv h; rfl) fun {e es ts} h l => ?_
  obtain ⟨o, ap, es, cp, rfl, rfl, h1, h2, h3, h4⟩ := pMeth_inv h
  cases l with
  | cons ho hr =>
  rename_i t ts
  have recv : ∀ {F1 : Hp} {μ1 : Mem} {H1 : Hp} {d : D} {v : V}, Wd X.kw F1 μ1 H1 → Rep X.K F1 d v → isLA d μ1 → tyV X.K "list" v H1 := fun {F1 μ1 H1 d v} w1 r1 ⟨xs, h5⟩ => by
    obtain ⟨a, vs, rfl, e1, _⟩ := w1.lst r1 h5
    exact .inl ⟨rfl, vs, SqL.of e1⟩
  cases es with
  | nil =>
    cases hr
    refine PE.imp (pe_bm0 pa slot hty hm ho (base_of h1) h4) fun σ H Q ⟨F, μ, env, Qd, Ex, w, re, x, h, p⟩ => ?_
    refine ⟨F, μ, env, _, Ex, w, re, x, dApp_one rfl h, fun F1 v H1 d μ1 l1 w1 r1 h1 => ?_⟩
    exact ⟨recv w1 r1 h1.1, hl F1 μ1 H1 [d] [v] Qd Q w1 (RepL.one r1) h1.2 (p.le l1)⟩
  | cons a es =>
    have h2' : notStar a = true ∧ es.all notStar = true := by simpa using h2
    have h3' : es.length + 1 < 29 := by simpa using h3
    refine PE.imp (pe_bm pa slot hty hm ho (hr.pa h2) (base_of h1) (by rw [noStar_all h2]; simp [keywordEach, backToKw]; omega) h4 (starEach_cons h2'.1) (noStar_any h2'.2)) fun σ H Q ⟨F, μ, env, Qd, Ex, w, re, x, h, p⟩ => ?_
    refine ⟨F, μ, env, _, Ex, w, re, x, dApp_one rfl h, fun F1 v H1 d μ1 l1 w1 r1 h1 => ?_⟩
    refine ⟨recv w1 r1 h1.1, F1, μ1, env, _, Ex, w1, re.le l1, x.le l1, h1.2, fun F2 us H2 ds μ2 l2 w2 r2 h2 => ?_⟩
    exact hl F2 μ2 H2 (d :: ds) (v :: us) Qd Q w2 (RepL.mk (Rep.le l2 _ _ r1) r2) h2 (p.le (l1.trans l2))
end
def sIndex : SL := fun ds μ Q => match ds with
  | [x, y] => ∃ xs j, look μ x = .lst xs ∧ plainN 32 (.lst xs) = true ∧ plainN 32 (look μ y) = true ∧ xs[j]? = some (look μ y) ∧ (∀ m z, m < j → xs[m]? = some z → z ≠ look μ y) ∧ Q (.int (j : Nat)) μ
  | _ => False
noncomputable def oIndex : Std := ⟨⟨fun _ => pMeth "index", lf sIndex, preOne isLA⟩, fun {X E k} c => methA_std PySem.F.plainAttrs_list PySem.F.slot_list_index PySem.F.type_list_index (mt_indexD (room65 c.room)) (fun F μ H xs vs Qd Q w r h p => by
  unfold sIndex at h
  split at h
  · rename_i x y
    obtain ⟨ds, j, e, h1, h2, e2, h3, h⟩ := h
    obtain ⟨v, u, rfl, r1, r2⟩ := r.two
    have h1' : plainN 32 (look μ x) = true := by rw [e]; exact h1
    have d1 := look_dp w h1' r1
    rw [e] at d1
    have d1 : Dp X.K H v (.list (toPDs ds)) := d1
    obtain ⟨a, vs, rfl, _, _⟩ := w.lst r1 e
    have hp : plainL ds = true := by have := (plainN_ok _ _ h1).1; simpa [plainD] using this
    have hy := (plainN_ok _ _ h2).1
    refine ⟨a, u, toPD (look μ y), toPDs ds, j, toPD (look μ y), rfl, rfl, d1, look_dp w h2 r2, plainN_shaped (d := .lst ds) (by decide) h1, plainN_shaped (by decide) h2, ?_, ?_, fun m z hm hz => ?_, p F _ H _ μ (Same.refl _) w (rep_int.mpr rfl) h⟩
    · rw [toPDs_get, e2]; rfl
    · rw [eqv_is hy hy, same_self]
    · rw [toPDs_get] at hz
      cases q : ds[m]? with
      | none => rw [q] at hz; cases hz
      | some d =>
        rw [q] at hz; cases hz
        rw [eqv_is (plainL_mem hp (List.mem_of_getElem? q)) hy]
        exact same_of_ne (h3 m d hm q)
  · exact h.elim)⟩
end DL
end
section
set_option Elab.async false
set_option linter.all false
set_option maxRecDepth 100000
set_option maxHeartbeats 1000000
namespace DL
open PySem PySem.Spec L2 PyProof.Rows
section
variable (μ : Mem) (Q : QD) (Ex : QX)
@[simp] theorem p_oInT : oInT.o.pre = fun _ _ => True := rfl
@[simp] theorem p_oNotInT : oNotInT.o.pre = fun _ _ => True := rfl
@[simp] theorem p_oGetT : oGetT.o.pre = fun _ _ => True := rfl
@[simp] theorem p_oDctQ : oDctQ.o.pre = fun _ _ => True := rfl
@[simp] theorem p_oDctT : oDctT.o.pre = fun _ _ => True := rfl
@[simp] theorem p_stSetT : stSetT.o.pre = fun _ _ => True := rfl
@[simp] theorem p_oInL : oInL.o.pre = fun _ _ => True := rfl
@[simp] theorem p_oNotInL : oNotInL.o.pre = fun _ _ => True := rfl
@[simp] theorem p_oGetT2 (x : D) : oGetT2.o.pre [x] μ = isTM x μ := rfl
@[simp] theorem p_oGetT22 (x y : D) (zs : List D) : oGetT2.o.pre (x :: y :: zs) μ = True := rfl
@[simp] theorem p_oIndex (x : D) : oIndex.o.pre [x] μ = isLA x μ := rfl
@[simp] theorem p_oIndex2 (x y : D) (zs : List D) : oIndex.o.pre (x :: y :: zs) μ = True := rfl
@[simp] theorem s_oInT (x y : D) : oInT.o.sem [x, y] μ Q Ex = ∃ o, tget μ y x = some o ∧ Q (.bl (false ^^ o.isSome)) μ := rfl
@[simp] theorem s_oNotInT (x y : D) : oNotInT.o.sem [x, y] μ Q Ex = ∃ o, tget μ y x = some o ∧ Q (.bl (true ^^ o.isSome)) μ := rfl
@[simp] theorem s_oGetT (x y : D) : oGetT.o.sem [x, y] μ Q Ex = ∃ d, tget μ x y = some (some d) ∧ Q d μ := rfl
@[simp] theorem s_oGetT2 (x y z : D) : oGetT2.o.sem [x, y, z] μ Q Ex = ∃ o, tget μ x y = some o ∧ Q (o.getD z) μ := rfl
@[simp] theorem s_oDctQ : oDctQ.o.sem [] μ Q Ex = (([] : List D) = [] ∧ ∀ a, μ a = none → Q (.ref a) (μ.set a (.ldc []))) := rfl
@[simp] theorem s_oDctT : oDctT.o.sem [] μ Q Ex = (([] : List D) = [] ∧ ∀ a, μ a = none → Q (.ref a) (μ.set a (.tab []))) := rfl
@[simp] theorem s_stSetT (d x y : D) (k : KD) (env : Env) : stSetT.o.sem [d, x, y] k env μ = ∃ a m, tput μ x y d = some (a, m) ∧ k.nx env (μ.set a m) := rfl
@[simp] theorem s_oInL (x y : D) : oInL.o.sem [x, y] μ Q Ex = ∃ ys, look μ y = .lst ys ∧ plainN 32 (look μ x) = true ∧ plainN 32 (.lst ys) = true ∧ Q (.bl (false ^^ ys.any fun z => same z (look μ x))) μ := rfl
@[simp] theorem s_oNotInL (x y : D) : oNotInL.o.sem [x, y] μ Q Ex = ∃ ys, look μ y = .lst ys ∧ plainN 32 (look μ x) = true ∧ plainN 32 (.lst ys) = true ∧ Q (.bl (true ^^ ys.any fun z => same z (look μ x))) μ := rfl
@[simp] theorem s_oIndex (x y : D) : oIndex.o.sem [x, y] μ Q Ex = ∃ xs j, look μ x = .lst xs ∧ plainN 32 (.lst xs) = true ∧ plainN 32 (look μ y) = true ∧ xs[j]? = some (look μ y) ∧ (∀ m z, m < j → xs[m]? = some z → z ≠ look μ y) ∧ Q (.int (j : Nat)) μ := rfl
@[simp] theorem s_iZipS (x y : D) (Qi : QI) : iZipS.o.sem [x, y] μ Qi = ∃ k1 xs k2 ys, fixD x = some (k1, xs) ∧ fixD y = some (k2, ys) ∧ xs.length = ys.length ∧ Qi (zipD xs ys) (fun _ => True) μ := rfl
@[simp] theorem fixD_lst (xs : List D) : fixD (.lst xs) = some (true, xs) := rfl
@[simp] theorem fixD_tup (xs : List D) : fixD (.tup xs) = some (false, xs) := rfl
theorem tget_ldc {μ : Mem} {a : Addr} {kvs : List (Leaf × D)} (h : μ a = some (.ldc kvs)) (y : D) : tget μ (.ref a) y = (leafOf y).map fun k => getQ kvs k := by simp [tget, h]
theorem tput_ldc {μ : Mem} {a : Addr} {kvs : List (Leaf × D)} (h : μ a = some (.ldc kvs)) (y v : D) (hl : kvs.length < sizeLine) : tput μ (.ref a) y v = (leafOf y).map fun k => (a, .ldc (putQ kvs k v)) := by
  unfold tput
  simp only [h]
  exact if_pos hl
theorem tget_tab {μ : Mem} {a : Addr} {kvs : List (NestedKey × D)} (h : μ a = some (.tab kvs)) {y : D} {ks : List NestedKey} (hk : keyN y = some (.tup ks)) (hd : (NestedKey.tup ks).depth ≤ 8) : tget μ (.ref a) y = some (getT kvs (.tup ks)) := by simp [tget, h, hk, hd]
theorem tput_tab {μ : Mem} {a : Addr} {kvs : List (NestedKey × D)} (h : μ a = some (.tab kvs)) {y : D} {ks : List NestedKey} (hk : keyN y = some (.tup ks)) (hd : (NestedKey.tup ks).depth ≤ 8) (v : D) (hl : kvs.length < sizeLine) :
    tput μ (.ref a) y v = some (a, .tab (putT kvs (.tup ks) v)) := by
  unfold tput
  simp only [h, hk]
  exact if_pos ⟨hd, hl⟩
theorem isTM_ldc {μ : Mem} {a : Addr} {kvs : List (Leaf × D)} (h : μ a = some (.ldc kvs)) : isTM (.ref a) μ := .inl ⟨kvs, h⟩
theorem isTM_tab {μ : Mem} {a : Addr} {kvs : List (NestedKey × D)} (h : μ a = some (.tab kvs)) : isTM (.ref a) μ := .inr ⟨kvs, h⟩
theorem isLA_lst (μ : Mem) (xs : List D) : isLA (.lst xs) μ := ⟨xs, rfl⟩
end
end DL
end
section
set_option linter.all false
namespace PM
abbrev Seg := Int × Int
def ok (p : Seg) : Prop := p.1 ≤ p.2
def inS (p : Seg) (x : Int) : Prop := p.1 ≤ x ∧ x ≤ p.2
def inR (xs : List Seg) (x : Int) : Prop := ∃ p ∈ xs, inS p x
@[simp] theorem inR_nil (x : Int) : inR [] x ↔ False := by simp [inR]
@[simp] theorem inR_cons (p : Seg) (xs : List Seg) (x : Int) : inR (p :: xs) x ↔ inS p x ∨ inR xs x := by simp [inR]
@[simp] theorem inR_append (xs ys : List Seg) (x : Int) : inR (xs ++ ys) x ↔ inR xs x ∨ inR ys x := by
  simp only [inR, List.mem_append, or_and_right, exists_or]
inductive Row : List Seg → Prop
  | nil : Row []
  | one {p : Seg} : ok p → Row [p]
  | cons {p q : Seg} {xs : List Seg} : ok p → p.2 + 1 < q.1 → Row (q :: xs) → Row (p :: q :: xs)
theorem Row.tail {p : Seg} {xs : List Seg} (h : Row (p :: xs)) : Row xs := by
  cases h with
  | one => exact .nil
  | cons _ _ h => exact h
theorem Row.head {p : Seg} {xs : List Seg} (h : Row (p :: xs)) : ok p := by
  cases h with
  | one h => exact h
  | cons h _ _ => exact h
theorem Row.ok : ∀ {xs : List Seg}, Row xs → ∀ p ∈ xs, ok p
  | [], _, p, hp => by simp at hp
  | q :: xs, h, p, hp => by
    rcases List.mem_cons.mp hp with rfl | hp
    · exact h.head
    · exact Row.ok h.tail p hp
theorem Row.far : ∀ {xs : List Seg} {p : Seg}, Row (p :: xs) → ∀ q ∈ xs, p.2 + 1 < q.1
  | [], _, _, q, hq => by simp at hq
  | r :: xs, p, h, q, hq => by
    cases h with
    | cons h1 h2 h3 =>
      rcases List.mem_cons.mp hq with rfl | hq
      · exact h2
      · have a := Row.far h3 q hq
        have b := h3.head
        unfold PM.ok at b
        omega
theorem Row.farR {xs : List Seg} {p : Seg} (h : Row (p :: xs)) {x : Int} (hx : inR xs x) : p.2 + 1 < x := by
  obtain ⟨q, hq, h1, h2⟩ := hx
  have := h.far q hq
  omega
theorem Row.mk {p : Seg} {xs : List Seg} (hp : PM.ok p) (h : Row xs) (hf : ∀ q ∈ xs, p.2 + 1 < q.1) : Row (p :: xs) := by
  cases xs with
  | nil => exact .one hp
  | cons q xs => exact .cons hp (hf q (by simp)) h
theorem Row.append : ∀ {xs ys : List Seg}, Row xs → Row ys → (∀ p ∈ xs, ∀ q ∈ ys, p.2 + 1 < q.1) → Row (xs ++ ys)
  | [], _, _, h, _ => h
  | p :: xs, ys, h, h', hf => by
    refine Row.mk h.head (Row.append h.tail h' fun a ha b hb => hf a (by simp [ha]) b hb) fun q hq => ?_
    rcases List.mem_append.mp hq with hq | hq
    · exact h.far q hq
    · exact hf p (by simp) q hq
theorem Row.of_append {xs ys : List Seg} (h : Row (xs ++ ys)) : Row xs ∧ Row ys ∧ ∀ p ∈ xs, ∀ q ∈ ys, p.2 + 1 < q.1 := by
  induction xs with
  | nil => exact ⟨.nil, h, fun p hp => by simp at hp⟩
  | cons p xs ih =>
    obtain ⟨a, b, c⟩ := ih h.tail
    refine ⟨Row.mk h.head a fun q hq => h.far q (by simp [hq]), b, fun r hr q hq => ?_⟩
    rcases List.mem_cons.mp hr with rfl | hr
    · exact h.far q (by simp [hq])
    · exact c r hr q hq
theorem Row.eq : ∀ {xs ys : List Seg}, Row xs → Row ys → (∀ x, inR xs x ↔ inR ys x) → xs = ys
  | [], [], _, _, _ => rfl
  | [], q :: ys, _, hy, h => by
    have := (h q.1).mpr (by simp [inS]; exact .inl hy.head)
    simp at this
  | p :: xs, [], hx, _, h => by
    have := (h p.1).mp (by simp [inS]; exact .inl hx.head)
    simp at this
  | p :: xs, q :: ys, hx, hy, h => by
    have hp := hx.head
    have hq := hy.head
    unfold PM.ok at hp hq
    have e1 : p.1 = q.1 := by
      have a := (h p.1).mp (by simp [inS]; exact .inl hp)
      have b := (h q.1).mpr (by simp [inS]; exact .inl hq)
      simp only [inR_cons, inS] at a b
      rcases a with a | a
      · rcases b with b | b
        · omega
        · have := hx.farR b; omega
      · have := hy.farR a
        rcases b with b | b
        · omega
        · have := hx.farR b; omega
    have e2 : p.2 = q.2 := by
      rcases Int.lt_trichotomy p.2 q.2 with c | c | c
      · have a := (h (p.2 + 1)).mpr (by simp only [inR_cons, inS]; left; omega)
        simp only [inR_cons, inS] at a
        rcases a with a | a
        · omega
        · have := hx.farR a; omega
      · exact c
      · have a := (h (q.2 + 1)).mp (by simp only [inR_cons, inS]; left; omega)
        simp only [inR_cons, inS] at a
        rcases a with a | a
        · omega
        · have := hy.farR a; omega
    have e : p = q := Prod.ext e1 e2
    subst e
    congr 1
    refine Row.eq hx.tail hy.tail fun x => ?_
    have hh := h x
    simp only [inR_cons] at hh
    constructor
    · intro a
      rcases hh.mp (.inr a) with b | b
      · have := hx.farR a; simp only [inS] at b; omega
      · exact b
    · intro a
      rcases hh.mpr (.inr a) with b | b
      · have := hy.farR a; simp only [inS] at b; omega
      · exact b

def joinStep (found : List Seg) (p : Seg) : List Seg := match found.getLast? with
  | some q => if p.1 ≤ q.2 + 1 then found.dropLast ++ [(q.1, if p.2 > q.2 then p.2 else q.2)] else found ++ [p]
  | none => [p]
def leP (p q : Seg) : Bool := decide (p.1 < q.1 ∨ (p.1 = q.1 ∧ p.2 ≤ q.2))
def joinM (xs : List Seg) : List Seg := (xs.mergeSort leP).foldl joinStep []
theorem sort_le (xs : List Seg) : (xs.mergeSort leP).Pairwise fun p q => p.1 ≤ q.1 := by
  have h := List.pairwise_mergeSort (le := leP) (fun a b c h1 h2 => by simp [leP] at *; omega) (fun a b => by simp [leP]; omega) xs
  exact h.imp fun h => by simp [leP] at h; omega
theorem last_split {α : Type} {xs : List α} {q : α} (h : xs.getLast? = some q) : xs = xs.dropLast ++ [q] := by
  cases xs with
  | nil => simp at h
  | cons a xs =>
    rw [List.getLast?_eq_some_getLast (by simp)] at h
    simp only [Option.some.injEq] at h
    rw [← h]
    exact (List.dropLast_concat_getLast (by simp)).symm
theorem join_inv {found : List Seg} {p : Seg} (hf : Row found) (hp : ok p) (hl : ∀ q ∈ found, q.1 ≤ p.1) : Row (joinStep found p) ∧ (∀ x, inR (joinStep found p) x ↔ inR found x ∨ inS p x) ∧ ∀ q ∈ joinStep found p, q.1 ≤ p.1 := by
  unfold joinStep
  cases h : found.getLast? with
  | none =>
    have : found = [] := by simpa using h
    subst this
    exact ⟨.one hp, fun x => by simp, fun q hq => by simp at hq; subst hq; exact Int.le_refl _⟩
  | some q =>
    have e := last_split h
    generalize found.dropLast = init at *
    subst e
    have hq := (Row.of_append hf).2.1.head
    have hqp := hl q (by simp)
    unfold ok at hp hq
    by_cases c : p.1 ≤ q.2 + 1
    · simp only [c, if_true]
      obtain ⟨a1, a2, a3⟩ := Row.of_append hf
      refine ⟨Row.append a1 (.one ?_) fun r hr s hs => ?_, fun x => ?_, fun r hr => ?_⟩
      · unfold ok; dsimp only; split <;> omega
      · simp at hs; subst hs; exact a3 r hr q (by simp)
      · simp only [inR_append, inR_cons, inR_nil, or_false, inS]
        constructor
        · rintro (h | h)
          · exact .inl (.inl h)
          · by_cases hx : x ≤ q.2
            · exact .inl (.inr ⟨h.1, hx⟩)
            · right; split at h <;> omega
        · rintro ((h | h) | h)
          · exact .inl h
          · right; split <;> omega
          · right; split <;> omega
      · rcases List.mem_append.mp hr with hr | hr
        · exact hl r (by simp [hr])
        · simp at hr; subst hr; exact hqp
    · simp only [c, if_false]
      refine ⟨Row.append hf (.one hp) fun r hr s hs => ?_, fun x => by simp [or_assoc], fun r hr => ?_⟩
      · simp at hs; subst hs
        rcases List.mem_append.mp hr with hr | hr
        · have := (Row.of_append hf).2.2 r hr q (by simp); omega
        · simp at hr; subst hr; omega
      · rcases List.mem_append.mp hr with hr | hr
        · exact hl r hr
        · simp at hr; subst hr; exact Int.le_refl _
theorem fold_inv : ∀ (xs found : List Seg), Row found → (∀ p ∈ xs, ok p) → (xs.Pairwise fun p q => p.1 ≤ q.1) → (∀ q ∈ found, ∀ p ∈ xs, q.1 ≤ p.1) →
    Row (xs.foldl joinStep found) ∧ ∀ x, inR (xs.foldl joinStep found) x ↔ inR found x ∨ inR xs x
  | [], found, hf, _, _, _ => ⟨hf, fun x => by simp⟩
  | p :: xs, found, hf, ho, hs, hl => by
    obtain ⟨a, b, c⟩ := join_inv hf (ho p (by simp)) fun q hq => hl q hq p (by simp)
    have hp := List.pairwise_cons.mp hs
    obtain ⟨d, e⟩ := fold_inv xs (joinStep found p) a (fun q hq => ho q (by simp [hq])) hp.2 fun q hq r hr => by
      have h1 := c q hq
      have h2 := hp.1 r hr
      omega
    refine ⟨d, fun x => ?_⟩
    show inR (xs.foldl joinStep (joinStep found p)) x ↔ _
    rw [e x, b x, inR_cons, or_assoc]
theorem inR_perm {xs ys : List Seg} (h : xs.Perm ys) (x : Int) : inR xs x ↔ inR ys x := by
  unfold inR
  constructor
  · rintro ⟨p, hp, hx⟩; exact ⟨p, h.mem_iff.mp hp, hx⟩
  · rintro ⟨p, hp, hx⟩; exact ⟨p, h.mem_iff.mpr hp, hx⟩
theorem joinM_ok {xs : List Seg} (h : ∀ p ∈ xs, ok p) : Row (joinM xs) ∧ ∀ x, inR (joinM xs) x ↔ inR xs x := by
  have hp := List.mergeSort_perm xs leP
  obtain ⟨a, b⟩ := fold_inv (xs.mergeSort leP) [] .nil (fun p hm => h p (hp.mem_iff.mp hm)) (sort_le xs) (fun q hq => by simp at hq)
  exact ⟨a, fun x => by rw [joinM, b x, inR_perm hp]; simp⟩
theorem joinStep_len (found : List Seg) (p : Seg) : (joinStep found p).length ≤ found.length + 1 := by
  unfold joinStep
  split
  · rename_i q h
    split
    · rw [last_split h]; simp
    · simp
  · simp
theorem fold_len : ∀ (xs found : List Seg), (xs.foldl joinStep found).length ≤ found.length + xs.length
  | [], _ => by simp
  | p :: xs, found => by
    have h1 := fold_len xs (joinStep found p)
    have h2 := joinStep_len found p
    simp only [List.foldl_cons, List.length_cons] at *
    omega
theorem joinM_len (xs : List Seg) : (joinM xs).length ≤ xs.length := by
  have := fold_len (xs.mergeSort leP) []
  simpa [joinM] using this
theorem joinM_row {xs : List Seg} (h : Row xs) : joinM xs = xs := by
  obtain ⟨a, b⟩ := joinM_ok (xs := xs) (fun p hp => h.ok p hp)
  exact a.eq h b

def LASTP : Int := 1000000000
def clip (p q : Seg) : Seg := (if q.1 > p.1 then q.1 else p.1, if q.2 < p.2 then q.2 else p.2)
def bothPart (B : List Seg) (p : Seg) : List Seg := ((B.dropWhile fun q => decide (q.2 < p.1)).filter fun q => decide (q.1 ≤ p.2)).map (clip p)
def bothM (A B : List Seg) : List Seg := (joinM A).flatMap (bothPart (joinM B))
theorem drop_mem : ∀ {B : List Seg} {a : Int} {q : Seg}, Row B → (q ∈ B.dropWhile (fun q => decide (q.2 < a)) ↔ q ∈ B ∧ a ≤ q.2)
  | [], _, _, _ => by simp
  | b :: B, a, q, h => by
    by_cases c : b.2 < a
    · simp only [List.dropWhile_cons, c, decide_true, if_true]
      rw [drop_mem h.tail]
      constructor
      · rintro ⟨h1, h2⟩; exact ⟨by simp [h1], h2⟩
      · rintro ⟨h1, h2⟩
        rcases List.mem_cons.mp h1 with rfl | h1
        · omega
        · exact ⟨h1, h2⟩
    · simp only [List.dropWhile_cons, c, decide_false, Bool.false_eq_true, if_false]
      constructor
      · intro h1
        refine ⟨h1, ?_⟩
        rcases List.mem_cons.mp h1 with rfl | h1
        · omega
        · have := h.far q h1
          have := h.ok q (by simp [h1])
          have := h.head
          unfold ok at *
          omega
      · exact fun h => h.1
theorem Row.sub {xs ys : List Seg} (h : Row xs) (s : ys.Sublist xs) : Row ys := by
  induction s with
  | slnil => exact .nil
  | cons a s ih => exact ih h.tail
  | cons_cons a s ih => exact Row.mk h.head (ih h.tail) fun q hq => h.far q (s.subset hq)
theorem dropWhile_row {B : List Seg} (f : Seg → Bool) (h : Row B) : Row (B.dropWhile f) := h.sub (List.dropWhile_sublist f)
theorem filter_row {B : List Seg} (f : Seg → Bool) (h : Row B) : Row (B.filter f) := h.sub List.filter_sublist
theorem map_row {f : Seg → Seg} : ∀ {xs : List Seg}, Row xs → (∀ p ∈ xs, ok (f p) ∧ p.1 ≤ (f p).1 ∧ (f p).2 ≤ p.2) → Row (xs.map f)
  | [], _, _ => .nil
  | p :: xs, h, hf => by
    refine Row.mk (hf p (by simp)).1 (map_row h.tail fun q hq => hf q (by simp [hq])) fun q hq => ?_
    obtain ⟨r, hr, rfl⟩ := List.mem_map.mp hq
    have a := hf p (by simp)
    have b := hf r (by simp [hr])
    have c := h.far r hr
    omega
theorem part_mem {B : List Seg} {p q : Seg} (h : Row B) : q ∈ (B.dropWhile fun q => decide (q.2 < p.1)).filter (fun q => decide (q.1 ≤ p.2)) ↔ q ∈ B ∧ p.1 ≤ q.2 ∧ q.1 ≤ p.2 := by
  rw [List.mem_filter, drop_mem h, and_assoc]
  simp
theorem part_ok {B : List Seg} {p : Seg} (h : Row B) (hp : ok p) : Row (bothPart B p) ∧ (∀ x, inR (bothPart B p) x ↔ inS p x ∧ inR B x) ∧ ∀ q ∈ bothPart B p, p.1 ≤ q.1 ∧ q.2 ≤ p.2 := by
  have hc : ∀ q, q ∈ (B.dropWhile fun q => decide (q.2 < p.1)).filter (fun q => decide (q.1 ≤ p.2)) → ok (clip p q) ∧ q.1 ≤ (clip p q).1 ∧ (clip p q).2 ≤ q.2 ∧ p.1 ≤ (clip p q).1 ∧ (clip p q).2 ≤ p.2 := by
    intro q hq
    rw [part_mem h] at hq
    have hq2 := h.ok q hq.1
    unfold ok clip at *
    dsimp only
    refine ⟨?_, ?_, ?_, ?_, ?_⟩ <;> repeat' split
    all_goals omega
  refine ⟨map_row (filter_row _ (dropWhile_row _ h)) fun q hq => ⟨(hc q hq).1, (hc q hq).2.1, (hc q hq).2.2.1⟩, fun x => ?_, fun q hq => ?_⟩
  · constructor
    · rintro ⟨q, hq, hx⟩
      obtain ⟨r, hr, rfl⟩ := List.mem_map.mp hq
      have := hc r hr
      rw [part_mem h] at hr
      unfold inS at *
      exact ⟨by omega, r, hr.1, by unfold inS; omega⟩
    · rintro ⟨h1, q, hq, hx⟩
      unfold inS at h1 hx
      have hm : q ∈ (B.dropWhile fun q => decide (q.2 < p.1)).filter (fun q => decide (q.1 ≤ p.2)) := (part_mem h).mpr ⟨hq, by omega, by omega⟩
      refine ⟨clip p q, List.mem_map.mpr ⟨q, hm, rfl⟩, ?_⟩
      unfold inS clip
      dsimp only
      constructor <;> split <;> omega
  · obtain ⟨r, hr, rfl⟩ := List.mem_map.mp hq
    have := hc r hr
    omega
theorem flat_ok {B : List Seg} (h : Row B) : ∀ {A : List Seg}, Row A → Row (A.flatMap (bothPart B)) ∧ ∀ x, inR (A.flatMap (bothPart B)) x ↔ inR A x ∧ inR B x
  | [], _ => ⟨.nil, fun x => by simp⟩
  | p :: A, ha => by
    obtain ⟨a, b⟩ := flat_ok h ha.tail
    obtain ⟨c, d, e⟩ := part_ok h ha.head
    have hin : ∀ q ∈ A.flatMap (bothPart B), ∃ r ∈ A, r.1 ≤ q.1 := by
      intro q hq
      obtain ⟨r, hr, hq⟩ := List.mem_flatMap.mp hq
      exact ⟨r, hr, ((part_ok h (ha.ok r (by simp [hr]))).2.2 q hq).1⟩
    refine ⟨?_, fun x => ?_⟩
    · rw [List.flatMap_cons]
      refine Row.append c a fun r hr q hq => ?_
      obtain ⟨u, hu, h1⟩ := hin q hq
      have := ha.far u hu
      have := (e r hr).2
      omega
    · rw [List.flatMap_cons, inR_append, d x, b x, inR_cons, or_and_right]
theorem bothM_ok {A B : List Seg} (ha : ∀ p ∈ A, ok p) (hb : ∀ p ∈ B, ok p) : Row (bothM A B) ∧ ∀ x, inR (bothM A B) x ↔ inR A x ∧ inR B x := by
  obtain ⟨a1, a2⟩ := joinM_ok ha
  obtain ⟨b1, b2⟩ := joinM_ok hb
  obtain ⟨c, d⟩ := flat_ok b1 a1
  exact ⟨c, fun x => by rw [bothM, d x, a2, b2]⟩
def outGo : Int → List Seg → List Seg
  | a, [] => if a ≤ LASTP then [(a, LASTP)] else []
  | a, p :: ps => (if a < p.1 then [(a, p.1 - 1)] else []) ++ outGo (p.2 + 1) ps
def outM (xs : List Seg) : List Seg := outGo 0 (joinM xs)
theorem outGo_ok : ∀ (ps : List Seg) (a : Int), Row ps → (∀ p ∈ ps, a ≤ p.1 ∧ p.2 ≤ LASTP) → Row (outGo a ps) ∧ (∀ x, inR (outGo a ps) x ↔ a ≤ x ∧ x ≤ LASTP ∧ ¬ inR ps x) ∧ ∀ q ∈ outGo a ps, a ≤ q.1
  | [], a, _, _ => by
    unfold outGo
    split
    · exact ⟨.one (by unfold ok; omega), fun x => by simp [inS], fun q hq => by simp at hq; subst hq; exact Int.le_refl _⟩
    · exact ⟨.nil, fun x => by simp; omega, fun q hq => by simp at hq⟩
  | p :: ps, a, h, hb => by
    have hp := h.head
    have hpb := hb p (by simp)
    obtain ⟨c, d, e⟩ := outGo_ok ps (p.2 + 1) h.tail fun q hq => ⟨by have := h.far q hq; omega, (hb q (by simp [hq])).2⟩
    unfold ok at hp
    unfold outGo
    refine ⟨?_, fun x => ?_, fun q hq => ?_⟩
    · refine Row.append ?_ c fun r hr q hq => ?_
      · split
        · exact .one (by unfold ok; dsimp only; omega)
        · exact .nil
      · have := e q hq
        split at hr
        · simp at hr; subst hr; dsimp only; omega
        · simp at hr
    · rw [inR_append, d x, inR_cons]
      constructor
      · rintro (h1 | h1)
        · split at h1
          · simp only [inR_cons, inR_nil, or_false, inS] at h1
            refine ⟨by omega, by omega, fun h2 => ?_⟩
            rcases h2 with h2 | h2
            · unfold inS at h2; omega
            · have := h.farR h2; omega
          · simp at h1
        · refine ⟨by omega, h1.2.1, fun h2 => ?_⟩
          rcases h2 with h2 | h2
          · unfold inS at h2; omega
          · exact h1.2.2 h2
      · rintro ⟨h1, h2, h3⟩
        by_cases hx : x < p.1
        · left; rw [if_pos (by omega)]; simp [inS]; omega
        · right
          refine ⟨?_, h2, fun h4 => h3 (.inr h4)⟩
          have : ¬ inS p x := fun h4 => h3 (.inl h4)
          unfold inS at this
          omega
    · rcases List.mem_append.mp hq with hq | hq
      · split at hq
        · simp at hq; subst hq; exact Int.le_refl _
        · simp at hq
      · have := e q hq; omega
def okW (p : Seg) : Prop := 0 ≤ p.1 ∧ p.1 ≤ p.2 ∧ p.2 ≤ LASTP
theorem okW.ok {p : Seg} (h : okW p) : ok p := h.2.1
theorem joinM_in {xs : List Seg} (h : ∀ p ∈ xs, okW p) : ∀ p ∈ joinM xs, okW p := by
  intro p hp
  obtain ⟨a, b⟩ := joinM_ok (xs := xs) fun q hq => (h q hq).ok
  have hk := a.ok p hp
  unfold ok at hk
  have h1 := (b p.1).mp ⟨p, hp, by unfold inS; omega⟩
  have h2 := (b p.2).mp ⟨p, hp, by unfold inS; omega⟩
  obtain ⟨q, hq, hq2⟩ := h1
  obtain ⟨r, hr, hr2⟩ := h2
  have := h q hq
  have := h r hr
  unfold okW inS at *
  omega
theorem outM_ok {xs : List Seg} (h : ∀ p ∈ xs, okW p) : Row (outM xs) ∧ ∀ x, inR (outM xs) x ↔ 0 ≤ x ∧ x ≤ LASTP ∧ ¬ inR xs x := by
  obtain ⟨a, b⟩ := joinM_ok (xs := xs) fun q hq => (h q hq).ok
  obtain ⟨c, d, _⟩ := outGo_ok (joinM xs) 0 a fun p hp => ⟨(joinM_in h p hp).1, (joinM_in h p hp).2.2⟩
  exact ⟨c, fun x => by rw [outM, d x, b x]⟩
theorem row_okW {xs : List Seg} (h : Row xs) (hb : ∀ x, inR xs x → 0 ≤ x ∧ x ≤ LASTP) : ∀ p ∈ xs, okW p := by
  intro p hp
  have hk := h.ok p hp
  unfold ok at hk
  have h1 := hb p.1 ⟨p, hp, by unfold inS; omega⟩
  have h2 := hb p.2 ⟨p, hp, by unfold inS; omega⟩
  exact ⟨h1.1, hk, h2.2⟩
theorem outM_in {xs : List Seg} (h : ∀ p ∈ xs, okW p) : ∀ p ∈ outM xs, okW p := row_okW (outM_ok h).1 fun x hx => by
  have := ((outM_ok h).2 x).mp hx
  exact ⟨this.1, this.2.1⟩
def apartM (A B : List Seg) : List Seg := bothM A (outM B)
theorem apartM_ok {A B : List Seg} (ha : ∀ p ∈ A, okW p) (hb : ∀ p ∈ B, okW p) : Row (apartM A B) ∧ ∀ x, inR (apartM A B) x ↔ inR A x ∧ ¬ inR B x := by
  obtain ⟨c, d⟩ := bothM_ok (A := A) (B := outM B) (fun p hp => (ha p hp).ok) fun p hp => (outM_in hb p hp).ok
  refine ⟨c, fun x => ?_⟩
  rw [apartM, d x, (outM_ok hb).2 x]
  constructor
  · rintro ⟨h1, h2, h3, h4⟩; exact ⟨h1, h4⟩
  · rintro ⟨h1, h2⟩
    obtain ⟨p, hp, hx⟩ := id h1
    have := ha p hp
    unfold okW inS at *
    exact ⟨h1, by omega, by omega, h2⟩
theorem outGo_len : ∀ (ps : List Seg) (a : Int), (outGo a ps).length ≤ ps.length + 1
  | [], a => by unfold outGo; split <;> simp
  | p :: ps, a => by
    have := outGo_len ps (p.2 + 1)
    unfold outGo
    simp only [List.length_append, List.length_cons]
    split <;> simp <;> omega
theorem outM_len (xs : List Seg) : (outM xs).length ≤ xs.length + 1 := by
  have := outGo_len (joinM xs) 0
  have := joinM_len xs
  unfold outM
  omega
theorem bothPart_len (B : List Seg) (p : Seg) : (bothPart B p).length ≤ B.length := by
  unfold bothPart
  rw [List.length_map]
  exact Nat.le_trans (List.length_filter_le _ _) (List.dropWhile_sublist _).length_le
theorem bothM_len (A B : List Seg) : (bothM A B).length ≤ A.length * B.length := by
  have h : ∀ xs : List Seg, (xs.flatMap (bothPart (joinM B))).length ≤ xs.length * (joinM B).length := by
    intro xs
    induction xs with
    | nil => simp
    | cons p xs ih =>
      rw [List.flatMap_cons, List.length_append, List.length_cons, Nat.add_mul, Nat.one_mul]
      have := bothPart_len (joinM B) p
      omega
  refine Nat.le_trans (h _) (Nat.mul_le_mul (joinM_len A) (joinM_len B))
theorem apartM_len (A B : List Seg) : (apartM A B).length ≤ A.length * (B.length + 1) := Nat.le_trans (bothM_len A (outM B)) (Nat.mul_le_mul_left _ (outM_len B))
end PM
end
section
set_option Elab.async false
set_option linter.all false
set_option maxRecDepth 100000
set_option maxHeartbeats 1000000
namespace PL
open PySem PySem.Spec DL PM

structure Sk where
  lo : Int
  hi : Int
  col : Str
deriving DecidableEq
def Sk.d (s : Sk) : D := .tup [.int s.lo, .int s.hi, .str s.col]
structure Pt where
  slot : Int
  s : Sk
deriving DecidableEq
def Pt.d (p : Pt) : D := .tup [.int p.slot, .int p.s.lo, .int p.s.hi, .str p.s.col]
def abc : Str := "abcdefghijklmnopqrstuvwxyz"
structure colOk (c : Str) : Prop where
  some : 1 ≤ c.length
  few : c.length ≤ 8
  abc : ∀ k ∈ c.cps.toList, k ∈ PL.abc.cps.toList
  fine : PyData.strOk c = true
def Sk.ok (s : Sk) : Prop := 0 ≤ s.lo ∧ s.lo ≤ s.hi ∧ s.hi ≤ 1000000000 ∧ colOk s.col
def Sk.sp (s : Sk) : Seg := (s.lo, s.hi)
def bookD (row : List Sk) : D := .obj "Book" [("row", .lst (row.map Sk.d))]
def isBk (μ : Mem) (x : D) (row : List Sk) : Prop := ∃ y, insOf "Book" μ x = some [(("row" : Str), y)] ∧ look μ y = .lst (row.map Sk.d)
theorem isBk_obj (μ : Mem) (row : List Sk) : isBk μ (bookD row) row := ⟨_, rfl, rfl⟩
def layD (L : List Pt) : D := .tup (L.map Pt.d)
structure okRow (row : List Sk) : Prop where
  len : row.length ≤ 1000
  ok : ∀ s ∈ row, s.ok
structure okLay (n : Nat) (L : List Pt) : Prop where
  len : L.length ≤ 1000
  ok : ∀ p ∈ L, 0 ≤ p.slot ∧ p.slot ≤ (n : Int) ∧ p.s.ok
  up : L.Pairwise fun a b => a.slot ≤ b.slot
def wvAt (L : List Pt) (n s : Nat) : List (Bool × Nat) := (((List.range L.length).zip L).filter fun q => decide (q.2.slot = (s : Int))).map (fun q => (true, q.1)) ++ if s < n then [(false, s)] else []
def wv (n : Nat) (L : List Pt) : List (Bool × Nat) := (List.range (n + 1)).flatMap (wvAt L n)
def wD (q : Bool × Nat) : D := .tup [.bl q.1, .int q.2]
def sk0 : Sk := ⟨0, 0, "z"⟩
def pt0 : Pt := ⟨0, sk0⟩
def laidM (row : List Sk) (L : List Pt) : List Sk := (wv row.length L).map fun q => if q.1 then (L.getD q.2 pt0).s else row.getD q.2 sk0
def behSt (A B : List Pt) (mid : List (Bool × Nat)) : Nat → Nat × List Pt
  | 0 => (0, [])
  | k + 1 => ((match mid[k]? with
      | some (false, _) => (behSt A B mid k).1 + 1
      | _ => (behSt A B mid k).1), (behSt A B mid k).2 ++ ((B.filter fun p => decide (p.slot = (k : Int))).map fun p => ⟨((behSt A B mid k).1 : Int), p.s⟩) ++ (match mid[k]? with
      | some (true, j) => [⟨((behSt A B mid k).1 : Int), (A.getD j pt0).s⟩]
      | _ => []))
def behM (n : Nat) (A B : List Pt) : List Pt := (behSt A B (wv n A) ((wv n A).length + 1)).2
def numE (n : Nat) (L : List Pt) : List Nat := (((List.range (wv n L).length).zip (wv n L)).filter fun q => !q.2.1).map (·.1)
def numL (n : Nat) (L : List Pt) : List Nat := (((List.range (wv n L).length).zip (wv n L)).filter fun q => q.2.1).map (·.1)
def movM (m : Int) (L : List Pt) : Int := m + ((L.filter fun p => decide (p.slot < m)).length : Int)
def prD (kvs : List (Str × Int)) : D := .dct (kvs.map fun q => (.inr q.1, .int q.2))
def okPr (kvs : List (Str × Int)) : Prop := kvs.length ≤ 1000 ∧ ∀ q ∈ kvs, colOk q.1 ∧ 1 ≤ q.2 ∧ q.2 ≤ 999
def price (kvs : List (Str × Int)) (c : Str) : Int := ((kvs.find? fun q => decide (q.1 = c)).map (·.2)).getD 0

def segD (p : Seg) : D := .tup [.int p.1, .int p.2]
structure Pa (α : Type) where
  lo : Int
  hi : Int
  v : α
def Pa.d (p : Pa D) : D := .tup [.int p.lo, .int p.hi, p.v]
def Pa.map (f : α → β) (p : Pa α) : Pa β := ⟨p.lo, p.hi, f p.v⟩
def Pa.sp (p : Pa α) : Seg := (p.lo, p.hi)
def optD : Option Nat → D
  | none => .non
  | some n => .int (n : Nat)
def colD : Option Str → D
  | none => .non
  | some c => .str c
theorem optD_inj {a b : Option Nat} (h : optD a = optD b) : a = b := by
  cases a <;> cases b <;> simp [optD] at h ⊢
  omega
theorem colD_inj {a b : Option Str} (h : colD a = colD b) : a = b := by
  cases a <;> cases b <;> simp [colD] at h ⊢
  exact h
def paD (p : Pa (Option Nat)) : D := (p.map optD).d
def pcD (p : Pa (Option Str)) : D := (p.map colD).d
def LASTI : Int := 1000000000
def laidOver (ps : List (Pa α)) (lo hi : Int) (g : α) : List (Pa α) :=
  ((ps.filter fun p => decide (p.lo < lo)).map fun p => ⟨p.lo, if lo - 1 < p.hi then lo - 1 else p.hi, p.v⟩) ++ [⟨lo, hi, g⟩] ++
  ((ps.filter fun p => decide (p.hi > hi)).map fun p => ⟨if hi + 1 > p.lo then hi + 1 else p.lo, p.hi, p.v⟩)
def paintGo : List Sk → Nat → List (Pa (Option Nat)) → List (Pa (Option Nat))
  | [], _, ps => ps
  | s :: row, k, ps => paintGo row (k + 1) (laidOver ps s.lo s.hi (some k))
def paintM (row : List Sk) : List (Pa (Option Nat)) := paintGo row 0 [⟨0, LASTI, none⟩]
def mergeStep [DecidableEq α] (found : List (Pa α)) (p : Pa α) : List (Pa α) := match found.getLast? with
  | some q => if q.hi + 1 = p.lo ∧ q.v = p.v then found.dropLast ++ [⟨q.lo, p.hi, p.v⟩] else found ++ [p]
  | none => [p]
def mergeM [DecidableEq α] (ps : List (Pa α)) : List (Pa α) := ps.foldl mergeStep []
noncomputable instance : DecidableEq D := fun a b => Classical.propDecidable (a = b)
def takeM (row : List Sk) : Option Nat → List Sk
  | none => row
  | some m => row.take m
def okMom (n : Nat) : Option Nat → Prop
  | none => True
  | some m => m ≤ n
def colAt (row : List Sk) : Option Nat → Option Str
  | none => none
  | some k => some (row.getD k sk0).col
def coloursM (row : List Sk) : List (Pa (Option Str)) := mergeM ((paintM row).map (Pa.map (colAt row)))

structure Lk where
  m : Nat
  a : Int
  b : Int
deriving DecidableEq
def Lk.d (k : Lk) : D := .tup [.int (k.m : Nat), .int k.a, .int k.b]
def Lk.ok (n : Nat) (k : Lk) : Prop := k.m ≤ n ∧ 0 ≤ k.a ∧ k.a ≤ k.b ∧ k.b ≤ 1000000000
structure okLooks (n : Nat) (ks : List Lk) : Prop where
  len : ks.length ≤ 20
  ok : ∀ k ∈ ks, k.ok n
def looksD (ks : List Lk) : D := .tup (ks.map Lk.d)
def clipM (ps : List (Pa α)) (a b : Int) : List (Pa α) := (ps.filter fun p => decide (p.lo ≤ b ∧ p.hi ≥ a)).map fun p => ⟨if a > p.lo then a else p.lo, if b < p.hi then b else p.hi, p.v⟩
def shownM (row : List Sk) (k : Lk) : List (Pa (Option Nat)) := clipM (paintM (row.take k.m)) k.a k.b
def movedM (k : Lk) (L : List Pt) : Lk := ⟨k.m + (L.filter fun p => decide (p.slot < (k.m : Int))).length, k.a, k.b⟩

abbrev Wi := Pa (Option Str)
structure okWish (w : List Wi) : Prop where
  len : w.length ≤ 12
  ok : ∀ p ∈ w, 0 ≤ p.lo ∧ p.lo ≤ p.hi ∧ p.hi ≤ 1000000000 ∧ ∀ c, p.v = some c → colOk c
  up : w.Pairwise fun p q => p.hi < q.lo
def wishD (w : List Wi) : D := .tup (w.map pcD)
def allM : List Seg := [(0, LASTI)]
def firmM (w : List Wi) : List Seg := apartM allM (w.map Pa.sp)
def under (slot : Int) : Option Nat → Bool
  | none => true
  | some g => decide ((g : Int) < slot)
def beneathM (ps : List (Pa (Option Nat))) (slot : Int) : List Seg := (ps.filter fun p => under slot p.v).map Pa.sp
def wallsM (row : List Sk) (w : List Wi) (slot : Int) (ks : List Lk) : List Seg :=
  joinM (bothM (firmM w) (beneathM (paintM row) slot) ++ ks.flatMap fun k => if (k.m : Int) > slot then beneathM (shownM row k) slot else [])
def gapsM (row : List Sk) (w : List Wi) (slot : Int) (ks : List Lk) : List Seg := apartM allM (wallsM row w slot ks)

def renum (E : List Nat) : Option Nat → Option Nat
  | none => none
  | some g => some (E.getD g 0)
def unlikeL [DecidableEq α] (ps qs : List (Pa α)) : List Seg := ps.flatMap fun p => (qs.filter fun q => decide (p.v ≠ q.v ∧ (if q.lo > p.lo then q.lo else p.lo) ≤ (if q.hi < p.hi then q.hi else p.hi))).map fun q => (if q.lo > p.lo then q.lo else p.lo, if q.hi < p.hi then q.hi else p.hi)
def unlikeM [DecidableEq α] (ps qs : List (Pa α)) : List Seg := joinM (unlikeL ps qs)
def dueM (w : List Wi) : List Wi := w.filter fun p => p.v.isSome
def nowM (row : List Sk) (w : List Wi) (after : List Sk) (E : List Nat) : List Seg :=
  joinM (bothM (unlikeM ((paintM row).map (Pa.map (renum E))) (paintM after)) (firmM w) ++ unlikeM (dueM w) (coloursM after))
def seenM (row : List Sk) (L : List Pt) (k : Lk) : List Seg := unlikeM ((shownM row k).map (Pa.map (renum (numE row.length L)))) (shownM (laidM row L) (movedM k L))
structure Br where
  k : Int
  p : Seg
deriving DecidableEq
def Br.d (b : Br) : D := .tup [.int b.k, .int b.p.1, .int b.p.2]
def brokenGo (row : List Sk) (L : List Pt) : Nat → List Lk → List Br
  | _, [] => []
  | i, k :: ks => (seenM row L k).map (fun p => ⟨(i : Int), p⟩) ++ brokenGo row L (i + 1) ks
def brokenM (row : List Sk) (w : List Wi) (L : List Pt) (ks : List Lk) : List Br := (nowM row w (laidM row L) (numE row.length L)).map (fun p => ⟨-1, p⟩) ++ brokenGo row L 0 ks
end PL
end
section
set_option Elab.async false
set_option linter.all false
set_option maxRecDepth 100000
set_option maxHeartbeats 1000000
namespace PL
open PySem PySem.Spec DL
abbrev Or := List (Option Sk)
def nn (T : List (Option α)) : Nat := (T.filter Option.isNone).length
@[simp] theorem nn_nil : nn ([] : List (Option α)) = 0 := rfl
@[simp] theorem nn_some (x : α) (t : List (Option α)) : nn (some x :: t) = nn t := by simp [nn]
@[simp] theorem nn_none (t : List (Option α)) : nn (none :: t) = nn t + 1 := by simp [nn]
def ly : Or → Nat → List Pt
  | [], _ => []
  | some x :: t, s => ⟨(s : Int), x⟩ :: ly t s
  | none :: t, s => ly t (s + 1)
def idx : Or → Nat → Nat → List (Bool × Nat)
  | [], _, _ => []
  | some _ :: t, j, e => (true, j) :: idx t (j + 1) e
  | none :: t, j, e => (false, e) :: idx t j (e + 1)
def fill {α : Type} : List (Option α) → List α → List α
  | [], _ => []
  | some x :: t, r => x :: fill t r
  | none :: t, r :: rs => r :: fill t rs
  | none :: t, [] => fill t []
theorem ly_ge : ∀ (t : Or) (s : Nat), ∀ p ∈ ly t s, (s : Int) ≤ p.slot
  | [], s, p, h => by simp [ly] at h
  | some x :: t, s, p, h => by
    simp only [ly, List.mem_cons] at h
    rcases h with rfl | h
    · exact Int.le_refl _
    · exact ly_ge t s p h
  | none :: t, s, p, h => by
    have := ly_ge t (s + 1) p h
    omega
theorem ly_le : ∀ (t : Or) (s : Nat), ∀ p ∈ ly t s, p.slot ≤ ((s + nn t : Nat) : Int)
  | [], s, p, h => by simp [ly] at h
  | some x :: t, s, p, h => by
    simp only [ly, List.mem_cons] at h
    rcases h with rfl | h
    · simp; omega
    · simpa using ly_le t s p h
  | none :: t, s, p, h => by
    have := ly_le t (s + 1) p h
    simp; omega
theorem ly_up : ∀ (t : Or) (s : Nat), (ly t s).Pairwise fun a b => a.slot ≤ b.slot
  | [], s => .nil
  | some x :: t, s => .cons (fun p hp => ly_ge t s p hp) (ly_up t s)
  | none :: t, s => ly_up t (s + 1)
theorem ly_len : ∀ (t : Or) (s : Nat), (ly t s).length + nn t = t.length
  | [], s => rfl
  | some x :: t, s => by have := ly_len t s; simp [ly]; omega
  | none :: t, s => by have := ly_len t (s + 1); simp [ly]; omega
theorem ly_mem : ∀ (t : Or) (s : Nat) (x : Sk), (∃ p ∈ ly t s, p.s = x) ↔ some x ∈ t
  | [], s, x => by simp [ly]
  | some y :: t, s, x => by
    have := ly_mem t s x
    simp only [ly, List.mem_cons, exists_eq_or_imp, Option.some.injEq]
    rw [this]
    constructor
    · rintro (rfl | h)
      · exact .inl rfl
      · exact .inr h
    · rintro (rfl | h)
      · exact .inl rfl
      · exact .inr h
  | none :: t, s, x => by
    have := ly_mem t (s + 1) x
    simp only [ly, List.mem_cons]
    rw [this]; simp
theorem ly_of : ∀ (L : List Pt) (n s : Nat), s ≤ n → (∀ p ∈ L, (s : Int) ≤ p.slot ∧ p.slot ≤ (n : Int)) → (L.Pairwise fun a b => a.slot ≤ b.slot) → ∃ T : Or, s + nn T = n ∧ L = ly T s
  | [], n, s, hs, h, hp => by
    have rep : ∀ (k s : Nat), nn (List.replicate k (none : Option Sk)) = k ∧ ly (List.replicate k none) s = [] := by
      intro k
      induction k with
      | zero => intro s; simp [ly]
      | succ k ih => intro s; rw [List.replicate_succ]; exact ⟨by rw [nn_none, (ih 0).1], by simp only [ly]; exact (ih _).2⟩
    exact ⟨List.replicate (n - s) none, by rw [(rep _ 0).1]; omega, by rw [(rep _ _).2]⟩
  | p :: L, n, s, hs, h, hp => by
    have h1 := h p (by simp)
    have hp' := List.pairwise_cons.mp hp
    have lift : ∀ (k : Nat) (s : Nat) (T : Or), ly (List.replicate k none ++ T) s = ly T (s + k) ∧ nn (List.replicate k none ++ T) = k + nn T := by
      intro k
      induction k with
      | zero => intro s T; simp
      | succ k ih => intro s T; rw [List.replicate_succ, List.cons_append]; simp only [ly, nn_none, (ih (s + 1) T).1, (ih (s + 1) T).2]; exact ⟨by congr 1; omega, by omega⟩
    obtain ⟨T, e1, e2⟩ := ly_of L n p.slot.toNat (by omega) (fun q hq => ⟨by have := hp'.1 q hq; omega, (h q (by simp [hq])).2⟩) hp'.2
    refine ⟨List.replicate (p.slot.toNat - s) none ++ (some p.s :: T), ?_, ?_⟩
    · rw [(lift _ s _).2]; simp; omega
    · rw [(lift _ s _).1]
      have e : s + (p.slot.toNat - s) = p.slot.toNat := by omega
      rw [e]
      simp only [ly]
      rw [← e2]
      have : ((p.slot.toNat : Nat) : Int) = p.slot := by omega
      rw [this]
def enF (j : Nat) : List Pt → List (Nat × Pt)
  | [] => []
  | p :: L => (j, p) :: enF (j + 1) L
theorem enF_eq : ∀ (L : List Pt) (j : Nat), enF j L = (List.range' j L.length).zip L
  | [], j => rfl
  | p :: L, j => by rw [enF, enF_eq L (j + 1), List.length_cons, List.range'_succ]; rfl
def chunk (n : Nat) (E : List (Nat × Pt)) (u : Nat) : List (Bool × Nat) := (E.filter fun q => decide (q.2.slot = (u : Int))).map (fun q => (true, q.1)) ++ if u < n then [(false, u)] else []
theorem enF_mem : ∀ (L : List Pt) (j : Nat) (q : Nat × Pt), q ∈ enF j L → q.2 ∈ L
  | [], j, q, h => by simp [enF] at h
  | p :: L, j, q, h => by
    simp only [enF, List.mem_cons] at h
    rcases h with rfl | h
    · simp
    · exact List.mem_cons_of_mem _ (enF_mem L (j + 1) q h)
theorem wv_go : ∀ (t : Or) (n s j : Nat), s + nn t = n → (List.range' s (n + 1 - s)).flatMap (chunk n (enF j (ly t s))) = idx t j s
  | [], n, s, j, h => by
    have : s = n := by simpa using h
    subst this
    have e : s + 1 - s = 1 := by omega
    rw [e]
    simp [chunk, enF, ly, idx]
  | some x :: t, n, s, j, h => by
    have h' : s + nn t = n := by simpa using h
    have ih := wv_go t n s (j + 1) h'
    have e : n + 1 - s = (n - s) + 1 := by omega
    rw [e, List.range'_succ] at ih ⊢
    simp only [List.flatMap_cons, ly, enF, idx] at ih ⊢
    have c1 : chunk n ((j, ⟨(s : Int), x⟩) :: enF (j + 1) (ly t s)) s = (true, j) :: chunk n (enF (j + 1) (ly t s)) s := by
      simp [chunk]
    have c2 : ∀ u ∈ List.range' (s + 1) (n - s), chunk n ((j, ⟨(s : Int), x⟩) :: enF (j + 1) (ly t s)) u = chunk n (enF (j + 1) (ly t s)) u := by
      intro u hu
      have : s + 1 ≤ u := (List.mem_range'_1.mp hu).1
      have hne : ¬ (s : Int) = (u : Int) := by omega
      simp [chunk, hne]
    have c3 : (List.range' (s + 1) (n - s)).flatMap (chunk n ((j, ⟨(s : Int), x⟩) :: enF (j + 1) (ly t s))) = (List.range' (s + 1) (n - s)).flatMap (chunk n (enF (j + 1) (ly t s))) := by
      simp only [List.flatMap_def]
      rw [List.map_congr_left c2]
    rw [c1, c3, List.cons_append, ih]
  | none :: t, n, s, j, h => by
    have h' : (s + 1) + nn t = n := by simp at h; omega
    have ih := wv_go t n (s + 1) j h'
    have e : n + 1 - s = (n + 1 - (s + 1)) + 1 := by omega
    rw [e, List.range'_succ]
    simp only [List.flatMap_cons, ly, idx]
    rw [ih]
    have c1 : chunk n (enF j (ly t (s + 1))) s = [(false, s)] := by
      have : (enF j (ly t (s + 1))).filter (fun q => decide (q.2.slot = (s : Int))) = [] := by
        rw [List.filter_eq_nil_iff]
        intro q hq
        have := ly_ge t (s + 1) q.2 (enF_mem _ _ q hq)
        simp; omega
      have hs : s < n := by omega
      simp [chunk, this, hs]
    rw [c1]; rfl
theorem wv_ly (T : Or) : wv (nn T) (ly T 0) = idx T 0 0 := by
  have := wv_go T (nn T) 0 0 (by omega)
  rw [← this]
  unfold wv
  rw [List.range_eq_range']
  show _ = (List.range' 0 (nn T + 1)).flatMap _
  congr 1
  funext u
  unfold wvAt chunk
  rw [enF_eq, List.range_eq_range']
theorem okLay.ord {n : Nat} {L : List Pt} (h : okLay n L) : ∃ T : Or, nn T = n ∧ L = ly T 0 := by
  obtain ⟨T, e1, e2⟩ := ly_of L n 0 (by omega) (fun p hp => ⟨(h.ok p hp).1, (h.ok p hp).2.1⟩) h.up
  exact ⟨T, by omega, e2⟩
theorem idx_len : ∀ (T : Or) (j e : Nat), (idx T j e).length = T.length
  | [], _, _ => rfl
  | some _ :: t, j, e => by simp [idx, idx_len t]
  | none :: t, j, e => by simp [idx, idx_len t]
theorem idx_mem : ∀ (T : Or) (j e s : Nat), ∀ q ∈ idx T j e, if q.1 = true then q.2 < j + (ly T s).length else q.2 < e + nn T
  | [], j, e, s, q, h => by simp [idx] at h
  | some x :: t, j, e, s, q, h => by
    simp only [idx, List.mem_cons] at h
    rcases h with rfl | h
    · simp [ly]
    · have := idx_mem t (j + 1) e s q h
      split at this <;> rename_i hq <;> simp [hq, ly] <;> omega
  | none :: t, j, e, s, q, h => by
    simp only [idx, List.mem_cons] at h
    rcases h with rfl | h
    · simp; 
    · have := idx_mem t j (e + 1) (s + 1) q h
      split at this <;> rename_i hq <;> simp [hq, ly] <;> omega
theorem wv_mem {n : Nat} {L : List Pt} (h : okLay n L) {q : Bool × Nat} (hq : q ∈ wv n L) : if q.1 = true then q.2 < L.length else q.2 < n := by
  obtain ⟨T, rfl, rfl⟩ := h.ord
  rw [wv_ly] at hq
  simpa using idx_mem T 0 0 0 q hq
theorem wv_len {n : Nat} {L : List Pt} (h : okLay n L) : (wv n L).length = n + L.length := by
  obtain ⟨T, rfl, rfl⟩ := h.ord
  rw [wv_ly, idx_len]
  have := ly_len T 0
  omega
theorem laidM_ok {row : List Sk} {L : List Pt} (hr : okRow row) (hL : okLay row.length L) (hl : row.length + L.length ≤ 1000) : okRow (laidM row L) := by
  refine ⟨by unfold laidM; rw [List.length_map, wv_len hL]; exact hl, fun s hs => ?_⟩
  unfold laidM at hs
  obtain ⟨q, hq, rfl⟩ := List.mem_map.mp hs
  have := wv_mem hL hq
  split at this <;> rename_i h1 <;> simp only [h1]
  · simp only [if_true]
    rw [List.getD_eq_getElem?_getD, List.getElem?_eq_getElem this]
    exact (hL.ok _ (List.getElem_mem _)).2.2
  · simp only [if_false, Bool.false_eq_true]
    rw [List.getD_eq_getElem?_getD, List.getElem?_eq_getElem this]
    exact hr.ok _ (List.getElem_mem _)
end PL
end
section
set_option Elab.async false
set_option linter.all false
set_option maxRecDepth 100000
set_option maxHeartbeats 1000000
namespace PL
open PySem PySem.Spec DL
def up (T : List (Option α)) : List (Option (Option α)) := T.map (Option.map some)
def comp (TB TA : List (Option α)) : List (Option α) := fill (up TB) TA
@[simp] theorem up_nil : up ([] : List (Option α)) = [] := rfl
@[simp] theorem up_some (x : α) (t : List (Option α)) : up (some x :: t) = some (some x) :: up t := rfl
@[simp] theorem up_none (t : List (Option α)) : up (none :: t) = none :: up t := rfl
theorem nn_up : ∀ T : List (Option α), nn (up T) = nn T
  | [] => rfl
  | some x :: t => by simp [nn_up t]
  | none :: t => by simp [nn_up t]
theorem len_up (T : List (Option α)) : (up T).length = T.length := by simp [up]
theorem comp_nn : ∀ (TB TA : List (Option α)), nn TB = TA.length → nn (comp TB TA) = nn TA ∧ (comp TB TA).length = TB.length
  | [], TA, h => by
    have : TA = [] := List.length_eq_zero_iff.mp h.symm
    subst this; exact ⟨rfl, rfl⟩
  | some x :: tb, TA, h => by
    have := comp_nn tb TA (by simpa using h)
    simp [comp, fill] at this ⊢; exact this
  | none :: tb, [], h => by simp at h
  | none :: tb, some y :: ta, h => by
    have := comp_nn tb ta (by simpa using h)
    simp [comp, fill] at this ⊢; exact this
  | none :: tb, none :: ta, h => by
    have := comp_nn tb ta (by simpa using h)
    simp [comp, fill] at this ⊢; exact this
theorem fill_fill : ∀ (TB TA : List (Option α)) (row : List α), nn TB = TA.length → nn TA = row.length → fill TB (fill TA row) = fill (fill (up TB) TA) row
  | [], TA, row, h, k => rfl
  | some x :: tb, TA, row, h, k => by
    simp only [fill, up_some, fill_fill tb TA row (by simpa using h) k]
  | none :: tb, [], row, h, k => by simp at h
  | none :: tb, some y :: ta, row, h, k => by
    simp only [fill, up_none, fill_fill tb ta row (by simpa using h) (by simpa using k)]
  | none :: tb, none :: ta, [], h, k => by simp at k
  | none :: tb, none :: ta, r :: row, h, k => by
    simp only [fill, up_none, fill_fill tb ta row (by simpa using h) (by simpa using k)]
theorem fill_map (f : α → β) : ∀ (t : List (Option α)) (r : List α), (fill t r).map f = fill (t.map (Option.map f)) (r.map f)
  | [], r => rfl
  | some x :: t, r => by simp [fill, fill_map f t r]
  | none :: t, [] => by simp [fill]; have := fill_map f t []; simpa using this
  | none :: t, a :: r => by simp [fill, fill_map f t r]
theorem comp_assoc (TA TB TC : Or) (h1 : nn TB = TA.length) (h2 : nn TC = TB.length) : comp TC (comp TB TA) = comp (comp TC TB) TA := by
  unfold comp
  rw [fill_fill (up TC) (up TB) TA (by rw [nn_up, len_up]; exact h2) (by rw [nn_up]; exact h1)]
  congr 1
  show _ = (fill (up TC) TB).map (Option.map some)
  rw [fill_map]
  congr 1
  show (up TC).map (Option.map some) = (up TC).map (Option.map (Option.map some))
  refine List.map_congr_left fun x hx => ?_
  obtain ⟨y, _, rfl⟩ := List.mem_map.mp hx
  cases y <;> rfl
theorem comp_mem : ∀ (TB TA : Or) (x : Sk), some x ∈ comp TB TA → some x ∈ TB ∨ some x ∈ TA
  | [], TA, x, h => by simp [comp, fill] at h
  | some y :: tb, TA, x, h => by
    simp only [comp, fill, up_some, List.mem_cons, Option.some.injEq] at h
    rcases h with rfl | h
    · exact .inl (by simp)
    · rcases comp_mem tb TA x h with h | h
      · exact .inl (by simp [h])
      · exact .inr h
  | none :: tb, [], x, h => by
    rcases comp_mem tb [] x (by simpa [comp, fill] using h) with h | h
    · exact .inl (by simp [h])
    · exact .inr h
  | none :: tb, a :: ta, x, h => by
    simp only [comp, fill, up_none, List.mem_cons] at h
    rcases h with rfl | h
    · exact .inr (by simp)
    · rcases comp_mem tb ta x h with h | h
      · exact .inl (by simp [h])
      · exact .inr (by simp [h])
theorem laid_go : ∀ (T : Or) (j e s : Nat) (L : List Pt) (row : List Sk), L.drop j = ly T s → nn T = (row.drop e).length → (idx T j e).map (fun q => if q.1 then (L.getD q.2 pt0).s else row.getD q.2 sk0) = fill T (row.drop e)
  | [], j, e, s, L, row, h, k => rfl
  | some x :: t, j, e, s, L, row, h, k => by
    have hj : L[j]? = some ⟨(s : Int), x⟩ := by
      have : (L.drop j)[0]? = some ⟨(s : Int), x⟩ := by rw [h]; rfl
      simpa using this
    have hd : L.drop (j + 1) = ly t s := by
      have : (L.drop j).drop 1 = ly t s := by rw [h]; rfl
      simpa [List.drop_drop] using this
    have ih := laid_go t (j + 1) e s L row hd (by simpa using k)
    simp only [List.getD_eq_getElem?_getD] at ih
    simp only [idx, List.map_cons, if_true, fill, List.getD_eq_getElem?_getD, hj, ih]
    rfl
  | none :: t, j, e, s, L, row, h, k => by
    cases q : row.drop e with
    | nil => rw [q] at k; simp at k
    | cons r rs =>
      have he : row[e]? = some r := by
        have : (row.drop e)[0]? = some r := by rw [q]; rfl
        simpa using this
      have hd : row.drop (e + 1) = rs := by
        have : (row.drop e).drop 1 = rs := by rw [q]; rfl
        simpa [List.drop_drop] using this
      have ih := laid_go t j (e + 1) (s + 1) L row h (by rw [hd]; rw [q] at k; simpa using k)
      rw [hd] at ih
      simp only [List.getD_eq_getElem?_getD] at ih
      simp only [idx, List.map_cons, fill, List.getD_eq_getElem?_getD, he, ih]
      simp
theorem laid_ly (T : Or) (row : List Sk) (h : nn T = row.length) : laidM row (ly T 0) = fill T row := by
  unfold laidM
  rw [← h, wv_ly]
  simpa using laid_go T 0 0 0 (ly T 0) row rfl (by simpa using h)
theorem fill_len : ∀ (T : List (Option α)) (row : List α), nn T = row.length → (fill T row).length = T.length
  | [], row, h => rfl
  | some x :: t, row, h => by simp [fill, fill_len t row (by simpa using h)]
  | none :: t, [], h => by simp at h
  | none :: t, r :: row, h => by simp [fill, fill_len t row (by simpa using h)]
def bm (B : List Pt) (at_ s : Nat) : List Pt := (B.filter fun p => decide (p.slot = (at_ : Int))).map fun p => ⟨(s : Int), p.s⟩
def Rr (B : List Pt) : Or → Nat → Nat → List Pt
  | [], at_, s => bm B at_ s
  | some x :: t, at_, s => bm B at_ s ++ ⟨(s : Int), x⟩ :: Rr B t (at_ + 1) s
  | none :: t, at_, s => bm B at_ s ++ Rr B t (at_ + 1) (s + 1)
theorem Rr_skip (p : Pt) (B : List Pt) : ∀ (t : Or) (at_ s : Nat), p.slot < (at_ : Int) → Rr (p :: B) t at_ s = Rr B t at_ s
  | [], at_, s, h => by simp [Rr, bm, show ¬ p.slot = (at_ : Int) by omega]
  | some x :: t, at_, s, h => by
    rw [Rr, Rr, Rr_skip p B t (at_ + 1) s (by omega)]
    simp [bm, show ¬ p.slot = (at_ : Int) by omega]
  | none :: t, at_, s, h => by
    rw [Rr, Rr, Rr_skip p B t (at_ + 1) (s + 1) (by omega)]
    simp [bm, show ¬ p.slot = (at_ : Int) by omega]
theorem Rr_hd (x : Sk) (B : List Pt) (t : Or) (at_ s : Nat) : Rr (⟨(at_ : Int), x⟩ :: B) t at_ s = ⟨(s : Int), x⟩ :: Rr B t at_ s := by
  cases t with
  | nil => simp [Rr, bm]
  | cons y t =>
    cases y with
    | none => simp [Rr, bm]; exact Rr_skip _ B t (at_ + 1) (s + 1) (by simp; omega)
    | some z => simp [Rr, bm]; exact Rr_skip _ B t (at_ + 1) s (by simp; omega)
theorem bm_none (tb : Or) (at_ s : Nat) : bm (ly tb (at_ + 1)) at_ s = [] := by
  have : (ly tb (at_ + 1)).filter (fun p => decide (p.slot = (at_ : Int))) = [] := by
    rw [List.filter_eq_nil_iff]
    intro p hp
    have := ly_ge tb (at_ + 1) p hp
    simp; omega
  simp [bm, this]
theorem Rr_ly : ∀ (tb t : Or) (at_ s : Nat), nn tb = t.length → Rr (ly tb at_) t at_ s = ly (comp tb t) s
  | [], t, at_, s, h => by
    have : t = [] := List.length_eq_zero_iff.mp h.symm
    subst this; rfl
  | some x :: tb, t, at_, s, h => by
    rw [ly, Rr_hd, Rr_ly tb t at_ s (by simpa using h)]
    rfl
  | none :: tb, [], at_, s, h => by simp at h
  | none :: tb, some y :: t, at_, s, h => by
    rw [ly, Rr, bm_none, Rr_ly tb t (at_ + 1) s (by simpa using h)]
    rfl
  | none :: tb, none :: t, at_, s, h => by
    rw [ly, Rr, bm_none, Rr_ly tb t (at_ + 1) (s + 1) (by simpa using h)]
    rfl
theorem idx_get : ∀ (T : Or) (j e s k : Nat), (∀ x, T[k]? = some (some x) → ∃ i, (idx T j e)[k]? = some (true, j + i) ∧ ((ly T s).getD i pt0).s = x) ∧ (T[k]? = some none → ∃ i, (idx T j e)[k]? = some (false, i))
  | [], j, e, s, k => by simp
  | some y :: t, j, e, s, 0 => by
    refine ⟨fun x hx => ⟨0, by simp [idx], ?_⟩, fun h => by simp at h⟩
    simp at hx; subst hx; simp [ly]
  | none :: t, j, e, s, 0 => by simp [idx]
  | some y :: t, j, e, s, k + 1 => by
    obtain ⟨h1, h2⟩ := idx_get t (j + 1) e s k
    refine ⟨fun x hx => ?_, fun hx => ?_⟩
    · obtain ⟨i, e1, e2⟩ := h1 x (by simpa using hx)
      exact ⟨i + 1, by simp only [idx, List.getElem?_cons_succ, e1]; congr 2; omega, by simpa [ly] using e2⟩
    · obtain ⟨i, e1⟩ := h2 (by simpa using hx)
      exact ⟨i, by simpa [idx] using e1⟩
  | none :: t, j, e, s, k + 1 => by
    obtain ⟨h1, h2⟩ := idx_get t j (e + 1) (s + 1) k
    refine ⟨fun x hx => ?_, fun hx => ?_⟩
    · obtain ⟨i, e1, e2⟩ := h1 x (by simpa using hx)
      exact ⟨i, by simpa [idx] using e1, by simpa [ly] using e2⟩
    · obtain ⟨i, e1⟩ := h2 (by simpa using hx)
      exact ⟨i, by simpa [idx] using e1⟩
theorem beh_go (TA : Or) (B : List Pt) : ∀ k, k ≤ TA.length → (behSt (ly TA 0) B (idx TA 0 0) k).2 ++ Rr B (TA.drop k) k (behSt (ly TA 0) B (idx TA 0 0) k).1 = Rr B TA 0 0
  | 0, h => by simp [behSt]
  | k + 1, h => by
    have ih := beh_go TA B k (by omega)
    have hk : k < TA.length := by omega
    have hd := List.drop_eq_getElem_cons hk
    rw [hd] at ih
    obtain ⟨g1, g2⟩ := idx_get TA 0 0 0 k
    cases q : TA[k] with
    | some x =>
      obtain ⟨i, e1, e2⟩ := g1 x (by rw [List.getElem?_eq_getElem hk, q])
      rw [q] at ih
      rw [← ih]
      simp only [behSt, e1, Rr, bm]
      simp only [Nat.zero_add, e2, List.append_assoc, List.cons_append, List.nil_append]
    | none =>
      obtain ⟨i, e1⟩ := g2 (by rw [List.getElem?_eq_getElem hk, q])
      rw [q] at ih
      rw [← ih]
      simp only [behSt, e1, Rr, bm]
      simp only [List.append_assoc, List.nil_append]
theorem beh_ly (TA TB : Or) (h : nn TB = TA.length) : behM (nn TA) (ly TA 0) (ly TB 0) = ly (comp TB TA) 0 := by
  rw [← Rr_ly TB TA 0 0 h, ← beh_go TA (ly TB 0) TA.length (Nat.le_refl _)]
  unfold behM
  rw [wv_ly, idx_len, List.drop_length]
  have : (idx TA 0 0)[TA.length]? = none := List.getElem?_eq_none (by rw [idx_len]; exact Nat.le_refl _)
  simp only [behSt, this, Rr, bm, List.append_nil]
def posN : Nat → Or → List Nat
  | _, [] => []
  | k, some _ :: t => posN (k + 1) t
  | k, none :: t => k :: posN (k + 1) t
theorem pos_go : ∀ (T : Or) (k j e : Nat), (((List.range' k T.length).zip (idx T j e)).filter fun q => !q.2.1).map (·.1) = posN k T
  | [], k, j, e => rfl
  | some x :: t, k, j, e => by
    simp only [List.length_cons, List.range'_succ, idx, List.zip_cons_cons, List.filter_cons]
    simpa [posN] using pos_go t (k + 1) (j + 1) e
  | none :: t, k, j, e => by
    simp only [List.length_cons, List.range'_succ, idx, List.zip_cons_cons, List.filter_cons]
    simpa [posN] using pos_go t (k + 1) j (e + 1)
theorem numE_ly (T : Or) : numE (nn T) (ly T 0) = posN 0 T := by
  unfold numE
  rw [wv_ly, idx_len, List.range_eq_range']
  exact pos_go T 0 0 0
theorem pos_len : ∀ (T : Or) (k : Nat), (posN k T).length = nn T
  | [], k => rfl
  | some x :: t, k => by simpa [posN] using pos_len t (k + 1)
  | none :: t, k => by simp [posN, pos_len t (k + 1)]
theorem pos_bd : ∀ (T : Or) (k : Nat), ∀ i ∈ posN k T, k ≤ i ∧ i < k + T.length
  | [], k, i, h => by simp [posN] at h
  | some x :: t, k, i, h => by
    have := pos_bd t (k + 1) i (by simpa [posN] using h)
    simp; omega
  | none :: t, k, i, h => by
    simp only [posN, List.mem_cons] at h
    rcases h with rfl | h
    · simp
    · have := pos_bd t (k + 1) i h
      simp; omega
theorem pos_comp : ∀ (TB TA : Or) (k j : Nat) (P : List Nat), nn TB = TA.length → P.drop j = posN k TB → posN k (comp TB TA) = (posN j TA).map fun i => P.getD i 0
  | [], TA, k, j, P, h, hp => by
    have : TA = [] := List.length_eq_zero_iff.mp h.symm
    subst this; rfl
  | some x :: tb, TA, k, j, P, h, hp => by
    show posN k (some x :: comp tb TA) = _
    rw [posN]
    exact pos_comp tb TA (k + 1) j P (by simpa using h) (by simpa [posN] using hp)
  | none :: tb, [], k, j, P, h, hp => by simp at h
  | none :: tb, y :: ta, k, j, P, h, hp => by
    have h0 : P[j]? = some k := by
      have : (P.drop j)[0]? = some k := by rw [hp]; rfl
      simpa using this
    have hd : P.drop (j + 1) = posN (k + 1) tb := by
      have : (P.drop j).drop 1 = posN (k + 1) tb := by rw [hp]; rfl
      simpa [List.drop_drop] using this
    have ih := pos_comp tb ta (k + 1) (j + 1) P (by simpa using h) hd
    cases y with
    | some x =>
      show posN k (some x :: comp tb ta) = _
      rw [posN, posN, ih]
    | none =>
      show posN k (none :: comp tb ta) = _
      rw [posN, posN, ih, List.map_cons, List.getD_eq_getElem?_getD, h0]
      rfl
def mv : Nat → Or → Nat
  | 0, _ => 0
  | m + 1, [] => m + 1
  | m + 1, some _ :: t => mv (m + 1) t + 1
  | m + 1, none :: t => mv m t + 1
theorem mv_ly : ∀ (T : Or) (s m : Nat), m ≤ nn T → mv m T = m + ((ly T s).filter fun p => decide (p.slot < ((s + m : Nat) : Int))).length
  | T, s, 0, h => by
    have : (ly T s).filter (fun p => decide (p.slot < ((s + 0 : Nat) : Int))) = [] := by
      rw [List.filter_eq_nil_iff]
      intro p hp
      have := ly_ge T s p hp
      simp; omega
    rw [this]; cases T <;> rfl
  | [], s, m + 1, h => by simp at h
  | some x :: t, s, m + 1, h => by
    have ih := mv_ly t s (m + 1) (by simpa using h)
    have e : decide ((s : Int) < ((s + (m + 1) : Nat) : Int)) = true := by simp; omega
    rw [mv, ih, ly, List.filter_cons]
    simp only [e, if_true, List.length_cons]; omega
  | none :: t, s, m + 1, h => by
    have ih := mv_ly t (s + 1) m (by simpa using h)
    have e : s + (m + 1) = s + 1 + m := by omega
    rw [mv, ih, ly, e]; omega
theorem mv_le : ∀ (T : Or) (m : Nat), m ≤ nn T → mv m T ≤ T.length
  | T, 0, h => by cases T <;> exact Nat.zero_le _
  | [], m + 1, h => by simp at h
  | some x :: t, m + 1, h => by have := mv_le t (m + 1) (by simpa using h); simp only [mv, List.length_cons]; omega
  | none :: t, m + 1, h => by have := mv_le t m (by simpa using h); simp only [mv, List.length_cons]; omega
theorem mv_comp : ∀ (TB TA : Or) (m : Nat), nn TB = TA.length → m ≤ nn TA → mv (mv m TA) TB = mv m (comp TB TA)
  | TB, TA, 0, h, k => by cases TA <;> cases TB <;> simp [mv] <;> (generalize comp _ _ = z; cases z <;> rfl)
  | [], TA, m + 1, h, k => by
    have : TA = [] := List.length_eq_zero_iff.mp h.symm
    subst this; simp at k
  | some x :: tb, TA, m + 1, h, k => by
    have ih := mv_comp tb TA (m + 1) (by simpa using h) k
    have e : ∃ z, mv (m + 1) TA = z + 1 := by
      cases TA with
      | nil => exact ⟨m, rfl⟩
      | cons y ta => cases y <;> exact ⟨_, rfl⟩
    obtain ⟨z, e⟩ := e
    show _ = mv (m + 1) (some x :: comp tb TA)
    rw [e] at ih ⊢
    rw [mv, mv, ih]
  | none :: tb, [], m + 1, h, k => by simp at h
  | none :: tb, some y :: ta, m + 1, h, k => by
    have ih := mv_comp tb ta (m + 1) (by simpa using h) (by simpa using k)
    show _ = mv (m + 1) (some y :: comp tb ta)
    rw [mv, mv, mv, ih]
  | none :: tb, none :: ta, m + 1, h, k => by
    have ih := mv_comp tb ta m (by simpa using h) (by simpa using k)
    show _ = mv (m + 1) (none :: comp tb ta)
    rw [mv, mv, mv, ih]
def sumT (f : Sk → Int) : Or → Int
  | [] => 0
  | some x :: t => f x + sumT f t
  | none :: t => sumT f t
theorem sum_ly (f : Sk → Int) : ∀ (T : Or) (s : Nat), ((ly T s).map fun p => f p.s).sum = sumT f T
  | [], s => rfl
  | some x :: t, s => by simp [ly, sumT, sum_ly f t s]
  | none :: t, s => by simp [ly, sumT, sum_ly f t (s + 1)]
theorem sum_comp (f : Sk → Int) : ∀ (TB TA : Or), nn TB = TA.length → sumT f (comp TB TA) = sumT f TA + sumT f TB
  | [], TA, h => by
    have : TA = [] := List.length_eq_zero_iff.mp h.symm
    subst this; rfl
  | some x :: tb, TA, h => by
    show sumT f (some x :: comp tb TA) = _
    rw [sumT, sumT, sum_comp f tb TA (by simpa using h)]; omega
  | none :: tb, [], h => by simp at h
  | none :: tb, some y :: ta, h => by
    show sumT f (some y :: comp tb ta) = _
    rw [sumT, sumT, sumT, sum_comp f tb ta (by simpa using h)]; omega
  | none :: tb, none :: ta, h => by
    show sumT f (none :: comp tb ta) = _
    rw [sumT, sumT, sumT, sum_comp f tb ta (by simpa using h)]
end PL
end
section
set_option Elab.async false
set_option linter.all false
set_option maxRecDepth 100000
set_option maxHeartbeats 1000000
namespace PL
open PySem PySem.Spec DL
theorem two_ord {n : Nat} {A B : List Pt} (hA : okLay n A) (hB : okLay (n + A.length) B) : ∃ TA TB : Or, nn TA = n ∧ A = ly TA 0 ∧ nn TB = TA.length ∧ B = ly TB 0 := by
  obtain ⟨TA, e1, e2⟩ := hA.ord
  obtain ⟨TB, e3, e4⟩ := hB.ord
  have := ly_len TA 0
  exact ⟨TA, TB, e1, e2, by rw [e3, e2]; omega, e4⟩
theorem beh_ok {n : Nat} {A B : List Pt} (hA : okLay n A) (hB : okLay (n + A.length) B) (hl : A.length + B.length ≤ 1000) : okLay n (behM n A B) ∧ (behM n A B).length = A.length + B.length ∧ ∀ hs : List Str, (∀ p ∈ A, p.s.col ∈ hs) → (∀ p ∈ B, p.s.col ∈ hs) → ∀ p ∈ behM n A B, p.s.col ∈ hs := by
  obtain ⟨TA, TB, rfl, rfl, h1, rfl⟩ := two_ord hA hB
  rw [beh_ly TA TB h1]
  obtain ⟨c1, c2⟩ := comp_nn TB TA h1
  have l1 := ly_len TA 0
  have l2 := ly_len TB 0
  have l3 := ly_len (comp TB TA) 0
  have mem : ∀ p ∈ ly (comp TB TA) 0, (∃ q ∈ ly TB 0, q.s = p.s) ∨ (∃ q ∈ ly TA 0, q.s = p.s) := by
    intro p hp
    have := (ly_mem (comp TB TA) 0 p.s).mp ⟨p, hp, rfl⟩
    rcases comp_mem TB TA p.s this with h | h
    · exact .inl ((ly_mem TB 0 p.s).mpr h)
    · exact .inr ((ly_mem TA 0 p.s).mpr h)
  refine ⟨⟨by omega, fun p hp => ?_, ly_up _ _⟩, by omega, fun hs ha hb p hp => ?_⟩
  · have g1 := ly_ge _ 0 p hp
    have g2 := ly_le _ 0 p hp
    refine ⟨by simpa using g1, by rw [c1] at g2; simpa using g2, ?_⟩
    rcases mem p hp with ⟨q, hq, e⟩ | ⟨q, hq, e⟩
    · rw [← e]; exact (hB.ok q hq).2.2
    · rw [← e]; exact (hA.ok q hq).2.2
  · rcases mem p hp with ⟨q, hq, e⟩ | ⟨q, hq, e⟩
    · rw [← e]; exact hb q hq
    · rw [← e]; exact ha q hq
theorem beh_assoc {n : Nat} {A B C : List Pt} (hA : okLay n A) (hB : okLay (n + A.length) B) (hC : okLay (n + A.length + B.length) C) : behM n (behM n A B) C = behM n A (behM (n + A.length) B C) := by
  obtain ⟨TA, TB, rfl, rfl, h1, rfl⟩ := two_ord hA hB
  obtain ⟨TC, e3, rfl⟩ := hC.ord
  have l1 := ly_len TA 0
  have l2 := ly_len TB 0
  have h2 : nn TC = TB.length := by omega
  have e : nn TA + (ly TA 0).length = nn TB := by omega
  rw [e, beh_ly TA TB h1, beh_ly TB TC h2]
  obtain ⟨c1, c2⟩ := comp_nn TB TA h1
  obtain ⟨d1, d2⟩ := comp_nn TC TB h2
  have := beh_ly (comp TB TA) TC (by omega)
  rw [c1] at this
  rw [this, beh_ly TA (comp TC TB) (by omega), comp_assoc TA TB TC h1 h2]
theorem laid_beh {row : List Sk} {A B : List Pt} (hA : okLay row.length A) (hB : okLay (row.length + A.length) B) : laidM row (behM row.length A B) = laidM (laidM row A) B := by
  obtain ⟨TA, TB, e1, rfl, h1, rfl⟩ := two_ord hA hB
  have hb := beh_ly TA TB h1
  rw [e1] at hb
  rw [hb]
  obtain ⟨c1, c2⟩ := comp_nn TB TA h1
  rw [laid_ly _ _ (by omega), laid_ly TA row e1, laid_ly TB _ (by rw [fill_len TA row e1]; exact h1)]
  exact (fill_fill TB TA row h1 e1).symm
theorem num_beh {n : Nat} {A B : List Pt} (hA : okLay n A) (hB : okLay (n + A.length) B) : numE n (behM n A B) = (numE n A).map fun i => (numE (n + A.length) B).getD i 0 := by
  obtain ⟨TA, TB, rfl, rfl, h1, rfl⟩ := two_ord hA hB
  have l1 := ly_len TA 0
  have e : nn TA + (ly TA 0).length = nn TB := by omega
  obtain ⟨c1, c2⟩ := comp_nn TB TA h1
  have := numE_ly (comp TB TA)
  rw [c1] at this
  rw [e, beh_ly TA TB h1, this, numE_ly, numE_ly]
  exact pos_comp TB TA 0 0 (posN 0 TB) h1 rfl
theorem num_len {n : Nat} {A : List Pt} (hA : okLay n A) : (numE n A).length = n ∧ ∀ i ∈ numE n A, i < n + A.length := by
  obtain ⟨TA, rfl, rfl⟩ := hA.ord
  have l1 := ly_len TA 0
  rw [numE_ly]
  refine ⟨pos_len _ _, fun i hi => ?_⟩
  have := pos_bd TA 0 i hi
  omega
theorem mov_nat {n : Nat} {A : List Pt} {m : Int} (hA : okLay n A) (h0 : 0 ≤ m) (h1 : m ≤ (n : Int)) : ∃ TA : Or, nn TA = n ∧ A = ly TA 0 ∧ movM m A = ((mv m.toNat TA : Nat) : Int) := by
  obtain ⟨TA, rfl, rfl⟩ := hA.ord
  refine ⟨TA, rfl, rfl, ?_⟩
  have := mv_ly TA 0 m.toNat (by omega)
  rw [this]
  unfold movM
  have e : ((0 + m.toNat : Nat) : Int) = m := by omega
  rw [e]
  omega
theorem mov_bd {n : Nat} {A : List Pt} {m : Int} (hA : okLay n A) (h0 : 0 ≤ m) (h1 : m ≤ (n : Int)) : 0 ≤ movM m A ∧ movM m A ≤ ((n + A.length : Nat) : Int) := by
  obtain ⟨TA, rfl, rfl, e⟩ := mov_nat hA h0 h1
  have := mv_le TA m.toNat (by omega)
  have l1 := ly_len TA 0
  rw [e]; omega
theorem ly_inj : ∀ (T U : Or) (s : Nat), nn T = nn U → ly T s = ly U s → T = U
  | [], U, s, h, e => by
    have := ly_len U s
    have e' : (ly U s).length = 0 := by rw [← e]; rfl
    have : U.length = 0 := by simp at h; omega
    exact (List.length_eq_zero_iff.mp this).symm
  | some x :: t, [], s, h, e => by simp [ly] at e
  | some x :: t, some y :: u, s, h, e => by
    simp only [ly, List.cons.injEq, Pt.mk.injEq, true_and] at e
    rw [e.1, ly_inj t u s (by simpa using h) e.2]
  | some x :: t, none :: u, s, h, e => by
    exfalso
    have : (⟨(s : Int), x⟩ : Pt) ∈ ly u (s + 1) := by rw [show ly u (s + 1) = ly (some x :: t) s from e.symm]; simp [ly]
    have := ly_ge u (s + 1) _ this
    simp at this; omega
  | none :: t, [], s, h, e => by simp at h
  | none :: t, some y :: u, s, h, e => by
    exfalso
    have : (⟨(s : Int), y⟩ : Pt) ∈ ly t (s + 1) := by rw [show ly t (s + 1) = ly (some y :: u) s from e]; simp [ly]
    have := ly_ge t (s + 1) _ this
    simp at this; omega
  | none :: t, none :: u, s, h, e => by
    rw [ly_inj t u (s + 1) (by simpa using h) e]
theorem mov_beh {n : Nat} {A B : List Pt} {m : Int} (hA : okLay n A) (hB : okLay (n + A.length) B) (h0 : 0 ≤ m) (h1 : m ≤ (n : Int)) : movM (movM m A) B = movM m (behM n A B) := by
  have hb := mov_bd hA h0 h1
  obtain ⟨TA, TB, rfl, rfl, h2, rfl⟩ := two_ord hA hB
  have l1 := ly_len TA 0
  have e1 := mv_ly TA 0 m.toNat (by omega)
  have e2 : movM m (ly TA 0) = ((mv m.toNat TA : Nat) : Int) := by
    rw [e1]; unfold movM
    have e : ((0 + m.toNat : Nat) : Int) = m := by omega
    rw [e]; omega
  have e3 : ∀ (T : Or) (k : Nat), k ≤ nn T → movM ((k : Nat) : Int) (ly T 0) = ((mv k T : Nat) : Int) := by
    intro T k hk
    rw [mv_ly T 0 k hk]; unfold movM
    have e : ((0 + k : Nat) : Int) = (k : Int) := by omega
    rw [e]; omega
  have hm := mv_le TA m.toNat (by omega)
  obtain ⟨c1, c2⟩ := comp_nn TB TA h2
  rw [beh_ly TA TB h2, e2, e3 TB _ (by omega)]
  have e4 := e3 (comp TB TA) m.toNat (by omega)
  have : ((m.toNat : Nat) : Int) = m := by omega
  rw [this] at e4
  rw [e4, mv_comp TB TA m.toNat h2 (by omega)]
theorem sum_beh {n : Nat} {A B : List Pt} (f : Sk → Int) (hA : okLay n A) (hB : okLay (n + A.length) B) : ((behM n A B).map fun p => f p.s).sum = (A.map fun p => f p.s).sum + (B.map fun p => f p.s).sum := by
  obtain ⟨TA, TB, rfl, rfl, h2, rfl⟩ := two_ord hA hB
  rw [beh_ly TA TB h2, sum_ly, sum_ly, sum_ly, sum_comp f TB TA h2]
end PL
end
section
set_option Elab.async false
set_option linter.all false
set_option maxRecDepth 100000
set_option maxHeartbeats 1000000
namespace PL
open PySem PySem.Spec DL PM

def cov (x : Int) (s : Sk) : Bool := decide (s.lo ≤ x ∧ x ≤ s.hi)
def topGo (x : Int) : List Sk → Nat → Option Nat → Option Nat
  | [], _, acc => acc
  | s :: row, k, acc => topGo x row (k + 1) (if cov x s = true then some k else acc)
def topM (row : List Sk) (x : Int) : Option Nat := topGo x row 0 none
theorem topGo_snoc (x : Int) (s : Sk) : ∀ (row : List Sk) (k : Nat) (acc : Option Nat), topGo x (row ++ [s]) k acc = if cov x s = true then some (k + row.length) else topGo x row k acc
  | [], k, acc => by simp [topGo]
  | r :: row, k, acc => by
    show topGo x (row ++ [s]) (k + 1) _ = _
    rw [topGo_snoc x s row (k + 1)]
    simp only [topGo, List.length_cons]
    split
    · congr 1; omega
    · rfl
@[simp] theorem topM_nil (x : Int) : topM [] x = none := rfl
theorem topM_snoc (row : List Sk) (s : Sk) (x : Int) : topM (row ++ [s]) x = if cov x s = true then some row.length else topM row x := by
  rw [topM, topGo_snoc]; simp [topM]
theorem snoc_ind {α : Type} {P : List α → Prop} (h0 : P []) (hs : ∀ xs x, P xs → P (xs ++ [x])) : ∀ xs, P xs := by
  intro xs
  have : ∀ ys : List α, P ys.reverse := by
    intro ys
    induction ys with
    | nil => exact h0
    | cons y ys ih => rw [List.reverse_cons]; exact hs _ _ ih
  have h := this xs.reverse
  rwa [List.reverse_reverse] at h
theorem getD_app {α : Type} {xs ys : List α} {i : Nat} {d : α} (h : i < xs.length) : (xs ++ ys).getD i d = xs.getD i d := by
  rw [List.getD_eq_getElem?_getD, List.getD_eq_getElem?_getD, List.getElem?_append_left h]
theorem topM_some {row : List Sk} {x : Int} : ∀ {k : Nat}, topM row x = some k → k < row.length ∧ cov x (row.getD k sk0) = true ∧ ∀ j, k < j → j < row.length → cov x (row.getD j sk0) = false := by
  refine snoc_ind (P := fun row => ∀ {k : Nat}, topM row x = some k → k < row.length ∧ cov x (row.getD k sk0) = true ∧ ∀ j, k < j → j < row.length → cov x (row.getD j sk0) = false) ?_ (fun row s ih => ?_) row
  · intro k h; simp at h
  · intro k h
    rw [topM_snoc] at h
    split at h
    · rename_i c
      simp only [Option.some.injEq] at h
      subst h
      refine ⟨by simp, by simpa using c, fun j h1 h2 => by simp at h2; omega⟩
    · rename_i c
      obtain ⟨a, b, d⟩ := ih h
      refine ⟨by simp; omega, ?_, fun j h1 h2 => ?_⟩
      · rw [getD_app a]; exact b
      · simp at h2
        by_cases hj : j < row.length
        · rw [getD_app hj]; exact d j h1 hj
        · have : j = row.length := by omega
          subst this
          simpa using c
theorem topM_none {row : List Sk} {x : Int} : topM row x = none ↔ ∀ s ∈ row, cov x s = false := by
  refine snoc_ind (P := fun row => topM row x = none ↔ ∀ s ∈ row, cov x s = false) ?_ (fun row s ih => ?_) row
  · simp
  · rw [topM_snoc]
    split
    · rename_i c
      simp only [reduceCtorEq, List.mem_append, List.mem_singleton, false_iff]
      intro h
      have := h s (.inr rfl)
      rw [c] at this; cases this
    · rename_i c
      rw [ih]
      simp only [List.mem_append, List.mem_singleton]
      constructor
      · intro h r hr
        rcases hr with hr | rfl
        · exact h r hr
        · simpa using c
      · intro h r hr; exact h r (.inl hr)

def Cov : Int → Int → List (Pa α) → Prop
  | a, b, [] => a = b + 1
  | a, b, p :: ps => p.lo = a ∧ p.lo ≤ p.hi ∧ Cov (p.hi + 1) b ps
theorem Cov.le : ∀ {ps : List (Pa α)} {a b : Int}, Cov a b ps → a ≤ b + 1
  | [], _, _, h => Int.le_of_eq h
  | p :: ps, a, b, h => by
    have := Cov.le h.2.2
    have := h.1; have := h.2.1
    omega
theorem Cov.mem : ∀ {ps : List (Pa α)} {a b : Int}, Cov a b ps → ∀ p ∈ ps, a ≤ p.lo ∧ p.lo ≤ p.hi ∧ p.hi ≤ b
  | [], _, _, _, p, hp => by simp at hp
  | q :: ps, a, b, h, p, hp => by
    have h1 := h.1; have h2 := h.2.1; have h3 := h.2.2.le
    rcases List.mem_cons.mp hp with rfl | hp
    · omega
    · have := Cov.mem h.2.2 p hp
      omega
theorem Cov.at : ∀ {ps : List (Pa α)} {a b : Int}, Cov a b ps → ∀ x, a ≤ x → x ≤ b → ∃ p ∈ ps, p.lo ≤ x ∧ x ≤ p.hi
  | [], _, _, h, x, h1, h2 => by have : _ = _ := h; omega
  | q :: ps, a, b, h, x, h1, h2 => by
    by_cases c : x ≤ q.hi
    · exact ⟨q, by simp, by have := h.1; omega, c⟩
    · obtain ⟨p, hp, hx⟩ := Cov.at h.2.2 x (by omega) h2
      exact ⟨p, by simp [hp], hx⟩
theorem Cov.append : ∀ {ps qs : List (Pa α)} {a b c : Int}, Cov a b ps → Cov (b + 1) c qs → Cov a c (ps ++ qs)
  | [], qs, a, b, c, h, k => by have : a = b + 1 := h; subst this; exact k
  | p :: ps, qs, a, b, c, h, k => ⟨h.1, h.2.1, Cov.append h.2.2 k⟩
theorem Cov.map {α β : Type} (f : α → β) : ∀ {ps : List (Pa α)} {a b : Int}, Cov a b ps → Cov a b (ps.map (Pa.map f))
  | [], _, _, h => h
  | p :: ps, _, _, h => ⟨h.1, h.2.1, Cov.map f h.2.2⟩
structure Pic (a b : Int) (f : Int → α) (ps : List (Pa α)) : Prop where
  val : ∀ p ∈ ps, a ≤ p.lo ∧ p.lo ≤ p.hi ∧ p.hi ≤ b ∧ ∀ x, p.lo ≤ x → x ≤ p.hi → f x = p.v
  all : ∀ x, a ≤ x → x ≤ b → ∃ p ∈ ps, p.lo ≤ x ∧ x ≤ p.hi
theorem Pic.at {a b : Int} {f : Int → α} {ps : List (Pa α)} (h : Pic a b f ps) {x : Int} (h1 : a ≤ x) (h2 : x ≤ b) : ∃ p ∈ ps, p.lo ≤ x ∧ x ≤ p.hi ∧ p.v = f x := by
  obtain ⟨p, hp, h3, h4⟩ := h.all x h1 h2
  exact ⟨p, hp, h3, h4, ((h.val p hp).2.2.2 x h3 h4).symm⟩
theorem Pic.map {α β : Type} {a b : Int} {f : Int → α} {ps : List (Pa α)} (g : α → β) (h : Pic a b f ps) : Pic a b (fun x => g (f x)) (ps.map (Pa.map g)) := by
  refine ⟨fun p hp => ?_, fun x h1 h2 => ?_⟩
  · obtain ⟨q, hq, rfl⟩ := List.mem_map.mp hp
    obtain ⟨u1, u2, u3, u4⟩ := h.val q hq
    exact ⟨u1, u2, u3, fun x k1 k2 => congrArg g (u4 x k1 k2)⟩
  · obtain ⟨p, hp, k⟩ := h.all x h1 h2
    exact ⟨_, List.mem_map.mpr ⟨p, hp, rfl⟩, k⟩
theorem before_cov (c : Int) : ∀ {ps : List (Pa α)} {a b : Int}, Cov a b ps → a ≤ c → c ≤ b + 1 →
    Cov a (c - 1) ((ps.filter fun p => decide (p.lo < c)).map fun p => ⟨p.lo, if c - 1 < p.hi then c - 1 else p.hi, p.v⟩)
  | [], a, b, h, h1, h2 => by have : a = b + 1 := h; show a = c - 1 + 1; omega
  | p :: ps, a, b, h, h1, h2 => by
    have e1 := h.1
    by_cases d : p.lo < c
    · simp only [List.filter_cons, d, decide_true, if_true, List.map_cons]
      refine ⟨e1, ?_, ?_⟩
      · dsimp only; have := h.2.1; split <;> omega
      · dsimp only
        by_cases q : c - 1 < p.hi
        · have : ps.filter (fun p => decide (p.lo < c)) = [] := by
            rw [List.filter_eq_nil_iff]
            intro r hr
            have := (h.2.2.mem r hr).1
            simp; omega
          rw [this, if_pos q]
          show c - 1 + 1 = c - 1 + 1
          rfl
        · rw [if_neg q]
          exact before_cov c h.2.2 (by omega) h2
    · have : ps.filter (fun p => decide (p.lo < c)) = [] := by
        rw [List.filter_eq_nil_iff]
        intro r hr
        have := (h.2.2.mem r hr).1
        have := h.2.1
        simp; omega
      simp only [List.filter_cons, d, decide_false, Bool.false_eq_true, if_false, this, List.map_nil]
      show a = c - 1 + 1
      omega
theorem behind_id (c : Int) : ∀ {ps : List (Pa α)} {a b : Int}, Cov a b ps → c + 1 ≤ a → (ps.filter fun p => decide (p.hi > c)).map (fun p => (⟨if c + 1 > p.lo then c + 1 else p.lo, p.hi, p.v⟩ : Pa α)) = ps
  | [], _, _, _, _ => rfl
  | p :: ps, a, b, h, h1 => by
    have e1 := h.1; have e2 := h.2.1
    have d : p.hi > c := by omega
    simp only [List.filter_cons, d, decide_true, if_true, List.map_cons]
    rw [behind_id c h.2.2 (by omega), if_neg (by omega)]
theorem behind_cov (c : Int) : ∀ {ps : List (Pa α)} {a b : Int}, Cov a b ps → a ≤ c + 1 → c ≤ b →
    Cov (c + 1) b ((ps.filter fun p => decide (p.hi > c)).map fun p => ⟨if c + 1 > p.lo then c + 1 else p.lo, p.hi, p.v⟩)
  | [], a, b, h, h1, h2 => by have : a = b + 1 := h; show c + 1 = b + 1; omega
  | p :: ps, a, b, h, h1, h2 => by
    have e1 := h.1; have e2 := h.2.1
    by_cases d : p.hi > c
    · simp only [List.filter_cons, d, decide_true, if_true, List.map_cons]
      rw [behind_id c h.2.2 (by omega)]
      refine ⟨?_, ?_, h.2.2⟩
      · dsimp only; split <;> omega
      · dsimp only; split <;> omega
    · simp only [List.filter_cons, d, decide_false, Bool.false_eq_true, if_false]
      exact behind_cov c h.2.2 (by omega) h2
theorem laidOver_cov {ps : List (Pa α)} {a b lo hi : Int} {g : α} (h : Cov a b ps) (h1 : a ≤ lo) (h2 : lo ≤ hi) (h3 : hi ≤ b) : Cov a b (laidOver ps lo hi g) := by
  unfold laidOver
  refine Cov.append (Cov.append (before_cov lo h h1 (by omega)) ?_) (behind_cov hi h (by omega) h3)
  exact ⟨by dsimp only; omega, h2, by show hi + 1 = hi + 1; rfl⟩
theorem laidOver_val {ps : List (Pa α)} {a b lo hi : Int} {g : α} {f : Int → α} (h : ∀ p ∈ ps, ∀ x, p.lo ≤ x → x ≤ p.hi → f x = p.v) :
    ∀ p ∈ laidOver ps lo hi g, ∀ x, p.lo ≤ x → x ≤ p.hi → (if lo ≤ x ∧ x ≤ hi then g else f x) = p.v := by
  intro p hp x h1 h2
  unfold laidOver at hp
  simp only [List.mem_append, List.mem_map, List.mem_filter, List.mem_singleton] at hp
  rcases hp with (⟨q, ⟨hq, c⟩, rfl⟩ | rfl) | ⟨q, ⟨hq, c⟩, rfl⟩
  · dsimp only at h1 h2 ⊢
    rw [if_neg (by split at h2 <;> omega)]
    exact h q hq x h1 (by split at h2 <;> omega)
  · rw [if_pos ⟨h1, h2⟩]
  · dsimp only at h1 h2 ⊢
    rw [if_neg (by split at h1 <;> omega)]
    exact h q hq x (by split at h1 <;> omega) h2
theorem paintGo_ok : ∀ (row : List Sk) (k : Nat) (ps : List (Pa (Option Nat))) (f : Int → Option Nat), (∀ s ∈ row, 0 ≤ s.lo ∧ s.lo ≤ s.hi ∧ s.hi ≤ LASTI) → Cov 0 LASTI ps → (∀ p ∈ ps, ∀ x, p.lo ≤ x → x ≤ p.hi → f x = p.v) →
    Cov 0 LASTI (paintGo row k ps) ∧ ∀ p ∈ paintGo row k ps, ∀ x, p.lo ≤ x → x ≤ p.hi → topGo x row k (f x) = p.v
  | [], _, _, _, _, h, hv => ⟨h, hv⟩
  | s :: row, k, ps, f, hs, h, hv => by
    have h0 := hs s (by simp)
    have := paintGo_ok row (k + 1) (laidOver ps s.lo s.hi (some k)) (fun x => if s.lo ≤ x ∧ x ≤ s.hi then some k else f x) (fun r hr => hs r (by simp [hr])) (laidOver_cov h h0.1 h0.2.1 h0.2.2) (laidOver_val (a := 0) (b := 0) hv)
    simpa [paintGo, topGo, cov] using this
theorem Sk.ok.sp {s : Sk} (h : s.ok) : 0 ≤ s.lo ∧ s.lo ≤ s.hi ∧ s.hi ≤ LASTI := ⟨h.1, h.2.1, h.2.2.1⟩
theorem paint_cov {row : List Sk} (h : ∀ s ∈ row, s.ok) : Cov 0 LASTI (paintM row) := (paintGo_ok row 0 _ (fun _ => none) (fun s hs => (h s hs).sp) (by simp [Cov, LASTI]) (by simp)).1
theorem paint_pic {row : List Sk} (h : ∀ s ∈ row, s.ok) : Pic 0 LASTI (topM row) (paintM row) := by
  obtain ⟨a, b⟩ := paintGo_ok row 0 [⟨0, LASTI, none⟩] (fun _ => none) (fun s hs => (h s hs).sp) (by simp [Cov, LASTI]) (by simp)
  exact ⟨fun p hp => let m := a.mem p hp; ⟨m.1, m.2.1, m.2.2, fun x h1 h2 => b p hp x h1 h2⟩, a.at⟩
theorem laidOver_len (ps : List (Pa α)) (lo hi : Int) (g : α) : (laidOver ps lo hi g).length ≤ 2 * ps.length + 1 := by
  unfold laidOver
  have h1 := List.length_filter_le (fun p : Pa α => decide (p.lo < lo)) ps
  have h2 := List.length_filter_le (fun p : Pa α => decide (p.hi > hi)) ps
  simp only [List.length_append, List.length_map, List.length_cons, List.length_nil]
  omega
theorem filter_split (c : Int) : ∀ {ps : List (Pa α)} {a b : Int} (d : Int), Cov a b ps → c ≤ d + 1 → (ps.filter fun p => decide (p.lo < c)).length + (ps.filter fun p => decide (p.hi > d)).length ≤ ps.length + 1
  | [], _, _, _, _, _ => by simp
  | p :: ps, a, b, d, h, hc => by
    by_cases q : p.hi > d
    · have e : ps.filter (fun p => decide (p.lo < c)) = [] := by
        rw [List.filter_eq_nil_iff]
        intro r hr
        have := (h.2.2.mem r hr).1
        simp; omega
      have h3 := List.length_filter_le (fun p : Pa α => decide (p.hi > d)) ps
      simp only [List.filter_cons, q, decide_true, if_true, e, List.length_cons]
      split
      · simp only [List.length_cons, List.length_nil]; omega
      · simp only [List.length_nil]; omega
    · have ih := filter_split c d h.2.2 hc
      simp only [List.filter_cons, q, decide_false, Bool.false_eq_true, if_false, List.length_cons]
      split
      · simp only [List.length_cons]; omega
      · omega
theorem laidOver_len2 {ps : List (Pa α)} {a b lo hi : Int} {g : α} (h : Cov a b ps) (hl : lo ≤ hi) : (laidOver ps lo hi g).length ≤ ps.length + 2 := by
  have := filter_split lo hi h (by omega)
  unfold laidOver
  simp only [List.length_append, List.length_map, List.length_cons, List.length_nil]
  omega
theorem paintGo_len : ∀ (row : List Sk) (k : Nat) (ps : List (Pa (Option Nat))), (∀ s ∈ row, 0 ≤ s.lo ∧ s.lo ≤ s.hi ∧ s.hi ≤ LASTI) → Cov 0 LASTI ps → (paintGo row k ps).length ≤ ps.length + 2 * row.length
  | [], _, _, _, _ => by simp [paintGo]
  | s :: row, k, ps, hs, h => by
    have h0 := hs s (by simp)
    have h1 := paintGo_len row (k + 1) (laidOver ps s.lo s.hi (some k)) (fun r hr => hs r (by simp [hr])) (laidOver_cov h h0.1 h0.2.1 h0.2.2)
    have h2 := laidOver_len2 (g := some k) h h0.2.1
    simp only [paintGo, List.length_cons]
    omega
theorem paint_len {row : List Sk} (h : ∀ s ∈ row, s.ok) : (paintM row).length ≤ 2 * row.length + 1 := by
  have := paintGo_len row 0 [⟨0, LASTI, none⟩] (fun s hs => (h s hs).sp) (by simp [Cov, LASTI])
  simp at this
  unfold paintM; omega

def Alt : List (Pa α) → Prop
  | [] => True
  | [_] => True
  | p :: q :: r => p.v ≠ q.v ∧ Alt (q :: r)
theorem Alt.tail {p : Pa α} {ps : List (Pa α)} (h : Alt (p :: ps)) : Alt ps := by
  cases ps with
  | nil => trivial
  | cons q r => exact h.2
theorem alt_snoc {α : Type} : ∀ {ps : List (Pa α)} {q p : Pa α}, Alt (ps ++ [q]) → q.v ≠ p.v → Alt (ps ++ [q] ++ [p])
  | [], q, p, _, h => ⟨h, trivial⟩
  | [a], q, p, k, h => ⟨k.1, h, trivial⟩
  | a :: b :: r, q, p, k, h => ⟨k.1, alt_snoc (ps := b :: r) k.2 h⟩
theorem alt_last {α : Type} : ∀ {ps : List (Pa α)} {q r : Pa α}, Alt (ps ++ [q]) → r.v = q.v → Alt (ps ++ [r])
  | [], _, _, _, _ => trivial
  | [a], q, r, k, h => ⟨by rw [h]; exact k.1, trivial⟩
  | a :: b :: s, q, r, k, h => ⟨k.1, alt_last (ps := b :: s) k.2 h⟩
theorem cov_snoc {α : Type} : ∀ {ps : List (Pa α)} {q : Pa α} {a b : Int}, Cov a b (ps ++ [q]) ↔ Cov a (q.lo - 1) ps ∧ q.lo ≤ q.hi ∧ q.hi = b
  | [], q, a, b => by simp [Cov]; omega
  | p :: ps, q, a, b => by
    show (_ ∧ _ ∧ Cov _ _ (ps ++ [q])) ↔ (_ ∧ _ ∧ Cov _ _ ps) ∧ _
    rw [cov_snoc, and_assoc, and_assoc]
theorem plast_split {α : Type} {xs : List α} {q : α} (h : xs.getLast? = some q) : xs = xs.dropLast ++ [q] := PM.last_split h
theorem mergeStep_ok [DecidableEq α] {found : List (Pa α)} {p : Pa α} {a b : Int} {f : Int → α} (hc : Cov a b found) (ha : Alt found) (hv : ∀ p ∈ found, ∀ x, p.lo ≤ x → x ≤ p.hi → f x = p.v) (h1 : p.lo = b + 1) (h2 : p.lo ≤ p.hi) (h3 : ∀ x, p.lo ≤ x → x ≤ p.hi → f x = p.v) :
    Cov a p.hi (mergeStep found p) ∧ Alt (mergeStep found p) ∧ ∀ q ∈ mergeStep found p, ∀ x, q.lo ≤ x → x ≤ q.hi → f x = q.v := by
  unfold mergeStep
  cases h : found.getLast? with
  | none =>
    have : found = [] := by simpa using h
    subst this
    have e : a = b + 1 := hc
    refine ⟨⟨by omega, h2, rfl⟩, trivial, fun q hq x => ?_⟩
    simp at hq; subst hq; exact h3 x
  | some q =>
    have e := plast_split h
    generalize found.dropLast = init at *
    subst e
    obtain ⟨c1, c2, c3⟩ := cov_snoc.mp hc
    dsimp only
    split
    · rename_i c
      refine ⟨cov_snoc.mpr ⟨c1, by dsimp only; omega, rfl⟩, alt_last ha c.2.symm, fun r hr x k1 k2 => ?_⟩
      rcases List.mem_append.mp hr with hr | hr
      · exact hv r (by simp [hr]) x k1 k2
      · simp at hr; subst hr
        dsimp only at k1 k2 ⊢
        by_cases hx : x ≤ q.hi
        · rw [← c.2]; exact hv q (by simp) x k1 hx
        · exact h3 x (by omega) k2
    · rename_i c
      have hne : q.v ≠ p.v := fun z => c ⟨by omega, z⟩
      refine ⟨cov_snoc.mpr ⟨by have : p.lo - 1 = b := by omega
                               rw [this]; exact hc, h2, rfl⟩, alt_snoc ha hne, fun r hr x => ?_⟩
      rcases List.mem_append.mp hr with hr | hr
      · exact hv r hr x
      · simp at hr; subst hr; exact h3 x
theorem mergeGo_ok [DecidableEq α] {a : Int} {f : Int → α} : ∀ (ps found : List (Pa α)) (b c : Int), Cov a b found → Alt found → (∀ p ∈ found, ∀ x, p.lo ≤ x → x ≤ p.hi → f x = p.v) → Cov (b + 1) c ps → (∀ p ∈ ps, ∀ x, p.lo ≤ x → x ≤ p.hi → f x = p.v) →
    Cov a c (ps.foldl mergeStep found) ∧ Alt (ps.foldl mergeStep found) ∧ ∀ q ∈ ps.foldl mergeStep found, ∀ x, q.lo ≤ x → x ≤ q.hi → f x = q.v
  | [], found, b, c, h1, h2, h3, h4, _ => by
    have : b + 1 = c + 1 := h4
    have : b = c := by omega
    subst this
    exact ⟨h1, h2, h3⟩
  | p :: ps, found, b, c, h1, h2, h3, h4, h5 => by
    obtain ⟨a1, a2, a3⟩ := mergeStep_ok h1 h2 h3 h4.1 h4.2.1 (h5 p (by simp))
    exact mergeGo_ok ps (mergeStep found p) p.hi c a1 a2 a3 h4.2.2 fun q hq => h5 q (by simp [hq])
structure Canon (a b : Int) (f : Int → α) (ps : List (Pa α)) : Prop where
  cov : Cov a b ps
  alt : Alt ps
  val : ∀ p ∈ ps, ∀ x, p.lo ≤ x → x ≤ p.hi → f x = p.v
theorem merge_ok [DecidableEq α] {a b : Int} {f : Int → α} {ps : List (Pa α)} (h : Cov a b ps) (hv : ∀ p ∈ ps, ∀ x, p.lo ≤ x → x ≤ p.hi → f x = p.v) : Canon a b f (mergeM ps) := by
  have ea : a - 1 + 1 = a := by omega
  obtain ⟨c1, c2, c3⟩ := mergeGo_ok (f := f) ps [] (a - 1) b (by show a = a - 1 + 1; omega) trivial (by simp) (by rw [ea]; exact h) hv
  exact ⟨c1, c2, c3⟩
theorem Canon.pic {a b : Int} {f : Int → α} {ps : List (Pa α)} (h : Canon a b f ps) : Pic a b f ps := ⟨fun p hp => let m := h.cov.mem p hp; ⟨m.1, m.2.1, m.2.2, h.val p hp⟩, h.cov.at⟩
theorem Canon.eq {b : Int} {f : Int → α} : ∀ {ps qs : List (Pa α)} {a : Int}, Canon a b f ps → Canon a b f qs → ps = qs
  | [], [], _, _, _ => rfl
  | [], q :: qs, a, h, k => by
    have e1 : a = b + 1 := h.cov
    have := k.cov.2.2.le
    have := k.cov.1; have := k.cov.2.1
    omega
  | p :: ps, [], a, h, k => by
    have e1 : a = b + 1 := k.cov
    have := h.cov.2.2.le
    have := h.cov.1; have := h.cov.2.1
    omega
  | p :: ps, q :: qs, a, h, k => by
    obtain ⟨h1, h2, h3⟩ := h.cov
    obtain ⟨k1, k2, k3⟩ := k.cov
    have ev : p.v = q.v := by
      rw [← h.val p (by simp) a (by omega) (by omega), ← k.val q (by simp) a (by omega) (by omega)]
    have eh : p.hi = q.hi := by
      rcases Int.lt_trichotomy p.hi q.hi with c | c | c
      · exfalso
        cases ps with
        | nil =>
          have e : p.hi + 1 = b + 1 := h3
          have := k3.le
          omega
        | cons r ps =>
          have e1 := h3.1
          have e2 := h3.2.1
          have a1 := h.val r (by simp) (p.hi + 1) (by omega) (by omega)
          have a2 := k.val q (by simp) (p.hi + 1) (by omega) (by omega)
          exact h.alt.1 (by rw [ev, ← a1, ← a2])
      · exact c
      · exfalso
        cases qs with
        | nil =>
          have e : q.hi + 1 = b + 1 := k3
          have := h3.le
          omega
        | cons r qs =>
          have e1 := k3.1
          have e2 := k3.2.1
          have a1 := k.val r (by simp) (q.hi + 1) (by omega) (by omega)
          have a2 := h.val p (by simp) (q.hi + 1) (by omega) (by omega)
          exact k.alt.1 (by rw [← ev, ← a1, ← a2])
    have e : p = q := by
      obtain ⟨p1, p2, p3⟩ := p
      obtain ⟨q1, q2, q3⟩ := q
      simp only at ev eh h1 k1
      subst ev; subst eh; subst h1; subst k1
      rfl
    subst e
    congr 1
    exact Canon.eq (a := p.hi + 1) ⟨h3, h.alt.tail, fun r hr => h.val r (by simp [hr])⟩ ⟨k3, k.alt.tail, fun r hr => k.val r (by simp [hr])⟩
theorem colours_ok {row : List Sk} (h : ∀ s ∈ row, s.ok) : Canon 0 LASTI (fun x => colAt row (topM row x)) (coloursM row) := by
  have hp := paint_pic h
  refine merge_ok ((paint_cov h).map _) fun p hm x h1 h2 => ?_
  obtain ⟨q, hq, rfl⟩ := List.mem_map.mp hm
  show _ = colAt row q.v
  rw [(hp.val q hq).2.2.2 x h1 h2]
theorem mergeStep_len [DecidableEq α] (found : List (Pa α)) (p : Pa α) : (mergeStep found p).length ≤ found.length + 1 := by
  unfold mergeStep
  split
  · rename_i q h
    split
    · rw [plast_split h]; simp
    · simp
  · simp
theorem mergeGo_len [DecidableEq α] : ∀ (ps found : List (Pa α)), (ps.foldl mergeStep found).length ≤ found.length + ps.length
  | [], _ => by simp
  | p :: ps, found => by
    have h1 := mergeGo_len ps (mergeStep found p)
    have h2 := mergeStep_len found p
    simp only [List.foldl_cons, List.length_cons] at *
    omega
theorem merge_len [DecidableEq α] (ps : List (Pa α)) : (mergeM ps).length ≤ ps.length := by
  have := mergeGo_len ps []
  simpa [mergeM] using this
theorem merge_map {α β : Type} [DecidableEq α] [DecidableEq β] (f : α → β) (hf : ∀ a b, f a = f b → a = b) : ∀ (ps found : List (Pa α)), (ps.map (Pa.map f)).foldl mergeStep (found.map (Pa.map f)) = (ps.foldl mergeStep found).map (Pa.map f)
  | [], found => rfl
  | p :: ps, found => by
    have e : mergeStep (found.map (Pa.map f)) (p.map f) = (mergeStep found p).map (Pa.map f) := by
      unfold mergeStep
      rw [List.getLast?_map]
      cases found.getLast? with
      | none => rfl
      | some q =>
        by_cases c : q.hi + 1 = p.lo ∧ q.v = p.v
        · refine Eq.trans (if_pos ⟨c.1, congrArg f c.2⟩) ?_
          show _ = List.map (Pa.map f) (if q.hi + 1 = p.lo ∧ q.v = p.v then found.dropLast ++ [⟨q.lo, p.hi, p.v⟩] else found ++ [p])
          rw [if_pos c, List.map_append, ← List.map_dropLast]
          rfl
        · refine Eq.trans (if_neg fun z => c ⟨z.1, hf _ _ z.2⟩) ?_
          show _ = List.map (Pa.map f) (if q.hi + 1 = p.lo ∧ q.v = p.v then found.dropLast ++ [⟨q.lo, p.hi, p.v⟩] else found ++ [p])
          rw [if_neg c, List.map_append]
          rfl
    rw [List.map_cons, List.foldl_cons, e, List.foldl_cons]
    exact merge_map f hf ps (mergeStep found p)

theorem clip_pic {f : Int → α} {ps : List (Pa α)} {a b A B : Int} (h : Pic A B f ps) (ha : A ≤ a) (hab : a ≤ b) (hb : b ≤ B) : Pic a b f (clipM ps a b) := by
  unfold clipM
  refine ⟨fun p hp => ?_, fun x h1 h2 => ?_⟩
  · obtain ⟨q, hq, rfl⟩ := List.mem_map.mp hp
    rw [List.mem_filter] at hq
    obtain ⟨hq, c⟩ := hq
    simp only [decide_eq_true_eq] at c
    obtain ⟨u1, u2, u3, u4⟩ := h.val q hq
    dsimp only
    refine ⟨by split <;> omega, by split <;> split <;> omega, by split <;> omega, fun x k1 k2 => u4 x (by split at k1 <;> omega) (by split at k2 <;> omega)⟩
  · obtain ⟨p, hp, k1, k2⟩ := h.all x (by omega) (by omega)
    refine ⟨_, List.mem_map.mpr ⟨p, List.mem_filter.mpr ⟨hp, by simp; omega⟩, rfl⟩, ?_⟩
    dsimp only
    constructor <;> split <;> omega
theorem clip_len (ps : List (Pa α)) (a b : Int) : (clipM ps a b).length ≤ ps.length := by
  unfold clipM; rw [List.length_map]; exact List.length_filter_le _ _
theorem take_ok {row : List Sk} (h : ∀ s ∈ row, s.ok) (m : Nat) : ∀ s ∈ row.take m, s.ok := fun s hs => h s (List.mem_of_mem_take hs)
theorem shown_pic {row : List Sk} {k : Lk} (h : ∀ s ∈ row, s.ok) (hk : k.ok n) : Pic k.a k.b (topM (row.take k.m)) (shownM row k) :=
  clip_pic (paint_pic (take_ok h k.m)) hk.2.1 hk.2.2.1 hk.2.2.2
theorem beneath_mem {f : Int → Option Nat} {ps : List (Pa (Option Nat))} {a b slot : Int} (h : Pic a b f ps) (x : Int) : inR (beneathM ps slot) x ↔ a ≤ x ∧ x ≤ b ∧ under slot (f x) = true := by
  unfold beneathM
  constructor
  · rintro ⟨p, hp, hx⟩
    obtain ⟨q, hq, rfl⟩ := List.mem_map.mp hp
    rw [List.mem_filter] at hq
    obtain ⟨u1, u2, u3, u4⟩ := h.val q hq.1
    have h1 : q.lo ≤ x := hx.1
    have h2 : x ≤ q.hi := hx.2
    rw [u4 x h1 h2]
    exact ⟨by omega, by omega, hq.2⟩
  · rintro ⟨h1, h2, h3⟩
    obtain ⟨p, hp, k1, k2, k3⟩ := h.at h1 h2
    exact ⟨_, List.mem_map.mpr ⟨p, List.mem_filter.mpr ⟨hp, by rw [k3]; exact h3⟩, rfl⟩, k1, k2⟩
theorem beneath_ok {f : Int → Option Nat} {ps : List (Pa (Option Nat))} {a b slot : Int} (h : Pic a b f ps) (ha : 0 ≤ a) (hb : b ≤ LASTP) : ∀ p ∈ beneathM ps slot, okW p := by
  intro p hp
  obtain ⟨q, hq, rfl⟩ := List.mem_map.mp hp
  rw [List.mem_filter] at hq
  obtain ⟨u1, u2, u3, u4⟩ := h.val q hq.1
  exact ⟨by show 0 ≤ q.lo; omega, u2, by show q.hi ≤ LASTP; omega⟩
theorem unlikeL_mem [DecidableEq α] (ps qs : List (Pa α)) (x : Int) : inR (unlikeL ps qs) x ↔ ∃ p ∈ ps, ∃ q ∈ qs, p.lo ≤ x ∧ x ≤ p.hi ∧ q.lo ≤ x ∧ x ≤ q.hi ∧ p.v ≠ q.v := by
  unfold unlikeL
  constructor
  · rintro ⟨r, hr, hx⟩
    obtain ⟨p, hp, hr⟩ := List.mem_flatMap.mp hr
    obtain ⟨q, hq, rfl⟩ := List.mem_map.mp hr
    rw [List.mem_filter] at hq
    simp only [decide_eq_true_eq] at hq
    have h1 := hx.1
    have h2 := hx.2
    dsimp only at h1 h2
    exact ⟨p, hp, q, hq.1, by split at h1 <;> omega, by split at h2 <;> omega, by split at h1 <;> omega, by split at h2 <;> omega, hq.2.1⟩
  · rintro ⟨p, hp, q, hq, h1, h2, h3, h4, h5⟩
    refine ⟨_, List.mem_flatMap.mpr ⟨p, hp, List.mem_map.mpr ⟨q, List.mem_filter.mpr ⟨hq, ?_⟩, rfl⟩⟩, ?_⟩
    · simp only [decide_eq_true_eq]
      exact ⟨h5, by split <;> split <;> omega⟩
    · exact ⟨by dsimp only; split <;> omega, by dsimp only; split <;> omega⟩
theorem unlikeL_ok [DecidableEq α] {ps qs : List (Pa α)} (h : ∀ p ∈ ps, 0 ≤ p.lo ∧ p.hi ≤ LASTP) : ∀ r ∈ unlikeL ps qs, okW r := by
  intro r hr
  obtain ⟨p, hp, hr⟩ := List.mem_flatMap.mp hr
  obtain ⟨q, hq, rfl⟩ := List.mem_map.mp hr
  rw [List.mem_filter] at hq
  simp only [decide_eq_true_eq] at hq
  have := h p hp
  refine ⟨?_, hq.2.2, ?_⟩
  · dsimp only; split <;> omega
  · dsimp only; split <;> omega
theorem unlikeL_len [DecidableEq α] (ps qs : List (Pa α)) : (unlikeL ps qs).length ≤ ps.length * qs.length := by
  unfold unlikeL
  induction ps with
  | nil => simp
  | cons p ps ih =>
    rw [List.flatMap_cons, List.length_append, List.length_cons, Nat.add_mul, Nat.one_mul, List.length_map]
    have := List.length_filter_le (fun q : Pa α => decide (p.v ≠ q.v ∧ (if q.lo > p.lo then q.lo else p.lo) ≤ (if q.hi < p.hi then q.hi else p.hi))) qs
    omega
theorem unlike_map {α β : Type} [DecidableEq α] [DecidableEq β] (f : α → β) (hf : ∀ a b, f a = f b → a = b) (ps qs : List (Pa α)) : unlikeL (ps.map (Pa.map f)) (qs.map (Pa.map f)) = unlikeL ps qs := by
  unfold unlikeL
  rw [List.flatMap_map]
  refine congrArg (fun g => List.flatMap g ps) ?_
  funext p
  rw [List.filter_map, List.map_map]
  congr 1
  refine congrArg (fun g => List.filter g qs) ?_
  funext q
  refine decide_eq_decide.mpr ?_
  show (f p.v ≠ f q.v ∧ _) ↔ (p.v ≠ q.v ∧ _)
  constructor
  · rintro ⟨h1, h2⟩; exact ⟨fun z => h1 (congrArg f z), h2⟩
  · rintro ⟨h1, h2⟩; exact ⟨fun z => h1 (hf _ _ z), h2⟩
end PL
end
section
set_option Elab.async false
set_option linter.all false
set_option maxRecDepth 100000
set_option maxHeartbeats 1000000
namespace PL
open PySem PySem.Spec DL PM

theorem nn_app (U V : List (Option α)) : nn (U ++ V) = nn U + nn V := by simp [nn]
theorem ly_app : ∀ (U V : Or) (s : Nat), ly (U ++ V) s = ly U s ++ ly V (s + nn U)
  | [], V, s => by simp [ly]
  | some x :: U, V, s => by simp only [List.cons_append, ly, nn_some, ly_app U V s]
  | none :: U, V, s => by
    simp only [List.cons_append, ly, nn_none, ly_app U V (s + 1)]
    congr 2; omega
theorem idx_app : ∀ (U V : Or) (j e : Nat), idx (U ++ V) j e = idx U j e ++ idx V (j + (ly U 0).length) (e + nn U)
  | [], V, j, e => by simp [idx, ly]
  | some x :: U, V, j, e => by
    simp only [List.cons_append, idx, nn_some, ly, List.length_cons, idx_app U V (j + 1) e]
    congr 3; omega
  | none :: U, V, j, e => by
    have : (ly U 1).length = (ly U 0).length := by
      have a := ly_len U 0; have b := ly_len U 1; omega
    simp only [List.cons_append, idx, nn_none, ly, idx_app U V j (e + 1), this]
    congr 3; omega
theorem fill_app {α : Type} : ∀ (U V : List (Option α)) (r q : List α), nn U = r.length → fill (U ++ V) (r ++ q) = fill U r ++ fill V q
  | [], V, r, q, h => by
    have : r = [] := List.length_eq_zero_iff.mp h.symm
    subst this; rfl
  | some x :: U, V, r, q, h => by
    simp only [List.cons_append, fill, fill_app U V r q (by simpa using h)]
  | none :: U, V, [], q, h => by simp at h
  | none :: U, V, a :: r, q, h => by
    simp only [List.cons_append, fill, fill_app U V r q (by simpa using h)]
theorem pos_app : ∀ (U V : Or) (k : Nat), posN k (U ++ V) = posN k U ++ posN (k + U.length) V
  | [], V, k => by simp [posN]
  | some x :: U, V, k => by
    simp only [List.cons_append, posN, List.length_cons, pos_app U V (k + 1)]
    congr 2; omega
  | none :: U, V, k => by
    simp only [List.cons_append, posN, List.length_cons, pos_app U V (k + 1)]
    congr 3; omega
theorem len_or (U : Or) : U.length = (ly U 0).length + nn U := by have := ly_len U 0; omega

def cand (L : List Pt) (g : Option Nat) (x : Int) (j : Nat) : Prop := ∃ p, L[j]? = some p ∧ cov x p.s = true ∧ under p.slot g = true
theorem top_lt {row : List Sk} {x : Int} {g : Nat} (h : topM row x = some g) : g < row.length := (topM_some h).1
theorem seen_core (x : Int) : ∀ (U : Or) (row : List Sk), nn U = row.length →
    (∃ k j, topM (fill U row) x = some k ∧ (idx U 0 0)[k]? = some (true, j) ∧ cand (ly U 0) (topM row x) x j ∧ ∀ i, j < i → ¬ cand (ly U 0) (topM row x) x i) ∨
    (∃ k g, topM (fill U row) x = some k ∧ (idx U 0 0)[k]? = some (false, g) ∧ topM row x = some g ∧ ∀ i, ¬ cand (ly U 0) (topM row x) x i) ∨
    (topM (fill U row) x = none ∧ topM row x = none ∧ ∀ i, ¬ cand (ly U 0) (topM row x) x i) := by
  intro U
  refine snoc_ind (P := fun U => ∀ (row : List Sk), nn U = row.length →
    (∃ k j, topM (fill U row) x = some k ∧ (idx U 0 0)[k]? = some (true, j) ∧ cand (ly U 0) (topM row x) x j ∧ ∀ i, j < i → ¬ cand (ly U 0) (topM row x) x i) ∨
    (∃ k g, topM (fill U row) x = some k ∧ (idx U 0 0)[k]? = some (false, g) ∧ topM row x = some g ∧ ∀ i, ¬ cand (ly U 0) (topM row x) x i) ∨
    (topM (fill U row) x = none ∧ topM row x = none ∧ ∀ i, ¬ cand (ly U 0) (topM row x) x i)) ?_ (fun U a ih => ?_) U
  · intro row h
    have : row = [] := List.length_eq_zero_iff.mp h.symm
    subst this
    exact .inr (.inr ⟨rfl, rfl, fun i ⟨p, e, _⟩ => by simp [ly] at e⟩)
  · intro row h
    rw [nn_app] at h
    have hU : (fill U (row.take (nn U))).length = U.length := fill_len U _ (by simp; omega)
    cases a with
    | some s =>
      have hr : nn U = row.length := by simpa using h
      have e1 : fill (U ++ [some s]) row = fill U row ++ [s] := by
        have := fill_app U [some s] row [] hr
        simpa [fill] using this
      have e2 : ly (U ++ [some s]) 0 = ly U 0 ++ [⟨(nn U : Nat), s⟩] := by rw [ly_app]; simp [ly]
      have e3 : idx (U ++ [some s]) 0 0 = idx U 0 0 ++ [(true, (ly U 0).length)] := by rw [idx_app]; simp [idx]
      have hl : (fill U row).length = U.length := fill_len U row hr
      rw [e1, e2, e3, topM_snoc]
      have cnew : cand (ly U 0 ++ [⟨(nn U : Nat), s⟩]) (topM row x) x (ly U 0).length ↔ cov x s = true := by
        constructor
        · rintro ⟨p, e, c, _⟩
          simp at e; subst e; exact c
        · intro c
          refine ⟨_, by simp; rfl, c, ?_⟩
          cases q : topM row x with
          | none => rfl
          | some g => have := top_lt q; simp [under]; omega
      have cold : ∀ i, i < (ly U 0).length → (cand (ly U 0 ++ [⟨(nn U : Nat), s⟩]) (topM row x) x i ↔ cand (ly U 0) (topM row x) x i) := fun i hi => by
        unfold cand; rw [List.getElem?_append_left hi]
      have cbig : ∀ i, (ly U 0).length < i → ¬ cand (ly U 0 ++ [⟨(nn U : Nat), s⟩]) (topM row x) x i := fun i hi ⟨p, e, _⟩ => by
        rw [List.getElem?_eq_none (by simp; omega)] at e; cases e
      by_cases c : cov x s = true
      · refine .inl ⟨(fill U row).length, (ly U 0).length, if_pos c, ?_, cnew.mpr c, cbig⟩
        rw [hl, List.getElem?_append_right (by rw [idx_len]; exact Nat.le_refl _), idx_len]; simp
      · rw [if_neg c]
        have cany : ∀ i, cand (ly U 0 ++ [⟨(nn U : Nat), s⟩]) (topM row x) x i ↔ cand (ly U 0) (topM row x) x i := fun i => by
          by_cases h1 : i < (ly U 0).length
          · exact cold i h1
          · constructor
            · intro k
              by_cases h2 : i = (ly U 0).length
              · subst h2; exact absurd (cnew.mp k) c
              · exact absurd k (cbig i (by omega))
            · rintro ⟨p, e, _⟩
              rw [List.getElem?_eq_none (by omega)] at e; cases e
        have cidx : ∀ k t, topM (fill U row) x = some k → (idx U 0 0)[k]? = some t → (idx U 0 0 ++ [(true, (ly U 0).length)])[k]? = some t := fun k t h1 h2 => by
          have := top_lt h1
          rw [List.getElem?_append_left (by rw [idx_len]; omega)]; exact h2
        rcases ih row hr with ⟨k, j, a1, a2, a3, a4⟩ | ⟨k, g, a1, a2, a3, a4⟩ | ⟨a1, a2, a3⟩
        · exact .inl ⟨k, j, a1, cidx k _ a1 a2, (cany j).mpr a3, fun i hi z => a4 i hi ((cany i).mp z)⟩
        · exact .inr (.inl ⟨k, g, a1, cidx k _ a1 a2, a3, fun i z => a4 i ((cany i).mp z)⟩)
        · exact .inr (.inr ⟨a1, a2, fun i z => a3 i ((cany i).mp z)⟩)
    | none =>
      have hr : nn U + 1 = row.length := by simpa using h
      obtain ⟨r, e, hr', rfl⟩ : ∃ (r : List Sk) (e : Sk), nn U = r.length ∧ row = r ++ [e] := by
        refine ⟨row.dropLast, row.getLast (by intro z; subst z; simp at hr), by simp; omega, (List.dropLast_concat_getLast _).symm⟩
      have e1 : fill (U ++ [none]) (r ++ [e]) = fill U r ++ [e] := by
        have := fill_app U [none] r [e] hr'
        simpa [fill] using this
      have e2 : ly (U ++ [none]) 0 = ly U 0 := by rw [ly_app]; simp [ly]
      have e3 : idx (U ++ [none]) 0 0 = idx U 0 0 ++ [(false, nn U)] := by rw [idx_app]; simp [idx]
      have hl : (fill U r).length = U.length := fill_len U r hr'
      rw [e1, e2, e3, topM_snoc, topM_snoc]
      by_cases c : cov x e = true
      · rw [if_pos c, if_pos c]
        refine .inr (.inl ⟨_, r.length, rfl, ?_, rfl, fun i ⟨p, q, _, u⟩ => ?_⟩)
        · rw [hl, List.getElem?_append_right (by rw [idx_len]; exact Nat.le_refl _), idx_len]; simp [hr']
        · have := ly_le U 0 p (List.mem_of_getElem? q)
          simp [under] at u
          omega
      · rw [if_neg c, if_neg c]
        have cidx : ∀ k t, topM (fill U r) x = some k → (idx U 0 0)[k]? = some t → (idx U 0 0 ++ [(false, nn U)])[k]? = some t := fun k t h1 h2 => by
          have := top_lt h1
          rw [List.getElem?_append_left (by rw [idx_len]; omega)]; exact h2
        rcases ih r hr' with ⟨k, j, a1, a2, a3, a4⟩ | ⟨k, g, a1, a2, a3, a4⟩ | ⟨a1, a2, a3⟩
        · exact .inl ⟨k, j, a1, cidx k _ a1 a2, a3, a4⟩
        · exact .inr (.inl ⟨k, g, a1, cidx k _ a1 a2, a3, a4⟩)
        · exact .inr (.inr ⟨a1, a2, a3⟩)
theorem pos_get : ∀ (T : Or) (b j e i k : Nat), (posN b T)[i]? = some (b + k) ↔ (idx T j e)[k]? = some (false, e + i) := by
  intro T
  induction T with
  | nil => intro b j e i k; simp [posN, idx]
  | cons a t ih =>
    intro b j e i k
    cases a with
    | some x =>
      simp only [posN, idx]
      cases k with
      | zero =>
        simp only [List.getElem?_cons_zero, Option.some.injEq, Prod.mk.injEq, Bool.true_eq_false, false_and, iff_false]
        intro h
        have := pos_bd t (b + 1) _ (List.mem_of_getElem? h)
        omega
      | succ k =>
        have := ih (b + 1) (j + 1) e i k
        rw [show b + 1 + k = b + (k + 1) by omega] at this
        simpa using this
    | none =>
      simp only [posN, idx]
      cases i with
      | zero =>
        cases k with
        | zero => simp
        | succ k =>
          simp only [List.getElem?_cons_zero, List.getElem?_cons_succ, Option.some.injEq]
          constructor
          · intro h; omega
          · intro h
            have := (ih (b + 1) j (e + 1) 0 k)
            exfalso
            have hm : ∀ (t : Or) (j e k : Nat), (idx t j (e + 1))[k]? ≠ some (false, e) := by
              intro t
              induction t with
              | nil => intro j e k; simp [idx]
              | cons a t ih =>
                intro j e k
                cases a with
                | some x => cases k with
                  | zero => simp [idx]
                  | succ k => simpa [idx] using ih (j + 1) e k
                | none => cases k with
                  | zero => simp [idx]
                  | succ k =>
                    intro h
                    simp only [idx, List.getElem?_cons_succ] at h
                    have : ∀ (t : Or) (j e d k : Nat), (idx t j (e + 1 + d))[k]? ≠ some (false, e) := by
                      intro t
                      induction t with
                      | nil => intro j e d k; simp [idx]
                      | cons a t ih =>
                        intro j e d k
                        cases a with
                        | some x => cases k with
                          | zero => simp [idx]
                          | succ k => simpa [idx] using ih (j + 1) e d k
                        | none => cases k with
                          | zero => simp [idx]; omega
                          | succ k =>
                            have := ih j e (d + 1) k
                            rw [show e + 1 + (d + 1) = e + 1 + d + 1 by omega] at this
                            simpa [idx] using this
                    exact this t j e 1 k h
            exact hm t j e k (by simpa using h)
      | succ i =>
        cases k with
        | zero =>
          simp only [List.getElem?_cons_succ, List.getElem?_cons_zero, Option.some.injEq, Prod.mk.injEq, true_and]
          constructor
          · intro h
            have := pos_bd t (b + 1) _ (List.mem_of_getElem? h)
            omega
          · intro h; omega
        | succ k =>
          have := ih (b + 1) j (e + 1) i k
          rw [show b + 1 + k = b + (k + 1) by omega, show e + 1 + i = e + (i + 1) by omega] at this
          simpa using this
theorem pos_at {T : Or} {i k : Nat} : (posN 0 T)[i]? = some k ↔ (idx T 0 0)[k]? = some (false, i) := by
  have := pos_get T 0 0 0 i k
  simpa using this
theorem mv_split : ∀ (T : Or) (m : Nat), m ≤ nn T → nn (T.take (mv m T)) = m ∧ (T.take (mv m T)).length = mv m T := by
  intro T m h
  refine ⟨?_, by rw [List.length_take]; have := mv_le T m h; omega⟩
  induction T generalizing m with
  | nil => simp at h; subst h; rfl
  | cons a t ih =>
    cases m with
    | zero => simp [mv]
    | succ m =>
      cases a with
      | some x => simpa [mv] using ih (m + 1) (by simpa using h)
      | none => simpa [mv] using ih m (by simpa using h)
theorem fill_take {T : Or} {row : List Sk} {m : Nat} (h : nn T = row.length) (hm : m ≤ row.length) : (fill T row).take (mv m T) = fill (T.take (mv m T)) (row.take m) := by
  obtain ⟨a, b⟩ := mv_split T m (by omega)
  have e : fill T row = fill (T.take (mv m T)) (row.take m) ++ fill (T.drop (mv m T)) (row.drop m) := by
    have := fill_app (T.take (mv m T)) (T.drop (mv m T)) (row.take m) (row.drop m) (by rw [a, List.length_take]; omega)
    rwa [List.take_append_drop, List.take_append_drop] at this
  rw [e, List.take_append_of_le_length (by rw [fill_len _ _ (by rw [a, List.length_take]; omega), b]; exact Nat.le_refl _)]
  rw [List.take_of_length_le]
  rw [fill_len _ _ (by rw [a, List.length_take]; omega), b]
  exact Nat.le_refl _
theorem idx_take {T : Or} {q k : Nat} (hk : k < (T.take q).length) : (idx (T.take q) 0 0)[k]? = (idx T 0 0)[k]? := by
  have e : idx T 0 0 = idx (T.take q) 0 0 ++ idx (T.drop q) (0 + (ly (T.take q) 0).length) (0 + nn (T.take q)) := by
    rw [← idx_app, List.take_append_drop]
  rw [e, List.getElem?_append_left (by rw [idx_len]; exact hk)]
theorem ly_take (T : Or) (m : Nat) (h : m ≤ nn T) : ly (T.take (mv m T)) 0 = (ly T 0).filter fun p => decide (p.slot < (m : Int)) := by
  obtain ⟨a, b⟩ := mv_split T m h
  have e : ly T 0 = ly (T.take (mv m T)) 0 ++ ly (T.drop (mv m T)) m := by
    have := ly_app (T.take (mv m T)) (T.drop (mv m T)) 0
    rw [List.take_append_drop, a, Nat.zero_add] at this
    exact this
  rw [e, List.filter_append]
  have e1 : (ly (T.drop (mv m T)) m).filter (fun p => decide (p.slot < (m : Int))) = [] := by
    rw [List.filter_eq_nil_iff]
    intro p hp
    have := ly_ge _ _ p hp
    simp; omega
  have e2 : (ly (T.take (mv m T)) 0).filter (fun p => decide (p.slot < (m : Int))) = ly (T.take (mv m T)) 0 := by
    rw [List.filter_eq_self]
    intro p hp
    have e3 : ((ly (T.take (mv m T)) 0).filter fun p => decide (p.slot < (m : Int))).length = (ly (T.take (mv m T)) 0).length := by
      have h1 := mv_ly T 0 m h
      rw [e, Nat.zero_add, List.filter_append, e1, List.append_nil] at h1
      have h2 := ly_len (T.take (mv m T)) 0
      omega
    have := List.length_filter_eq_length_iff.mp e3 p hp
    exact this
  rw [e1, e2, List.append_nil]
end PL
end
section
set_option Elab.async false
set_option linter.all false
set_option maxRecDepth 100000
set_option maxHeartbeats 1000000
namespace PL
open PySem PySem.Spec DL PM

def inW (x : Int) : Prop := 0 ≤ x ∧ x ≤ LASTI
def firmAt (w : List Wi) (x : Int) : Prop := inW x ∧ ∀ p ∈ w, ¬ (p.lo ≤ x ∧ x ≤ p.hi)
theorem allM_ok : ∀ p ∈ allM, okW p := by
  intro p hp
  simp [allM] at hp; subst hp
  exact ⟨Int.le_refl _, by simp [LASTI], by simp [LASTI, LASTP]⟩
theorem allM_mem (x : Int) : inR allM x ↔ inW x := by simp [allM, inS, inW]
theorem wish_ok {w : List Wi} (h : okWish w) : ∀ p ∈ w.map Pa.sp, okW p := by
  intro p hp
  obtain ⟨q, hq, rfl⟩ := List.mem_map.mp hp
  have := h.ok q hq
  exact ⟨this.1, this.2.1, this.2.2.1⟩
theorem firm_ok {w : List Wi} (h : okWish w) : Row (firmM w) ∧ ∀ x, inR (firmM w) x ↔ firmAt w x := by
  obtain ⟨a, b⟩ := apartM_ok allM_ok (wish_ok h)
  refine ⟨a, fun x => ?_⟩
  rw [firmM, b x, allM_mem]
  unfold firmAt
  refine and_congr_right fun _ => ?_
  constructor
  · intro h p hp hx
    exact h ⟨_, List.mem_map.mpr ⟨p, hp, rfl⟩, hx⟩
  · rintro h ⟨q, hq, hx⟩
    obtain ⟨p, hp, rfl⟩ := List.mem_map.mp hq
    exact h p hp hx
theorem firm_in {w : List Wi} (h : okWish w) : ∀ p ∈ firmM w, okW p := row_okW (firm_ok h).1 fun x hx => by
  have := ((firm_ok h).2 x).mp hx
  exact this.1
def lookWall (row : List Sk) (slot : Int) (k : Lk) (x : Int) : Prop := slot < (k.m : Int) ∧ k.a ≤ x ∧ x ≤ k.b ∧ under slot (topM (row.take k.m) x) = true
theorem walls_ok {row : List Sk} {w : List Wi} {slot : Int} {ks : List Lk} (hr : ∀ s ∈ row, s.ok) (hw : okWish w) (hk : ∀ k ∈ ks, k.ok row.length) :
    Row (wallsM row w slot ks) ∧ (∀ x, inR (wallsM row w slot ks) x ↔ (firmAt w x ∧ under slot (topM row x) = true) ∨ ∃ k ∈ ks, lookWall row slot k x) ∧ ∀ x, inR (wallsM row w slot ks) x → inW x := by
  have hp := paint_pic hr
  have hb := beneath_ok (slot := slot) hp (Int.le_refl _) (by simp [LASTI, LASTP])
  obtain ⟨b1, b2⟩ := bothM_ok (A := firmM w) (B := beneathM (paintM row) slot) (fun p h => (firm_in hw p h).ok) fun p h => (hb p h).ok
  have hall : ∀ p ∈ bothM (firmM w) (beneathM (paintM row) slot) ++ ks.flatMap (fun k => if (k.m : Int) > slot then beneathM (shownM row k) slot else []), okW p := by
    intro p h
    rcases List.mem_append.mp h with h | h
    · refine row_okW b1 (fun x hx => ?_) p h
      exact (((firm_ok hw).2 x).mp ((b2 x).mp hx).1).1
    · obtain ⟨k, hkm, h⟩ := List.mem_flatMap.mp h
      split at h
      · have hko := hk k hkm
        exact beneath_ok (shown_pic hr hko) hko.2.1 hko.2.2.2 p h
      · simp at h
  obtain ⟨c1, c2⟩ := joinM_ok (xs := _) fun p h => (hall p h).ok
  have mem : ∀ x, inR (wallsM row w slot ks) x ↔ (firmAt w x ∧ under slot (topM row x) = true) ∨ ∃ k ∈ ks, lookWall row slot k x := by
    intro x
    rw [wallsM, c2 x, inR_append, b2 x, (firm_ok hw).2 x, beneath_mem hp]
    refine or_congr ?_ ?_
    · constructor
      · rintro ⟨h1, _, _, h2⟩; exact ⟨h1, h2⟩
      · rintro ⟨h1, h2⟩; exact ⟨h1, h1.1.1, h1.1.2, h2⟩
    · constructor
      · rintro ⟨p, hpm, hx⟩
        obtain ⟨k, hkm, h⟩ := List.mem_flatMap.mp hpm
        split at h
        · rename_i c
          have := (beneath_mem (slot := slot) (shown_pic hr (hk k hkm)) x).mp ⟨p, h, hx⟩
          exact ⟨k, hkm, by omega, this.1, this.2.1, this.2.2⟩
        · simp at h
      · rintro ⟨k, hkm, h1, h2, h3, h4⟩
        obtain ⟨p, h5, h6⟩ := (beneath_mem (slot := slot) (shown_pic hr (hk k hkm)) x).mpr ⟨h2, h3, h4⟩
        exact ⟨p, List.mem_flatMap.mpr ⟨k, hkm, by rw [if_pos (by omega)]; exact h5⟩, h6⟩
  refine ⟨c1, mem, fun x hx => ?_⟩
  rcases (mem x).mp hx with h | ⟨k, hkm, h1, h2, h3, _⟩
  · exact h.1.1
  · have := hk k hkm
    exact ⟨by have := this.2.1; omega, by have := this.2.2.2; unfold LASTI; omega⟩
theorem gaps_ok {row : List Sk} {w : List Wi} {slot : Int} {ks : List Lk} (hr : ∀ s ∈ row, s.ok) (hw : okWish w) (hk : ∀ k ∈ ks, k.ok row.length) :
    Row (gapsM row w slot ks) ∧ ∀ x, inR (gapsM row w slot ks) x ↔ inW x ∧ ¬ inR (wallsM row w slot ks) x := by
  obtain ⟨a1, a2, a3⟩ := walls_ok (slot := slot) hr hw hk
  obtain ⟨b1, b2⟩ := apartM_ok allM_ok (row_okW a1 a3)
  exact ⟨b1, fun x => by rw [gapsM, b2 x, allM_mem]⟩

theorem okLay.or {n : Nat} {L : List Pt} (h : okLay n L) : ∃ T : Or, nn T = n ∧ L = ly T 0 := h.ord
theorem renum_at {T : Or} {E : List Nat} (hE : E = posN 0 T) {g : Nat} (hg : g < nn T) : ∃ k, renum E (some g) = some k ∧ (idx T 0 0)[k]? = some (false, g) := by
  subst hE
  have hl : g < (posN 0 T).length := by rw [pos_len]; exact hg
  refine ⟨(posN 0 T).getD g 0, rfl, pos_at.mp ?_⟩
  rw [List.getD_eq_getElem?_getD, List.getElem?_eq_getElem hl]; rfl
theorem core_ne {T : Or} {U : Or} {row : List Sk} {x : Int} (hU : nn U = row.length) (hUT : nn U ≤ nn T) (hi : ∀ k, k < U.length → (idx U 0 0)[k]? = (idx T 0 0)[k]?) :
    renum (posN 0 T) (topM row x) ≠ topM (fill U row) x ↔ ∃ j, cand (ly U 0) (topM row x) x j := by
  have hl : (fill U row).length = U.length := fill_len U row hU
  rcases seen_core x U row hU with ⟨k, j, a1, a2, a3, a4⟩ | ⟨k, g, a1, a2, a3, a4⟩ | ⟨a1, a2, a3⟩
  · refine iff_of_true ?_ ⟨j, a3⟩
    have hk := top_lt a1
    rw [hi k (by omega)] at a2
    intro z
    cases q : topM row x with
    | none => rw [q, a1] at z; cases z
    | some g =>
      have hg := top_lt q
      obtain ⟨k', e1, e2⟩ := renum_at (T := T) rfl (g := g) (by omega)
      rw [q, a1, e1] at z
      cases z
      rw [e2] at a2; cases a2
  · refine iff_of_false ?_ fun ⟨j, hj⟩ => a4 j hj
    have hk := top_lt a1
    have hg := top_lt a3
    rw [hi k (by omega)] at a2
    have := pos_at.mpr a2
    rw [a3, a1]
    simp only [renum, ne_eq, Option.some.injEq, Decidable.not_not]
    rw [List.getD_eq_getElem?_getD, this]; rfl
  · refine iff_of_false ?_ fun ⟨j, hj⟩ => a3 j hj
    rw [a1, a2]; simp [renum]
def late (L : List Pt) (g : Option Nat) (x : Int) : Prop := ∃ p ∈ L, cov x p.s = true ∧ under p.slot g = true
theorem late_cand {L : List Pt} {g : Option Nat} {x : Int} : late L g x ↔ ∃ j, cand L g x j := by
  constructor
  · rintro ⟨p, hp, h⟩
    obtain ⟨j, hj, e⟩ := List.getElem_of_mem hp
    exact ⟨j, p, by rw [← e]; exact List.getElem?_eq_getElem hj, h⟩
  · rintro ⟨j, p, e, h⟩
    exact ⟨p, List.mem_of_getElem? e, h⟩
def doneL (L : List Pt) (m : Nat) : List Pt := L.filter fun p => decide (p.slot < (m : Int))
theorem now_ne {row : List Sk} {L : List Pt} (h : okLay row.length L) (x : Int) : renum (numE row.length L) (topM row x) ≠ topM (laidM row L) x ↔ late L (topM row x) x := by
  obtain ⟨T, e1, rfl⟩ := h.or
  have e2 : numE row.length (ly T 0) = posN 0 T := by rw [← e1]; exact numE_ly T
  rw [e2, laid_ly T row e1, late_cand]
  exact core_ne e1 (Nat.le_refl _) fun k _ => rfl
theorem moved_mv {T : Or} {m : Nat} (h : m ≤ nn T) : m + ((ly T 0).filter fun p => decide (p.slot < (m : Int))).length = mv m T := by
  have := mv_ly T 0 m h
  rw [Nat.zero_add] at this
  exact this.symm
theorem look_ne {row : List Sk} {L : List Pt} {k : Lk} (h : okLay row.length L) (hk : k.ok row.length) (x : Int) :
    renum (numE row.length L) (topM (row.take k.m) x) ≠ topM ((laidM row L).take (movedM k L).m) x ↔ late (doneL L k.m) (topM (row.take k.m) x) x := by
  obtain ⟨T, e1, rfl⟩ := h.or
  have hm : k.m ≤ nn T := by rw [e1]; exact hk.1
  have e2 : numE row.length (ly T 0) = posN 0 T := by rw [← e1]; exact numE_ly T
  have e3 : (movedM k (ly T 0)).m = mv k.m T := moved_mv hm
  obtain ⟨a, b⟩ := mv_split T k.m hm
  rw [e2, laid_ly T row e1, e3, fill_take e1 hk.1, late_cand, doneL, ← ly_take T k.m hm]
  exact core_ne (by rw [a, List.length_take]; have := hk.1; omega) (by omega) fun i hi => idx_take hi
theorem laid_row {row : List Sk} {L : List Pt} (hr : ∀ s ∈ row, s.ok) (h : okLay row.length L) : (∀ s ∈ laidM row L, s.ok) ∧ (laidM row L).length = row.length + L.length := by
  obtain ⟨T, e1, rfl⟩ := h.or
  have hl := len_or T
  refine ⟨fun s hs => ?_, by rw [laid_ly T row e1, fill_len T row e1]; omega⟩
  rw [laid_ly T row e1] at hs
  have : ∀ (T : Or) (r : List Sk) (i : Nat), s ∈ fill T r → s ∈ r ∨ some s ∈ T := by
    intro T
    induction T with
    | nil => intro r i hs; simp [fill] at hs
    | cons a t ih =>
      intro r i hs
      cases a with
      | some y =>
        simp only [fill, List.mem_cons] at hs
        rcases hs with rfl | hs
        · right; simp
        · rcases ih r i hs with q | q
          · exact .inl q
          · right; simp [q]
      | none => cases r with
        | nil =>
          rcases ih [] i hs with q | q
          · exact .inl q
          · right; simp [q]
        | cons b r =>
          simp only [fill, List.mem_cons] at hs
          rcases hs with rfl | hs
          · left; simp
          · rcases ih r i hs with q | q
            · left; simp [q]
            · right; simp [q]
  rcases this T row 0 hs with q | q
  · exact hr s q
  · obtain ⟨p, hp, e⟩ := (ly_mem T 0 s).mpr q
    rw [← e]; exact (h.ok p hp).2.2
theorem moved_ok {row : List Sk} {L : List Pt} {k : Lk} (h : okLay row.length L) (hk : k.ok row.length) : (movedM k L).ok (row.length + L.length) := by
  have := List.length_filter_le (fun p : Pt => decide (p.slot < (k.m : Int))) L
  refine ⟨?_, hk.2⟩
  show k.m + _ ≤ _
  have := hk.1
  omega
theorem seen_ok {row : List Sk} {L : List Pt} {k : Lk} (hr : ∀ s ∈ row, s.ok) (h : okLay row.length L) (hk : k.ok row.length) :
    Row (seenM row L k) ∧ ∀ x, inR (seenM row L k) x ↔ k.a ≤ x ∧ x ≤ k.b ∧ late (doneL L k.m) (topM (row.take k.m) x) x := by
  obtain ⟨l1, l2⟩ := laid_row hr h
  have p1 := (shown_pic hr hk).map (renum (numE row.length L))
  have p2 : Pic k.a k.b (topM ((laidM row L).take (movedM k L).m)) (shownM (laidM row L) (movedM k L)) := shown_pic (n := row.length + L.length) l1 (moved_ok h hk)
  have hb : ∀ p ∈ (shownM row k).map (Pa.map (renum (numE row.length L))), 0 ≤ p.lo ∧ p.hi ≤ LASTP := fun p hp => by
    have := p1.val p hp
    have := hk.2.1; have := hk.2.2.2
    unfold LASTP
    omega
  obtain ⟨c1, c2⟩ := joinM_ok (xs := unlikeL ((shownM row k).map (Pa.map (renum (numE row.length L)))) (shownM (laidM row L) (movedM k L))) fun p hp => (unlikeL_ok hb p hp).ok
  refine ⟨c1, fun x => ?_⟩
  rw [seenM, unlikeM, c2 x, unlikeL_mem]
  constructor
  · rintro ⟨p, hp, q, hq, h1, h2, h3, h4, h5⟩
    obtain ⟨u1, u2, u3, u4⟩ := p1.val p hp
    obtain ⟨v1, v2, v3, v4⟩ := p2.val q hq
    rw [← u4 x h1 h2, ← v4 x h3 h4] at h5
    exact ⟨by omega, by omega, (look_ne h hk x).mp h5⟩
  · rintro ⟨h1, h2, h3⟩
    obtain ⟨p, hp, a1, a2, a3⟩ := p1.at h1 h2
    obtain ⟨q, hq, b1, b2, b3⟩ := p2.at h1 h2
    exact ⟨p, hp, q, hq, a1, a2, b1, b2, by rw [a3, b3]; exact (look_ne h hk x).mpr h3⟩
def wrongAt (w : List Wi) (after : List Sk) (x : Int) : Prop := ∃ p ∈ w, p.lo ≤ x ∧ x ≤ p.hi ∧ p.v ≠ none ∧ colAt after (topM after x) ≠ p.v
theorem now_ok {row : List Sk} {L : List Pt} {w : List Wi} (hr : ∀ s ∈ row, s.ok) (h : okLay row.length L) (hw : okWish w) :
    Row (nowM row w (laidM row L) (numE row.length L)) ∧ ∀ x, inR (nowM row w (laidM row L) (numE row.length L)) x ↔ (firmAt w x ∧ late L (topM row x) x) ∨ wrongAt w (laidM row L) x := by
  obtain ⟨l1, l2⟩ := laid_row hr h
  have p1 := (paint_pic hr).map (renum (numE row.length L))
  have p2 := paint_pic l1
  have p3 := (colours_ok l1).pic
  have hb : ∀ p ∈ (paintM row).map (Pa.map (renum (numE row.length L))), 0 ≤ p.lo ∧ p.hi ≤ LASTP := fun p hp => by
    have := p1.val p hp
    unfold LASTP LASTI at *
    omega
  obtain ⟨c1, c2⟩ := joinM_ok (xs := unlikeL ((paintM row).map (Pa.map (renum (numE row.length L)))) (paintM (laidM row L))) fun p hp => (unlikeL_ok hb p hp).ok
  have m1 : ∀ x, inR (unlikeM ((paintM row).map (Pa.map (renum (numE row.length L)))) (paintM (laidM row L))) x ↔ inW x ∧ late L (topM row x) x := by
    intro x
    rw [unlikeM, c2 x, unlikeL_mem]
    constructor
    · rintro ⟨p, hp, q, hq, h1, h2, h3, h4, h5⟩
      obtain ⟨u1, u2, u3, u4⟩ := p1.val p hp
      obtain ⟨v1, v2, v3, v4⟩ := p2.val q hq
      rw [← u4 x h1 h2, ← v4 x h3 h4] at h5
      exact ⟨⟨by omega, by omega⟩, (now_ne h x).mp h5⟩
    · rintro ⟨h1, h3⟩
      obtain ⟨p, hp, a1, a2, a3⟩ := p1.at h1.1 h1.2
      obtain ⟨q, hq, b1, b2, b3⟩ := p2.at h1.1 h1.2
      exact ⟨p, hp, q, hq, a1, a2, b1, b2, by rw [a3, b3]; exact (now_ne h x).mpr h3⟩
  obtain ⟨d1, d2⟩ := bothM_ok (A := unlikeM ((paintM row).map (Pa.map (renum (numE row.length L)))) (paintM (laidM row L))) (B := firmM w) (fun p hp => c1.ok p hp) fun p hp => (firm_in hw p hp).ok
  have hdue : ∀ p ∈ dueM w, 0 ≤ p.lo ∧ p.hi ≤ LASTP := fun p hp => by
    have := hw.ok p (List.mem_filter.mp hp).1
    exact ⟨this.1, this.2.2.1⟩
  obtain ⟨e1, e2⟩ := joinM_ok (xs := unlikeL (dueM w) (coloursM (laidM row L))) fun p hp => (unlikeL_ok hdue p hp).ok
  have m2 : ∀ x, inR (unlikeM (dueM w) (coloursM (laidM row L))) x ↔ wrongAt w (laidM row L) x := by
    intro x
    rw [unlikeM, e2 x, unlikeL_mem]
    constructor
    · rintro ⟨p, hp, q, hq, h1, h2, h3, h4, h5⟩
      obtain ⟨v1, v2, v3, v4⟩ := p3.val q hq
      have hpm := List.mem_filter.mp hp
      rw [← v4 x h3 h4] at h5
      refine ⟨p, hpm.1, h1, h2, fun z => by simp [z] at hpm, fun z => h5 z.symm⟩
    · rintro ⟨p, hp, h1, h2, h3, h4⟩
      have := hw.ok p hp
      obtain ⟨q, hq, b1, b2, b3⟩ := p3.at (x := x) (by omega) (by unfold LASTI; omega)
      refine ⟨p, List.mem_filter.mpr ⟨hp, ?_⟩, q, hq, h1, h2, b1, b2, ?_⟩
      · cases q : p.v with
        | none => exact absurd q h3
        | some c => rfl
      · rw [b3]; exact fun z => h4 z.symm
  have hall : ∀ p ∈ bothM (unlikeM ((paintM row).map (Pa.map (renum (numE row.length L)))) (paintM (laidM row L))) (firmM w) ++ unlikeM (dueM w) (coloursM (laidM row L)), ok p := by
    intro p hp
    rcases List.mem_append.mp hp with hp | hp
    · exact d1.ok p hp
    · exact e1.ok p hp
  obtain ⟨f1, f2⟩ := joinM_ok hall
  refine ⟨f1, fun x => ?_⟩
  rw [nowM, f2 x, inR_append, d2 x, m1 x, (firm_ok hw).2 x, m2 x]
  refine or_congr_left ?_
  constructor
  · rintro ⟨⟨h1, h2⟩, h3⟩; exact ⟨h3, h2⟩
  · rintro ⟨h1, h2⟩; exact ⟨⟨h1.1, h2⟩, h1⟩
theorem row_nil {xs : List Seg} (h : Row xs) : xs = [] ↔ ∀ x, ¬ inR xs x := by
  constructor
  · rintro rfl x; simp
  · intro k
    cases xs with
    | nil => rfl
    | cons p xs => exact absurd (show inR (p :: xs) p.1 by simp [inS]; exact .inl h.head) (k p.1)
end PL
end
section
set_option Elab.async false
set_option linter.all false
set_option maxRecDepth 100000
set_option maxHeartbeats 1000000
namespace PL
open PySem PySem.Spec DL PM

def posL : Nat → Or → List Nat
  | _, [] => []
  | k, some _ :: t => k :: posL (k + 1) t
  | k, none :: t => posL (k + 1) t
theorem posL_ge : ∀ (T : Or) (b : Nat), ∀ q ∈ posL b T, b ≤ q
  | [], b, q, h => by cases h
  | some x :: t, b, q, h => by
    rcases List.mem_cons.mp h with rfl | h
    · exact Nat.le_refl _
    · have := posL_ge t (b + 1) q h; omega
  | none :: t, b, q, h => by have := posL_ge t (b + 1) q h; omega
theorem idx_ge : ∀ (T : Or) (j e : Nat), ∀ q ∈ idx T j e, q.1 = true → j ≤ q.2
  | [], j, e, q, h, _ => by cases h
  | some x :: t, j, e, q, h, c => by
    rcases List.mem_cons.mp h with rfl | h
    · exact Nat.le_refl _
    · have := idx_ge t (j + 1) e q h c; omega
  | none :: t, j, e, q, h, c => by
    rcases List.mem_cons.mp h with rfl | h
    · cases c
    · exact idx_ge t j (e + 1) q h c
theorem posL_get : ∀ (T : Or) (b j e i k : Nat), (posL b T)[i]? = some (b + k) ↔ (idx T j e)[k]? = some (true, j + i)
  | [], b, j, e, i, k => by simp [posL, idx]
  | some x :: t, b, j, e, i, k => by
    simp only [posL, idx]
    cases i with
    | zero =>
      cases k with
      | zero => simp
      | succ k =>
        simp only [List.getElem?_cons_zero, List.getElem?_cons_succ, Nat.add_zero]
        refine iff_of_false (by simp) fun h => ?_
        have := idx_ge t (j + 1) e _ (List.mem_of_getElem? h) rfl
        simp at this
        omega
    | succ i =>
      cases k with
      | zero =>
        simp only [List.getElem?_cons_zero, List.getElem?_cons_succ, Nat.add_zero]
        refine iff_of_false (fun h => ?_) (by simp)
        have := posL_ge t (b + 1) _ (List.mem_of_getElem? h)
        omega
      | succ k =>
        simp only [List.getElem?_cons_succ]
        have := posL_get t (b + 1) (j + 1) e i k
        rw [show b + (k + 1) = b + 1 + k by omega, show j + (i + 1) = j + 1 + i by omega]
        exact this
  | none :: t, b, j, e, i, k => by
    simp only [posL, idx]
    cases k with
    | zero =>
      simp only [List.getElem?_cons_zero, Nat.add_zero]
      refine iff_of_false (fun h => ?_) (by simp)
      have := posL_ge t (b + 1) _ (List.mem_of_getElem? h)
      omega
    | succ k =>
      simp only [List.getElem?_cons_succ]
      rw [show b + (k + 1) = b + 1 + k by omega]
      exact posL_get t (b + 1) j (e + 1) i k
theorem posL_go : ∀ (T : Or) (k j e : Nat), (((List.range' k T.length).zip (idx T j e)).filter fun q => q.2.1).map (·.1) = posL k T
  | [], k, j, e => rfl
  | some x :: t, k, j, e => by
    have := posL_go t (k + 1) (j + 1) e
    simp only [idx, List.length_cons, List.range'_succ, List.zip_cons_cons, List.filter_cons, if_true, List.map_cons, posL]
    rw [this]
  | none :: t, k, j, e => by
    have := posL_go t (k + 1) j (e + 1)
    simp only [idx, List.length_cons, List.range'_succ, List.zip_cons_cons, List.filter_cons, Bool.false_eq_true, if_false, posL]
    rw [this]
theorem numL_ly (T : Or) : numL (nn T) (ly T 0) = posL 0 T := by
  unfold numL
  rw [wv_ly, List.range_eq_range', idx_len]
  exact posL_go T 0 0 0
theorem posL_len : ∀ (T : Or) (k : Nat), (posL k T).length = (ly T 0).length
  | T, k => by
    have h1 : ∀ (T : Or) (k s : Nat), (posL k T).length = (ly T s).length := by
      intro T
      induction T with
      | nil => intro k s; rfl
      | cons a t ih => intro k s; cases a <;> simp [posL, ly] <;> exact ih _ _
    exact h1 T k 0

def SeenL (L : List Pt) (g : Option Nat) (x : Int) (j : Nat) : Prop := cand L g x j ∧ ∀ i, j < i → ¬ cand L g x i
theorem SeenL.uniq {L : List Pt} {g : Option Nat} {x : Int} {i j : Nat} (h : SeenL L g x i) (k : SeenL L g x j) : i = j := by
  rcases Nat.lt_trichotomy i j with c | c | c
  · exact absurd k.1 (h.2 j c)
  · exact c
  · exact absurd h.1 (k.2 i c)
theorem cand_lt {L : List Pt} {g : Option Nat} {x : Int} {j : Nat} (h : cand L g x j) : j < L.length := by
  obtain ⟨p, e, _⟩ := h
  exact (List.getElem?_eq_some_iff.mp e).1
theorem SeenL.ex {L : List Pt} {g : Option Nat} {x : Int} {j : Nat} (h : cand L g x j) : ∃ i, SeenL L g x i := by
  have key : ∀ n j, L.length - j ≤ n → cand L g x j → ∃ i, SeenL L g x i := by
    intro n
    induction n with
    | zero => intro j hn h; have := cand_lt h; omega
    | succ n ih =>
      intro j hn h
      by_cases c : ∃ i, j < i ∧ cand L g x i
      · obtain ⟨i, hi, hc⟩ := c
        have := cand_lt hc
        exact ih i (by omega) hc
      · exact ⟨j, h, fun i hi hc => c ⟨i, hi, hc⟩⟩
  exact key _ j (Nat.le_refl _) h
theorem numL_at {n : Nat} {L : List Pt} (h : okLay n L) {j k : Nat} : (numL n L)[j]? = some k ↔ (wv n L)[k]? = some (true, j) := by
  obtain ⟨T, rfl, rfl⟩ := h.or
  rw [numL_ly, wv_ly]
  have := posL_get T 0 0 0 j k
  simpa using this
theorem numE_at {n : Nat} {L : List Pt} (h : okLay n L) {i k : Nat} : (numE n L)[i]? = some k ↔ (wv n L)[k]? = some (false, i) := by
  obtain ⟨T, rfl, rfl⟩ := h.or
  rw [numE_ly, wv_ly]
  exact pos_at
theorem numL_len {n : Nat} {L : List Pt} (h : okLay n L) : (numL n L).length = L.length := by
  obtain ⟨T, rfl, rfl⟩ := h.or
  rw [numL_ly, posL_len]
theorem seen_at {row : List Sk} {L : List Pt} (h : okLay row.length L) (x : Int) :
    (∃ k j, topM (laidM row L) x = some k ∧ (wv row.length L)[k]? = some (true, j) ∧ SeenL L (topM row x) x j) ∨
    (∃ k g, topM (laidM row L) x = some k ∧ (wv row.length L)[k]? = some (false, g) ∧ topM row x = some g ∧ ∀ i, ¬ cand L (topM row x) x i) ∨
    (topM (laidM row L) x = none ∧ topM row x = none ∧ ∀ i, ¬ cand L (topM row x) x i) := by
  obtain ⟨T, e1, rfl⟩ := h.or
  rw [laid_ly T row e1, ← e1, wv_ly]
  rcases seen_core x T row e1 with ⟨k, j, a1, a2, a3, a4⟩ | ⟨k, g, a1, a2, a3, a4⟩ | a
  · exact .inl ⟨k, j, a1, a2, a3, a4⟩
  · exact .inr (.inl ⟨k, g, a1, a2, a3, a4⟩)
  · exact .inr (.inr a)
theorem top_late {row : List Sk} {L : List Pt} (h : okLay row.length L) {x : Int} {j k : Nat} (hk : (numL row.length L)[j]? = some k) : topM (laidM row L) x = some k ↔ SeenL L (topM row x) x j := by
  rw [numL_at h] at hk
  rcases seen_at h x with ⟨k', j', a1, a2, a3⟩ | ⟨k', g, a1, a2, a3, a4⟩ | ⟨a1, a2, a3⟩
  · constructor
    · intro e
      rw [a1] at e; cases e
      rw [hk] at a2; cases a2
      exact a3
    · intro s
      cases a3.uniq s
      have e1 := (numL_at h).mpr a2
      have e2 := (numL_at h).mpr hk
      rw [e1] at e2; cases e2
      exact a1
  · refine iff_of_false (fun e => ?_) fun s => a4 j s.1
    rw [a1] at e; cases e
    rw [hk] at a2; cases a2
  · refine iff_of_false (fun e => ?_) fun s => a3 j s.1
    rw [a1] at e; cases e

def getS (ss : List (Option Nat × Seg)) (v : Option Nat) : Option Seg := (ss.find? fun q => decide (q.1 = v)).map (·.2)
def putS (ss : List (Option Nat × Seg)) (v : Option Nat) (g : Seg) : List (Option Nat × Seg) := if (getS ss v).isSome then ss.map (fun q => if q.1 = v then (q.1, g) else q) else ss ++ [(v, g)]
def spanStep (ss : List (Option Nat × Seg)) (p : Pa (Option Nat)) : List (Option Nat × Seg) :=
  putS ss p.v (let q := (getS ss p.v).getD (p.lo, p.hi); (if p.lo < q.1 then p.lo else q.1, if p.hi > q.2 then p.hi else q.2))
def spansM (ps : List (Pa (Option Nat))) : List (Option Nat × Seg) := ps.foldl spanStep []
theorem getS_put (ss : List (Option Nat × Seg)) (v u : Option Nat) (g : Seg) : getS (putS ss v g) u = if u = v then some g else getS ss u := by
  unfold putS
  split
  · rename_i hs
    have key : ∀ ss : List (Option Nat × Seg), getS (ss.map (fun q => if q.1 = v then (q.1, g) else q)) u = (getS ss u).map fun z => if u = v then g else z := by
      intro ss
      induction ss with
      | nil => rfl
      | cons q ss ih =>
        unfold getS at ih ⊢
        by_cases c : q.1 = u
        · by_cases d : q.1 = v
          · have e : u = v := c.symm.trans d
            subst e
            simp [List.find?_cons, d]
          · have : ¬ u = v := fun z => d (c.trans z)
            simp [List.find?_cons, c, d, this]
        · by_cases d : q.1 = v
          · have hc : ¬ v = u := fun z => c (d.trans z)
            simp only [List.map_cons, d, if_true, List.find?_cons, hc, decide_false, c]
            simpa [d, hc] using ih
          · simp only [List.map_cons, d, if_false, List.find?_cons, c, decide_false]
            exact ih
    rw [key]
    by_cases c : u = v
    · subst c
      obtain ⟨z, hz⟩ := Option.isSome_iff_exists.mp hs
      simp [hz]
    · simp [c]
  · rename_i hs
    have hn : getS ss v = none := by
      cases q : getS ss v with
      | none => rfl
      | some z => rw [q] at hs; exact absurd rfl hs
    have key : ∀ ss : List (Option Nat × Seg), getS ss v = none → getS (ss ++ [(v, g)]) u = if u = v then some g else getS ss u := by
      intro ss
      induction ss with
      | nil =>
        intro _
        by_cases c : u = v
        · simp [getS, c]
        · have : ¬ v = u := fun z => c z.symm
          simp [getS, c, this]
      | cons q ss ih =>
        intro hn
        unfold getS at ih hn ⊢
        by_cases d : q.1 = v
        · simp [List.find?_cons, d] at hn
        · simp only [List.find?_cons, d, decide_false] at hn
          by_cases c : q.1 = u
          · have : ¬ u = v := fun z => d (c.trans z)
            simp [List.find?_cons, c, this]
          · simp only [List.cons_append, List.find?_cons, c, decide_false]
            exact ih hn
    exact key ss hn
structure SpanOk (ps : List (Pa (Option Nat))) (v : Option Nat) (o : Option Seg) : Prop where
  no : o = none → ∀ p ∈ ps, p.v ≠ v
  yes : ∀ g, o = some g → (∃ p ∈ ps, p.v = v ∧ p.lo = g.1) ∧ (∃ p ∈ ps, p.v = v ∧ p.hi = g.2) ∧ ∀ p ∈ ps, p.v = v → g.1 ≤ p.lo ∧ p.hi ≤ g.2
theorem spans_ok (ps : List (Pa (Option Nat))) : ∀ v, SpanOk ps v (getS (spansM ps) v) := by
  refine snoc_ind (P := fun ps => ∀ v, SpanOk ps v (getS (spansM ps) v)) ?_ (fun ps p ih => ?_) ps
  · intro v
    exact ⟨fun _ p hp => (by cases hp), fun g h => (by simp [spansM, getS] at h)⟩
  · intro v
    have e : spansM (ps ++ [p]) = spanStep (spansM ps) p := by simp [spansM]
    rw [e, spanStep, getS_put]
    by_cases c : v = p.v
    · subst c
      rw [if_pos rfl]
      have i := ih p.v
      refine ⟨fun h => (by cases h), fun g h => ?_⟩
      cases h
      cases q : getS (spansM ps) p.v with
      | none =>
        have hno := i.no q
        simp only [Option.getD_none, List.mem_append, List.mem_singleton]
        refine ⟨⟨p, .inr rfl, rfl, by simp⟩, ⟨p, .inr rfl, rfl, by simp⟩, fun r hr ev => ?_⟩
        rcases hr with hr | hr
        · exact absurd ev (hno r hr)
        · rw [hr]; simp
      | some g =>
        obtain ⟨⟨r1, h1, e1, f1⟩, ⟨r2, h2, e2, f2⟩, h3⟩ := i.yes g q
        simp only [Option.getD_some, List.mem_append, List.mem_singleton]
        refine ⟨?_, ?_, fun r hr e => ?_⟩
        · split
          · exact ⟨p, .inr rfl, rfl, rfl⟩
          · exact ⟨r1, .inl h1, e1, f1⟩
        · split
          · exact ⟨p, .inr rfl, rfl, rfl⟩
          · exact ⟨r2, .inl h2, e2, f2⟩
        · rcases hr with hr | rfl
          · have := h3 r hr e
            constructor
            · show (if p.lo < g.1 then p.lo else g.1) ≤ r.lo
              split <;> omega
            · show r.hi ≤ (if p.hi > g.2 then p.hi else g.2)
              split <;> omega
          · constructor
            · show (if r.lo < g.1 then r.lo else g.1) ≤ r.lo
              split <;> omega
            · show r.hi ≤ (if r.hi > g.2 then r.hi else g.2)
              split <;> omega
    · rw [if_neg c]
      have i := ih v
      refine ⟨fun h r hr => ?_, fun g h => ?_⟩
      · rcases List.mem_append.mp hr with hr | hr
        · exact i.no h r hr
        · rw [List.mem_singleton] at hr; subst hr; exact fun z => c z.symm
      · obtain ⟨⟨r1, h1, e1, f1⟩, ⟨r2, h2, e2, f2⟩, h3⟩ := i.yes g h
        refine ⟨⟨r1, List.mem_append_left _ h1, e1, f1⟩, ⟨r2, List.mem_append_left _ h2, e2, f2⟩, fun r hr ev => ?_⟩
        rcases List.mem_append.mp hr with hr | hr
        · exact h3 r hr ev
        · rw [List.mem_singleton] at hr; rw [hr] at ev; exact absurd ev.symm c
end PL
end
section
set_option Elab.async false
set_option linter.all false
set_option maxRecDepth 100000
set_option maxHeartbeats 1000000
namespace PL
open PySem PySem.Spec DL PM

def cutPt (vis : Nat → Option Seg) (L : List Pt) (j : Nat) : Pt := ⟨(L.getD j pt0).slot, ⟨((vis j).getD (0, 0)).1, ((vis j).getD (0, 0)).2, (L.getD j pt0).s.col⟩⟩
def cutJ (vis : Nat → Option Seg) (n : Nat) : List Nat := (List.range n).filter fun j => (vis j).isSome
def cutL (vis : Nat → Option Seg) (L : List Pt) : List Pt := (cutJ vis L.length).map (cutPt vis L)
structure VisOk (G : Int → Option Nat) (L : List Pt) (vis : Nat → Option Seg) : Prop where
  no : ∀ j, j < L.length → vis j = none → ∀ x, inW x → ¬ SeenL L (G x) x j
  yes : ∀ j g, j < L.length → vis j = some g → inW g.1 ∧ inW g.2 ∧ SeenL L (G g.1) g.1 j ∧ SeenL L (G g.2) g.2 j ∧ ∀ x, inW x → SeenL L (G x) x j → g.1 ≤ x ∧ x ≤ g.2
section
variable {G : Int → Option Nat} {L : List Pt} {vis : Nat → Option Seg}
theorem cutJ_mem {n j : Nat} : j ∈ cutJ vis n ↔ j < n ∧ ∃ g, vis j = some g := by
  unfold cutJ
  rw [List.mem_filter, List.mem_range, Option.isSome_iff_exists]
theorem cutJ_up (n : Nat) : (cutJ vis n).Pairwise (· < ·) := (List.pairwise_lt_range).sublist List.filter_sublist
theorem cutJ_lt {n i i' j j' : Nat} (h : (cutJ vis n)[i]? = some j) (h' : (cutJ vis n)[i']? = some j') : i < i' ↔ j < j' := by
  obtain ⟨a, rfl⟩ := List.getElem?_eq_some_iff.mp h
  obtain ⟨b, rfl⟩ := List.getElem?_eq_some_iff.mp h'
  have up := List.pairwise_iff_getElem.mp (cutJ_up (vis := vis) n)
  constructor
  · intro c; exact up i i' a b c
  · intro c
    rcases Nat.lt_trichotomy i i' with d | d | d
    · exact d
    · subst d; omega
    · have := up i' i b a d; omega
theorem cut_get {i : Nat} {p : Pt} : (cutL vis L)[i]? = some p ↔ ∃ j, (cutJ vis L.length)[i]? = some j ∧ p = cutPt vis L j := by
  unfold cutL
  rw [List.getElem?_map]
  cases (cutJ vis L.length)[i]? with
  | none => simp
  | some j => simp [eq_comm]
theorem getD_of {α : Type} {xs : List α} {i : Nat} {x d : α} (h : xs[i]? = some x) : xs.getD i d = x := by
  rw [List.getD_eq_getElem?_getD, h]; rfl
theorem cut_in (V : VisOk G L vis) {i j : Nat} (hj : (cutJ vis L.length)[i]? = some j) : ∃ g p, j < L.length ∧ vis j = some g ∧ L[j]? = some p ∧ cutPt vis L j = ⟨p.slot, ⟨g.1, g.2, p.s.col⟩⟩ ∧ p.s.lo ≤ g.1 ∧ g.1 ≤ g.2 ∧ g.2 ≤ p.s.hi ∧ inW g.1 ∧ inW g.2 := by
  obtain ⟨h1, g, h2⟩ := cutJ_mem.mp (List.mem_of_getElem? hj)
  obtain ⟨a1, a2, a3, a4, a5⟩ := V.yes j g h1 h2
  obtain ⟨⟨p, e, c, u⟩, _⟩ := a3
  obtain ⟨⟨p', e', c', u'⟩, _⟩ := id a4
  rw [e] at e'; cases e'
  have c : p.s.lo ≤ g.1 ∧ g.1 ≤ p.s.hi := by simpa [cov] using c
  have c' : p.s.lo ≤ g.2 ∧ g.2 ≤ p.s.hi := by simpa [cov] using c'
  have := a5 _ a2 a4
  refine ⟨g, p, h1, h2, e, ?_, c.1, this.1, c'.2, a1, a2⟩
  unfold cutPt
  rw [h2, getD_of e]; rfl
theorem cand_sub (V : VisOk G L vis) {g : Option Nat} {x : Int} {i j : Nat} (hj : (cutJ vis L.length)[i]? = some j) (h : cand (cutL vis L) g x i) : cand L g x j := by
  obtain ⟨q, e, c, u⟩ := h
  obtain ⟨j', hj', rfl⟩ := cut_get.mp e
  rw [hj] at hj'; cases hj'
  obtain ⟨gg, p, h1, h2, h3, h4, h5, h6, h7, _⟩ := cut_in V hj
  rw [h4] at c u
  refine ⟨p, h3, ?_, u⟩
  simp [cov] at c ⊢
  omega
theorem seen_cut (V : VisOk G L vis) {x : Int} (hx : inW x) {j : Nat} (h : SeenL L (G x) x j) : ∃ i, (cutJ vis L.length)[i]? = some j ∧ SeenL (cutL vis L) (G x) x i := by
  have hl := cand_lt h.1
  have hm : j ∈ cutJ vis L.length := by
    rw [cutJ_mem]
    refine ⟨hl, ?_⟩
    cases q : vis j with
    | none => exact absurd h (V.no j hl q x hx)
    | some g => exact ⟨g, rfl⟩
  obtain ⟨i, hi, e⟩ := List.getElem_of_mem hm
  have hj : (cutJ vis L.length)[i]? = some j := by rw [← e]; exact List.getElem?_eq_getElem hi
  obtain ⟨g, p, h1, h2, h3, h4, h5, h6, h7, _⟩ := cut_in V hj
  have hb := (V.yes j g h1 h2).2.2.2.2 x hx h
  obtain ⟨⟨p', e', c, u⟩, hn⟩ := h
  rw [h3] at e'; cases e'
  refine ⟨i, hj, ⟨cutPt vis L j, cut_get.mpr ⟨j, hj, rfl⟩, ?_, ?_⟩, fun i' hi' hc => ?_⟩
  · rw [h4]; simp [cov]; exact hb
  · rw [h4]; exact u
  · obtain ⟨q, eq, _⟩ := id hc
    obtain ⟨j', hj', _⟩ := cut_get.mp eq
    exact hn j' ((cutJ_lt hj hj').mp hi') (cand_sub V hj' hc)
theorem seen_cut' (V : VisOk G L vis) {x : Int} (hx : inW x) {i : Nat} (h : SeenL (cutL vis L) (G x) x i) : ∃ j, (cutJ vis L.length)[i]? = some j ∧ SeenL L (G x) x j := by
  obtain ⟨q, eq, _⟩ := id h.1
  obtain ⟨j, hj, _⟩ := cut_get.mp eq
  obtain ⟨j', hs⟩ := SeenL.ex (cand_sub V hj h.1)
  obtain ⟨i', hj', hs'⟩ := seen_cut V hx hs
  cases h.uniq hs'
  exact ⟨j', hj', hs⟩
theorem late_sub (V : VisOk G L vis) {g : Option Nat} {x : Int} (h : late (cutL vis L) g x) : late L g x := by
  obtain ⟨i, hi⟩ := late_cand.mp h
  obtain ⟨q, eq, _⟩ := id hi
  obtain ⟨j, hj, _⟩ := cut_get.mp eq
  exact late_cand.mpr ⟨j, cand_sub V hj hi⟩
theorem late_cut (V : VisOk G L vis) {x : Int} (hx : inW x) : late (cutL vis L) (G x) x ↔ late L (G x) x := by
  refine ⟨late_sub V, fun h => ?_⟩
  obtain ⟨j, hj⟩ := late_cand.mp h
  obtain ⟨j', hs⟩ := SeenL.ex hj
  obtain ⟨i, _, hi⟩ := seen_cut V hx hs
  exact late_cand.mpr ⟨i, hi.1⟩
theorem late_done (V : VisOk G L vis) {g : Option Nat} {x : Int} {m : Nat} (h : late (doneL (cutL vis L) m) g x) : late (doneL L m) g x := by
  obtain ⟨q, hq, c, u⟩ := h
  obtain ⟨hq, hm⟩ := List.mem_filter.mp hq
  obtain ⟨i, hi, e⟩ := List.getElem_of_mem hq
  have e : (cutL vis L)[i]? = some q := by rw [← e]; exact List.getElem?_eq_getElem hi
  obtain ⟨j, hj, rfl⟩ := cut_get.mp e
  obtain ⟨gg, p, h1, h2, h3, h4, h5, h6, h7, _⟩ := cut_in V hj
  rw [h4] at c u hm
  refine ⟨p, List.mem_filter.mpr ⟨List.mem_of_getElem? h3, hm⟩, ?_, u⟩
  simp [cov] at c ⊢
  omega
theorem cut_lay {n : Nat} (V : VisOk G L vis) (h : okLay n L) : okLay n (cutL vis L) ∧ (cutL vis L).length ≤ L.length := by
  have hl : (cutL vis L).length ≤ L.length := by
    unfold cutL cutJ
    rw [List.length_map]
    exact Nat.le_trans (List.length_filter_le _ _) (by simp)
  refine ⟨⟨Nat.le_trans hl h.len, fun q hq => ?_, ?_⟩, hl⟩
  · obtain ⟨i, hi, e⟩ := List.getElem_of_mem hq
    have e : (cutL vis L)[i]? = some q := by rw [← e]; exact List.getElem?_eq_getElem hi
    obtain ⟨j, hj, rfl⟩ := cut_get.mp e
    obtain ⟨g, p, h1, h2, h3, h4, h5, h6, h7, w1, w2⟩ := cut_in V hj
    obtain ⟨b1, b2, b3⟩ := h.ok p (List.mem_of_getElem? h3)
    rw [h4]
    exact ⟨b1, b2, w1.1, h6, w2.2, b3.2.2.2⟩
  · rw [List.pairwise_iff_getElem]
    intro i i' hi hi' hlt
    have e : (cutL vis L)[i]? = some _ := List.getElem?_eq_getElem hi
    have e' : (cutL vis L)[i']? = some _ := List.getElem?_eq_getElem hi'
    obtain ⟨j, hj, ej⟩ := cut_get.mp e
    obtain ⟨j', hj', ej'⟩ := cut_get.mp e'
    have hjj := (cutJ_lt hj hj').mp hlt
    obtain ⟨g, p, h1, h2, h3, h4, _⟩ := cut_in V hj
    obtain ⟨g', p', h1', h2', h3', h4', _⟩ := cut_in V hj'
    rw [ej, ej', h4, h4']
    obtain ⟨a1, rfl⟩ := List.getElem?_eq_some_iff.mp h3
    obtain ⟨a2, rfl⟩ := List.getElem?_eq_some_iff.mp h3'
    exact List.pairwise_iff_getElem.mp h.up j j' a1 a2 hjj
theorem cut_nested {n : Nat} (V : VisOk G L vis) (h : okLay n L) {i i' : Nat} {p q : Pt} (hi : (cutL vis L)[i]? = some p) (hi' : (cutL vis L)[i']? = some q) (hlt : i < i') (hno : ¬ (p.s.lo ≤ q.s.lo ∧ q.s.hi ≤ p.s.hi)) : ¬ (q.s.lo ≤ p.s.hi ∧ p.s.lo ≤ q.s.hi) := by
  rintro ⟨c1, c2⟩
  obtain ⟨j, hj, ej⟩ := cut_get.mp hi
  obtain ⟨j', hj', ej'⟩ := cut_get.mp hi'
  have hjj := (cutJ_lt hj hj').mp hlt
  obtain ⟨g, a, h1, h2, h3, h4, h5, h6, h7, w1, w2⟩ := cut_in V hj
  obtain ⟨g', a', h1', h2', h3', h4', h5', h6', h7', w1', w2'⟩ := cut_in V hj'
  rw [h4] at ej; rw [h4'] at ej'
  subst ej; subst ej'
  have hs : a.slot ≤ a'.slot := by
    obtain ⟨b1, rfl⟩ := List.getElem?_eq_some_iff.mp h3
    obtain ⟨b2, rfl⟩ := List.getElem?_eq_some_iff.mp h3'
    exact List.pairwise_iff_getElem.mp h.up j j' b1 b2 hjj
  have up : ∀ {g : Option Nat}, under a.slot g = true → under a'.slot g = true := by
    intro g hg
    cases g with
    | none => rfl
    | some k => simp [under] at hg ⊢; omega
  simp only at hno c1 c2
  obtain ⟨_, _, s1, s2, _⟩ := V.yes j g h1 h2
  by_cases c : g'.1 < g.1
  · refine s1.2 j' hjj ⟨a', h3', ?_, ?_⟩
    · simp [cov]; omega
    · obtain ⟨⟨b, eb, _, ub⟩, _⟩ := s1
      rw [h3] at eb; cases eb
      exact up ub
  · refine s2.2 j' hjj ⟨a', h3', ?_, ?_⟩
    · simp [cov]; omega
    · obtain ⟨⟨b, eb, _, ub⟩, _⟩ := s2
      rw [h3] at eb; cases eb
      exact up ub
theorem cut_again (V : VisOk G L vis) {vis' : Nat → Option Seg} (V' : VisOk G (cutL vis L) vis') : cutL vis' (cutL vis L) = cutL vis L := by
  have key : ∀ i j, (cutJ vis L.length)[i]? = some j → ∃ g, vis j = some g ∧ vis' i = some g := by
    intro i j hj
    obtain ⟨g, p, h1, h2, h3, h4, h5, h6, h7, w1, w2⟩ := cut_in V hj
    obtain ⟨_, _, s1, s2, s3⟩ := V.yes j g h1 h2
    have hil : i < (cutL vis L).length := by
      unfold cutL; rw [List.length_map]; exact (List.getElem?_eq_some_iff.mp hj).1
    have back : ∀ {x}, inW x → SeenL L (G x) x j → SeenL (cutL vis L) (G x) x i := by
      intro x hx hs
      obtain ⟨i', hi', hs'⟩ := seen_cut V hx hs
      have : i = i' := by
        rcases Nat.lt_trichotomy i i' with c | c | c
        · have := (cutJ_lt hj hi').mp c; omega
        · exact c
        · have := (cutJ_lt hi' hj).mp c; omega
      rw [this]; exact hs'
    have forth : ∀ {x}, inW x → SeenL (cutL vis L) (G x) x i → SeenL L (G x) x j := by
      intro x hx hs
      obtain ⟨j', hj', hs'⟩ := seen_cut' V hx hs
      rw [hj] at hj'; cases hj'
      exact hs'
    refine ⟨g, h2, ?_⟩
    cases q : vis' i with
    | none => exact absurd (back w1 s1) (V'.no i hil q _ w1)
    | some g' =>
      obtain ⟨u1, u2, t1, t2, t3⟩ := V'.yes i g' hil q
      have b1 := t3 _ w1 (back w1 s1)
      have b2 := t3 _ w2 (back w2 s2)
      have b3 := s3 _ u1 (forth u1 t1)
      have b4 := s3 _ u2 (forth u2 t2)
      have e1 : g'.1 = g.1 := by omega
      have e2 : g'.2 = g.2 := by omega
      rw [show g' = g from Prod.ext e1 e2]
  have hJ : cutJ vis' (cutL vis L).length = List.range (cutL vis L).length := by
    unfold cutJ
    rw [List.filter_eq_self]
    intro i hi
    rw [List.mem_range] at hi
    have hil : i < (cutJ vis L.length).length := by unfold cutL at hi; rwa [List.length_map] at hi
    obtain ⟨g, _, e⟩ := key i _ (List.getElem?_eq_getElem hil)
    rw [e]; rfl
  apply List.ext_getElem?
  intro i
  have e0 : (cutL vis' (cutL vis L))[i]? = (cutJ vis' (cutL vis L).length)[i]?.map (cutPt vis' (cutL vis L)) := by rw [show cutL vis' (cutL vis L) = (cutJ vis' (cutL vis L).length).map (cutPt vis' (cutL vis L)) from rfl, List.getElem?_map]
  rw [e0, hJ]
  by_cases hi : i < (cutL vis L).length
  · have hil : i < (cutJ vis L.length).length := by unfold cutL at hi; rwa [List.length_map] at hi
    have hj := List.getElem?_eq_getElem hil
    obtain ⟨g, e1, e2⟩ := key i _ hj
    obtain ⟨g0, p, h1, h2, h3, h4, _⟩ := cut_in V hj
    have e0 : (cutL vis L)[i]? = some (cutPt vis L _) := cut_get.mpr ⟨_, hj, rfl⟩
    rw [List.getElem?_eq_getElem (by simpa using hi), e0]
    simp only [List.getElem_range, Option.map_some]
    congr 1
    conv => lhs; unfold cutPt
    rw [getD_of e0, e2, h4]
    rw [h2] at e1; cases e1
    rfl
  · rw [List.getElem?_eq_none (by simpa using hi), List.getElem?_eq_none (by omega)]
    rfl
theorem cut_sum (f : Str → Int) (hf : ∀ p ∈ L, 0 ≤ f p.s.col) : ((cutL vis L).map fun p => f p.s.col).sum ≤ (L.map fun p => f p.s.col).sum := by
  have h1 : (L.map fun p => f p.s.col) = (List.range L.length).map fun j => f (L.getD j pt0).s.col := by
    apply List.ext_getElem (by simp)
    intro i a b
    simp at a
    simp [List.getD_eq_getElem?_getD, List.getElem?_eq_getElem a]
  have h2 : ((cutL vis L).map fun p => f p.s.col) = (cutJ vis L.length).map fun j => f (L.getD j pt0).s.col := by
    unfold cutL
    rw [List.map_map]; rfl
  rw [h1, h2]
  unfold cutJ
  have hn : ∀ j ∈ List.range L.length, 0 ≤ f (L.getD j pt0).s.col := fun j hj => by
    rw [List.mem_range] at hj
    rw [List.getD_eq_getElem?_getD, List.getElem?_eq_getElem hj]
    exact hf _ (List.getElem_mem hj)
  generalize List.range L.length = xs at hn
  induction xs with
  | nil => simp
  | cons x xs ih =>
    have := ih fun j hj => hn j (by simp [hj])
    have h0 := hn x (by simp)
    rw [List.filter_cons]
    split
    · rw [List.map_cons, List.map_cons, List.sum_cons, List.sum_cons]; omega
    · rw [List.map_cons, List.sum_cons]; omega
end

def cutM (row : List Sk) (L : List Pt) : List Pt := ((numL row.length L).zip L).filterMap fun q => (getS (spansM (paintM (laidM row L))) (some q.1)).map fun g => ⟨q.2.slot, ⟨g.1, g.2, q.2.s.col⟩⟩
def visM (row : List Sk) (L : List Pt) (j : Nat) : Option Seg := getS (spansM (paintM (laidM row L))) (some ((numL row.length L).getD j 0))
theorem cut_eq {row : List Sk} {L : List Pt} (h : okLay row.length L) : cutM row L = cutL (visM row L) L := by
  have hl := numL_len h
  have e : (numL row.length L).zip L = (List.range L.length).map fun j => ((numL row.length L).getD j 0, L.getD j pt0) := by
    apply List.ext_getElem (by simp [hl])
    intro i a b
    rw [List.length_zip] at a
    have a1 : i < (numL row.length L).length := by omega
    have a2 : i < L.length := by omega
    simp [List.getD_eq_getElem?_getD, List.getElem?_eq_getElem a1, List.getElem?_eq_getElem a2]
  unfold cutM cutL cutJ
  rw [e, List.filterMap_map]
  generalize List.range L.length = xs
  induction xs with
  | nil => rfl
  | cons x xs ih =>
    rw [List.filterMap_cons, List.filter_cons]
    cases q : visM row L x with
    | none =>
      have : getS (spansM (paintM (laidM row L))) (some ((numL row.length L).getD x 0)) = none := q
      simp only [Function.comp, this, Option.map_none, Option.isSome_none, Bool.false_eq_true, if_false]
      exact ih
    | some g =>
      have q' : getS (spansM (paintM (laidM row L))) (some ((numL row.length L).getD x 0)) = some g := q
      simp only [Function.comp, q', Option.map_some, Option.isSome_some, if_true, List.map_cons]
      congr 1
      unfold cutPt
      rw [q]; rfl
theorem vis_ok {row : List Sk} {L : List Pt} (hr : ∀ s ∈ row, s.ok) (h : okLay row.length L) : VisOk (topM row) L (visM row L) := by
  have pp := paint_pic (laid_row hr h).1
  have hk : ∀ j, j < L.length → (numL row.length L)[j]? = some ((numL row.length L).getD j 0) := fun j hj => by
    have : j < (numL row.length L).length := by rw [numL_len h]; exact hj
    rw [List.getD_eq_getElem?_getD, List.getElem?_eq_getElem this]; rfl
  refine ⟨fun j hj hn x hx hs => ?_, fun j g hj hg => ?_⟩
  · have ht := (top_late h (hk j hj)).mpr hs
    obtain ⟨p, hp, a1, a2, a3⟩ := pp.at hx.1 hx.2
    exact (spans_ok _ _).no hn p hp (by rw [a3, ht])
  · obtain ⟨⟨p, hp, ev, e1⟩, ⟨q, hq, ev', e2⟩, h3⟩ := (spans_ok _ _).yes g hg
    obtain ⟨u1, u2, u3, u4⟩ := pp.val p hp
    obtain ⟨v1, v2, v3, v4⟩ := pp.val q hq
    refine ⟨⟨by omega, by omega⟩, ⟨by omega, by omega⟩, ?_, ?_, fun x hx hs => ?_⟩
    · rw [← e1]; exact (top_late h (hk j hj)).mp (by rw [u4 p.lo (Int.le_refl _) u2]; exact ev)
    · rw [← e2]; exact (top_late h (hk j hj)).mp (by rw [v4 q.hi v2 (Int.le_refl _)]; exact ev')
    · have ht := (top_late h (hk j hj)).mpr hs
      obtain ⟨r, hr', a1, a2, a3⟩ := pp.at hx.1 hx.2
      have := h3 r hr' (by rw [a3, ht])
      omega
end PL
end
section
set_option Elab.async false
set_option linter.all false
set_option maxRecDepth 100000
set_option maxHeartbeats 1000000
namespace PL
open PySem PySem.Spec DL PM

def nameOf (E : List Nat) : Option Nat → Option Int
  | none => none
  | some k => if k ∈ E then some (E.idxOf k : Nat) else some (-1)
def stepE (found : List (Pa (Option Int))) (p : Pa (Option Int)) : List (Pa (Option Int)) := match found.getLast? with
  | some q => if q.v = p.v then found.dropLast ++ [⟨q.lo, p.hi, p.v⟩] else found ++ [p]
  | none => [p]
def eldersM (row : List Sk) (L : List Pt) : List (Pa (Option Int)) := ((paintM (laidM row L)).map (Pa.map (nameOf (numE row.length L)))).foldl stepE []
theorem nameOf_some (E : List Nat) (k : Nat) : nameOf E (some k) = if k ∈ E then some ((E.idxOf k : Nat) : Int) else some (-1) := rfl
theorem colAt_some (row : List Sk) (k : Nat) : colAt row (some k) = some (row.getD k sk0).col := rfl
theorem stepE_go : ∀ (ps found : List (Pa (Option Int))) (a b c : Int), Cov a b found → Cov (b + 1) c ps → ps.foldl stepE found = ps.foldl mergeStep found
  | [], _, _, _, _, _, _ => rfl
  | p :: ps, found, a, b, c, h1, h2 => by
    obtain ⟨k1, k2, k3⟩ := h2
    have e : stepE found p = mergeStep found p ∧ Cov a p.hi (mergeStep found p) := by
      unfold stepE mergeStep
      cases q : found.getLast? with
      | none =>
        have : found = [] := by simpa using q
        subst this
        refine ⟨rfl, ?_⟩
        have h1' : a = b + 1 := h1
        exact ⟨by omega, k2, rfl⟩
      | some r =>
        have es := plast_split q
        rw [es] at h1
        obtain ⟨c1, c2, c3⟩ := cov_snoc.mp h1
        have hadj : r.hi + 1 = p.lo := by omega
        by_cases hv : r.v = p.v
        · simp only [hv, if_true, hadj, and_self]
          exact ⟨trivial, cov_snoc.mpr ⟨c1, by show r.lo ≤ p.hi; omega, rfl⟩⟩
        · simp only [hv, if_false, and_false]
          refine ⟨trivial, ?_⟩
          rw [es]
          exact cov_snoc.mpr ⟨by rw [show p.lo - 1 = b by omega]; exact h1, k2, rfl⟩
    rw [List.foldl_cons, List.foldl_cons, e.1]
    exact stepE_go ps _ a p.hi c e.2 k3
theorem elders_merge {row : List Sk} {L : List Pt} (hr : ∀ s ∈ row, s.ok) (h : okLay row.length L) : eldersM row L = mergeM ((paintM (laidM row L)).map (Pa.map (nameOf (numE row.length L)))) :=
  stepE_go _ [] 0 (-1) LASTI (show (0 : Int) = -1 + 1 by omega) ((paint_cov (laid_row hr h).1).map _)
theorem name_late {row : List Sk} {L : List Pt} (h : okLay row.length L) {x : Int} {j : Nat} (hs : SeenL L (topM row x) x j) : nameOf (numE row.length L) (topM (laidM row L) x) = some (-1) := by
  rcases seen_at h x with ⟨k, j', a1, a2, a3⟩ | ⟨k', g, a1, a2, a3, a4⟩ | ⟨a1, a2, a3⟩
  · rw [a1]
    rw [nameOf_some]
    rw [if_neg fun hm => ?_]
    obtain ⟨i, hi, e⟩ := List.getElem_of_mem hm
    have := (numE_at h).mp (show (numE row.length L)[i]? = some k by rw [← e]; exact List.getElem?_eq_getElem hi)
    rw [a2] at this; cases this
  · exact absurd hs.1 (a4 j)
  · exact absurd hs.1 (a3 j)
theorem name_elder {row : List Sk} {L : List Pt} (h : okLay row.length L) {x : Int} (hs : ∀ i, ¬ cand L (topM row x) x i) : nameOf (numE row.length L) (topM (laidM row L) x) = (topM row x).map fun g => ((g : Nat) : Int) := by
  rcases seen_at h x with ⟨k, j', a1, a2, a3⟩ | ⟨k, g, a1, a2, a3, a4⟩ | ⟨a1, a2, a3⟩
  · exact absurd a3.1 (hs j')
  · rw [a1, a3]
    rw [nameOf_some]
    have e := (numE_at h).mpr a2
    have hm := List.mem_of_getElem? e
    rw [if_pos hm]
    have hi : (numE row.length L).idxOf k < (numE row.length L).length := List.idxOf_lt_length_of_mem hm
    have e2 : (numE row.length L)[(numE row.length L).idxOf k]? = some k := by rw [List.getElem?_eq_getElem hi]; simp
    have e3 := (numE_at h).mp e2
    rw [a2] at e3
    cases e3
    simp
  · rw [a1, a2]; rfl
theorem col_late {row : List Sk} {L : List Pt} (h : okLay row.length L) {x : Int} {j : Nat} {p : Pt} (hs : SeenL L (topM row x) x j) (hp : L[j]? = some p) : colAt (laidM row L) (topM (laidM row L) x) = some p.s.col := by
  rcases seen_at h x with ⟨k, j', a1, a2, a3⟩ | ⟨k', g, a1, a2, a3, a4⟩ | ⟨a1, a2, a3⟩
  · cases hs.uniq a3
    rw [a1]
    rw [colAt_some]
    unfold laidM
    rw [List.getD_eq_getElem?_getD, List.getElem?_map, a2]
    simp [List.getD_eq_getElem?_getD, hp]
  · exact absurd hs.1 (a4 j)
  · exact absurd hs.1 (a3 j)
theorem col_elder {row : List Sk} {L : List Pt} (h : okLay row.length L) {x : Int} (hs : ∀ i, ¬ cand L (topM row x) x i) : colAt (laidM row L) (topM (laidM row L) x) = colAt row (topM row x) := by
  rcases seen_at h x with ⟨k, j', a1, a2, a3⟩ | ⟨k, g, a1, a2, a3, a4⟩ | ⟨a1, a2, a3⟩
  · exact absurd a3.1 (hs j')
  · rw [a1, a3]
    rw [colAt_some, colAt_some]
    unfold laidM
    rw [List.getD_eq_getElem?_getD, List.getElem?_map, a2]
    simp
  · rw [a1, a2]; rfl
theorem Canon.congr {α : Type} {a b : Int} {f g : Int → α} {ps : List (Pa α)} (h : Canon a b f ps) (e : ∀ x, a ≤ x → x ≤ b → f x = g x) : Canon a b g ps :=
  ⟨h.cov, h.alt, fun p hp x h1 h2 => by have := h.cov.mem p hp; rw [← e x (by omega) (by omega)]; exact h.val p hp x h1 h2⟩
section
variable {row : List Sk} {L : List Pt} (hr : ∀ s ∈ row, s.ok) (h : okLay row.length L)
include hr h
theorem cutM_lay : okLay row.length (cutM row L) ∧ (cutM row L).length ≤ L.length := by
  rw [cut_eq h]; exact cut_lay (vis_ok hr h) h
theorem cutM_seen {x : Int} (hx : inW x) : (∃ j p i q, SeenL L (topM row x) x j ∧ L[j]? = some p ∧ SeenL (cutM row L) (topM row x) x i ∧ (cutM row L)[i]? = some q ∧ q.s.col = p.s.col) ∨ ((∀ i, ¬ cand L (topM row x) x i) ∧ ∀ i, ¬ cand (cutM row L) (topM row x) x i) := by
  have V := vis_ok hr h
  rw [cut_eq h]
  by_cases c : ∃ j, cand L (topM row x) x j
  · obtain ⟨j, hj⟩ := c
    obtain ⟨j, hs⟩ := SeenL.ex hj
    obtain ⟨i, hi, hs'⟩ := seen_cut V hx hs
    obtain ⟨g, p, h1, h2, h3, h4, _⟩ := cut_in V hi
    exact .inl ⟨j, p, i, cutPt (visM row L) L j, hs, h3, hs', cut_get.mpr ⟨j, hi, rfl⟩, by rw [h4]⟩
  · refine .inr ⟨fun i hi => c ⟨i, hi⟩, fun i hi => ?_⟩
    obtain ⟨q, eq, _⟩ := id hi
    obtain ⟨j, hj, _⟩ := cut_get.mp eq
    exact c ⟨j, cand_sub V hj hi⟩
theorem cutM_elders : eldersM row (cutM row L) = eldersM row L := by
  have hc := (cutM_lay hr h).1
  rw [elders_merge hr h, elders_merge hr hc]
  have p1 := (paint_pic (laid_row hr h).1).map (nameOf (numE row.length L))
  have p2 := (paint_pic (laid_row hr hc).1).map (nameOf (numE row.length (cutM row L)))
  have c1 := merge_ok ((paint_cov (laid_row hr h).1).map (nameOf (numE row.length L))) fun p hp => (p1.val p hp).2.2.2
  have c2 := merge_ok ((paint_cov (laid_row hr hc).1).map (nameOf (numE row.length (cutM row L)))) fun p hp => (p2.val p hp).2.2.2
  refine c2.eq (c1.congr fun x h1 h2 => ?_)
  rcases cutM_seen hr h (x := x) ⟨h1, h2⟩ with ⟨j, p, i, q, s1, _, s2, _⟩ | ⟨s1, s2⟩
  · rw [name_late h s1, name_late hc s2]
  · rw [name_elder h s1, name_elder hc s2]
theorem cutM_col {x : Int} (hx : inW x) : colAt (laidM row (cutM row L)) (topM (laidM row (cutM row L)) x) = colAt (laidM row L) (topM (laidM row L) x) := by
  have hc := (cutM_lay hr h).1
  rcases cutM_seen hr h hx with ⟨j, p, i, q, s1, e1, s2, e2, e3⟩ | ⟨s1, s2⟩
  · rw [col_late h s1 e1, col_late hc s2 e2, e3]
  · rw [col_elder h s1, col_elder hc s2]
theorem cutM_colours : coloursM (laidM row (cutM row L)) = coloursM (laidM row L) := by
  have hc := (cutM_lay hr h).1
  exact (colours_ok (laid_row hr hc).1).eq ((colours_ok (laid_row hr h).1).congr fun x h1 h2 => (cutM_col hr h ⟨h1, h2⟩).symm)
theorem cutM_again : cutM row (cutM row L) = cutM row L := by
  have hc := (cutM_lay hr h).1
  rw [cut_eq hc]
  have V' := vis_ok hr hc
  generalize visM row (cutM row L) = v at *
  rw [cut_eq h] at V' ⊢
  exact cut_again (vis_ok hr h) V'
theorem cutM_sum (f : Str → Int) (hf : ∀ p ∈ L, 0 ≤ f p.s.col) : ((cutM row L).map fun p => f p.s.col).sum ≤ (L.map fun p => f p.s.col).sum := by
  rw [cut_eq h]; exact cut_sum f hf
theorem cutM_cols {hs : List Str} (hh : ∀ p ∈ L, p.s.col ∈ hs) : ∀ p ∈ cutM row L, p.s.col ∈ hs := by
  rw [cut_eq h]
  intro q hq
  obtain ⟨i, hi, e⟩ := List.getElem_of_mem hq
  have e : (cutL (visM row L) L)[i]? = some q := by rw [← e]; exact List.getElem?_eq_getElem hi
  obtain ⟨j, hj, rfl⟩ := cut_get.mp e
  obtain ⟨g, p, h1, h2, h3, h4, _⟩ := cut_in (vis_ok hr h) hj
  rw [h4]
  exact hh p (List.mem_of_getElem? h3)
theorem cutM_now {w : List Wi} (hw : okWish w) : nowM row w (laidM row (cutM row L)) (numE row.length (cutM row L)) = nowM row w (laidM row L) (numE row.length L) := by
  have hc := (cutM_lay hr h).1
  obtain ⟨a1, a2⟩ := now_ok hr h hw
  obtain ⟨b1, b2⟩ := now_ok hr hc hw
  refine b1.eq a1 fun x => ?_
  rw [a2 x, b2 x]
  refine or_congr (and_congr_right fun hf => ?_) ?_
  · rw [cut_eq h]; exact late_cut (vis_ok hr h) hf.1
  · unfold wrongAt
    constructor
    · rintro ⟨p, hp, h1, h2, h3, h4⟩
      have := hw.ok p hp
      rw [cutM_col hr h ⟨by omega, by unfold LASTI; omega⟩] at h4
      exact ⟨p, hp, h1, h2, h3, h4⟩
    · rintro ⟨p, hp, h1, h2, h3, h4⟩
      have := hw.ok p hp
      rw [← cutM_col hr h ⟨by omega, by unfold LASTI; omega⟩] at h4
      exact ⟨p, hp, h1, h2, h3, h4⟩
theorem cutM_look {k : Lk} (hk : k.ok row.length) (hs : seenM row L k = []) : seenM row (cutM row L) k = [] := by
  have hc := (cutM_lay hr h).1
  obtain ⟨a1, a2⟩ := seen_ok hr h hk
  obtain ⟨b1, b2⟩ := seen_ok hr hc hk
  rw [row_nil a1] at hs
  rw [row_nil b1]
  intro x hx
  obtain ⟨h1, h2, h3⟩ := (b2 x).mp hx
  rw [cut_eq h] at h3
  exact hs x ((a2 x).mpr ⟨h1, h2, late_done (vis_ok hr h) h3⟩)
end
theorem go_none (row : List Sk) (L : List Pt) : ∀ (ks : List Lk) (i : Nat), (∀ k ∈ ks, seenM row L k = []) → brokenGo row L i ks = []
  | [], _, _ => rfl
  | k :: ks, i, h => by
    rw [brokenGo, h k (by simp), go_none row L ks (i + 1) fun c hc => h c (by simp [hc])]
    rfl
theorem cutM_broken {row : List Sk} {L : List Pt} {w : List Wi} {ks : List Lk} (hr : ∀ s ∈ row, s.ok) (h : okLay row.length L) (hw : okWish w) (hk : ∀ k ∈ ks, k.ok row.length) (hs : ∀ k ∈ ks, brokenM row w L [k] = brokenM row w L []) :
    brokenM row w (cutM row L) ks = brokenM row w L ks := by
  have h0 : ∀ k ∈ ks, seenM row L k = [] := fun k hkm => by
    have := hs k hkm
    unfold brokenM at this
    have := List.append_cancel_left this
    simpa [brokenGo] using this
  unfold brokenM
  rw [cutM_now hr h hw, go_none row L ks 0 h0, go_none row (cutM row L) ks 0 fun k hkm => cutM_look hr h (hk k hkm) (h0 k hkm)]
theorem cutM_nested {row : List Sk} {L : List Pt} (hr : ∀ s ∈ row, s.ok) (h : okLay row.length L) {i i' : Nat} {p q : Pt} (hi : (cutM row L)[i]? = some p) (hi' : (cutM row L)[i']? = some q) (hlt : i < i') (hno : ¬ (p.s.lo ≤ q.s.lo ∧ q.s.hi ≤ p.s.hi)) : ¬ (q.s.lo ≤ p.s.hi ∧ p.s.lo ≤ q.s.hi) := by
  rw [cut_eq h] at hi hi'
  exact cut_nested (vis_ok hr h) h hi hi' hlt hno
end PL
end
section
set_option Elab.async false
set_option linter.all false
set_option maxRecDepth 100000
set_option maxHeartbeats 1000000
namespace PL
open PySem PySem.Spec DL PM

abbrev S_is_whole : DSpec := fun ds μ Q _ => ∃ i l, ds = [.int i, .int l] ∧ Q (.bl (decide (l ≤ i))) μ
abbrev S_is_name : DSpec := fun ds μ Q _ => ∃ c, ds = [.str c] ∧ colOk c ∧ Q (.bl true) μ
abbrev S_is_colour : DSpec := S_is_name
abbrev S_is_place : DSpec := fun ds μ Q _ => ∃ i, ds = [.int i] ∧ 0 ≤ i ∧ i ≤ 1000000000 ∧ Q (.bl true) μ
abbrev S_is_stretch : DSpec := fun ds μ Q _ => ∃ a b, ds = [.tup [.int a, .int b]] ∧ 0 ≤ a ∧ a ≤ b ∧ b ≤ 1000000000 ∧ Q (.bl true) μ
abbrev S_is_stroke : DSpec := fun ds μ Q _ => ∃ s : Sk, ds = [s.d] ∧ s.ok ∧ Q (.bl true) μ
abbrev S_joined : DSpec := fun ds μ Q _ => ∃ x, ∃ xs : List Seg, ds = [x] ∧ seqOf μ x = some (xs.map segD) ∧ xs.length ≤ 1000000 ∧ Q (.tup ((joinM xs).map segD)) μ
abbrev S_both : DSpec := fun ds μ Q _ => ∃ x y, ∃ xs ys : List Seg, ds = [x, y] ∧ seqOf μ x = some (xs.map segD) ∧ seqOf μ y = some (ys.map segD) ∧ (∀ p ∈ xs, ok p) ∧ (∀ p ∈ ys, ok p) ∧ xs.length ≤ 1000000 ∧ ys.length ≤ 1000000 ∧ xs.length * ys.length ≤ 16000000 ∧ Q (.tup ((bothM xs ys).map segD)) μ
abbrev S_outside : DSpec := fun ds μ Q _ => ∃ x, ∃ xs : List Seg, ds = [x] ∧ seqOf μ x = some (xs.map segD) ∧ xs.length ≤ 1000000 ∧ Q (.tup ((outM xs).map segD)) μ
abbrev S_apart : DSpec := fun ds μ Q _ => ∃ x y, ∃ xs ys : List Seg, ds = [x, y] ∧ seqOf μ x = some (xs.map segD) ∧ seqOf μ y = some (ys.map segD) ∧ (∀ p ∈ xs, okW p) ∧ (∀ p ∈ ys, okW p) ∧ xs.length ≤ 1000000 ∧ ys.length ≤ 999999 ∧ xs.length * (ys.length + 1) ≤ 16000000 ∧ Q (.tup ((apartM xs ys).map segD)) μ

abbrev S_Book___init__ : DSpec := fun ds μ Q _ => ∃ x y row, ds = [.ref x, y] ∧ (y = .lst (row.map Sk.d) ∨ y = .tup (row.map Sk.d)) ∧ okRow row ∧ μ x = some (.ins "Book" []) ∧ Q .non (μ.set x (.ins "Book" [("row", .lst (row.map Sk.d))]))
abbrev S_Book___len__ : DSpec := fun ds μ Q _ => ∃ bk row, ds = [bk] ∧ isBk μ bk row ∧ Q (.int row.length) μ
abbrev S_Book_strokes : DSpec := fun ds μ Q _ => ∃ bk row, ds = [bk] ∧ isBk μ bk row ∧ Q (.tup (row.map Sk.d)) μ

abbrev S_is_moment : DSpec := fun ds μ Q _ => ∃ bk row m, ds = [bk, .int m] ∧ isBk μ bk row ∧ row.length ≤ 1000 ∧ 0 ≤ m ∧ m ≤ (row.length : Int) ∧ Q (.bl true) μ
abbrev S_done_by : DSpec := fun ds μ Q _ => ∃ bk row m, ds = [bk, optD m] ∧ isBk μ bk row ∧ row.length ≤ 1000 ∧ okMom row.length m ∧ Q (.tup ((takeM row m).map Sk.d)) μ
abbrev S_laid_over : DSpec := fun ds μ Q _ => ∃ ps : List (Pa D), ∃ lo hi g, ds = [.lst (ps.map Pa.d), .int lo, .int hi, g] ∧ ps.length ≤ 1000000 ∧ Q (.lst ((laidOver ps lo hi g).map Pa.d)) μ
abbrev S_painted : DSpec := fun ds μ Q _ => ∃ row : List Sk, ds = [.tup (row.map Sk.d)] ∧ okRow row ∧ Q (.lst ((paintM row).map paD)) μ
abbrev S_merged : DSpec := fun ds μ Q _ => ∃ x, ∃ ps : List (Pa D), ds = [x] ∧ seqOf μ x = some (ps.map Pa.d) ∧ (∀ p ∈ ps, plainN 8 p.v = true) ∧ ps.length ≤ 1000000 ∧ Q (.lst ((mergeM ps).map Pa.d)) μ
abbrev S_picture : DSpec := fun ds μ Q _ => ∃ bk row m, ds = [bk, optD m] ∧ isBk μ bk row ∧ okRow row ∧ okMom row.length m ∧ Q (.tup ((paintM (takeM row m)).map paD)) μ
abbrev S_colours : DSpec := fun ds μ Q _ => ∃ bk row m, ds = [bk, optD m] ∧ isBk μ bk row ∧ okRow row ∧ okMom row.length m ∧ Q (.tup ((coloursM (takeM row m)).map pcD)) μ

abbrev S_is_look : DSpec := fun ds μ Q _ => ∃ bk row, ∃ k : Lk, ds = [bk, k.d] ∧ isBk μ bk row ∧ row.length ≤ 1000 ∧ k.ok row.length ∧ Q (.bl true) μ
abbrev S_are_looks : DSpec := fun ds μ Q _ => ∃ bk row ks, ds = [bk, looksD ks] ∧ isBk μ bk row ∧ row.length ≤ 1000 ∧ okLooks row.length ks ∧ Q (.bl true) μ
abbrev S_need_looks : DSpec := fun ds μ Q _ => ∃ bk row ks, ds = [bk, looksD ks] ∧ isBk μ bk row ∧ row.length ≤ 1000 ∧ okLooks row.length ks ∧ Q .non μ
abbrev S_shown : DSpec := fun ds μ Q _ => ∃ bk row, ∃ k : Lk, ds = [bk, k.d] ∧ isBk μ bk row ∧ okRow row ∧ k.ok row.length ∧ Q (.tup ((shownM row k).map paD)) μ

abbrev S_is_part : DSpec := fun ds μ Q _ => ∃ p : Wi, ds = [pcD p] ∧ 0 ≤ p.lo ∧ p.lo ≤ p.hi ∧ p.hi ≤ 1000000000 ∧ (∀ c, p.v = some c → colOk c) ∧ Q (.bl true) μ
abbrev S_is_wish : DSpec := fun ds μ Q _ => ∃ w, ds = [wishD w] ∧ okWish w ∧ Q (.bl true) μ
abbrev S_need_wish : DSpec := fun ds μ Q _ => ∃ w, ds = [wishD w] ∧ okWish w ∧ Q .non μ
abbrev S_firm : DSpec := fun ds μ Q _ => ∃ w, ds = [wishD w] ∧ okWish w ∧ Q (.tup ((firmM w).map segD)) μ
abbrev S_beneath : DSpec := fun ds μ Q _ => ∃ (ps : List (Pa (Option Nat))) (slot : Int), ds = [.tup (ps.map paD), .int slot] ∧ ps.length ≤ 1000000 ∧ Q (.lst ((beneathM ps slot).map segD)) μ
abbrev S_walls : DSpec := fun ds μ Q _ => ∃ bk row w ks, ∃ slot : Int, ds = [bk, wishD w, .int slot, looksD ks] ∧ isBk μ bk row ∧ okRow row ∧ okWish w ∧ okLooks row.length ks ∧ 0 ≤ slot ∧ slot ≤ (row.length : Int) ∧ row.length ≤ 60 ∧ Q (.tup ((wallsM row w slot ks).map segD)) μ
abbrev S_gaps : DSpec := fun ds μ Q _ => ∃ bk row w ks, ∃ slot : Int, ds = [bk, wishD w, .int slot, looksD ks] ∧ isBk μ bk row ∧ okRow row ∧ okWish w ∧ okLooks row.length ks ∧ 0 ≤ slot ∧ slot ≤ (row.length : Int) ∧ row.length ≤ 60 ∧ Q (.tup ((gapsM row w slot ks).map segD)) μ

abbrev S_is_putting : DSpec := fun ds μ Q _ => ∃ (p : Pt) (n : Int), ds = [p.d, .int n] ∧ 0 ≤ p.slot ∧ p.slot ≤ n ∧ p.s.ok ∧ Q (.bl true) μ
abbrev S_is_laying : DSpec := fun ds μ Q _ => ∃ bk row L, ds = [bk, layD L] ∧ isBk μ bk row ∧ row.length ≤ 1000 ∧ okLay row.length L ∧ Q (.bl true) μ
abbrev S_need_laying : DSpec := fun ds μ Q _ => ∃ bk row L, ds = [bk, layD L] ∧ isBk μ bk row ∧ row.length ≤ 1000 ∧ okLay row.length L ∧ Q .non μ
abbrev S_woven : DSpec := fun ds μ Q _ => ∃ n L, ds = [.int ((n : Nat) : Int), layD L] ∧ n ≤ 1000 ∧ okLay n L ∧ Q (.lst ((wv n L).map wD)) μ
abbrev S_laid_by : DSpec := fun ds μ Q _ => ∃ bk row L, ds = [bk, layD L] ∧ isBk μ bk row ∧ okRow row ∧ row.length + L.length ≤ 1000 ∧ okLay row.length L ∧ Q (bookD (laidM row L)) μ
abbrev S_laid : DSpec := S_laid_by
abbrev S_numbers : DSpec := fun ds μ Q _ => ∃ bk row L, ds = [bk, layD L] ∧ isBk μ bk row ∧ row.length ≤ 1000 ∧ okLay row.length L ∧ Q (.tup [.lst ((numE row.length L).map fun i => .int (i : Nat)), .lst ((numL row.length L).map fun i => .int (i : Nat))]) μ
abbrev S_moved : DSpec := fun ds μ Q _ => ∃ k : Lk, ∃ L, ds = [k.d, layD L] ∧ L.length ≤ 1000 ∧ Q (movedM k L).d μ
abbrev S_led_over : DSpec := fun ds μ Q _ => ∃ bk row, ∃ k : Lk, ∃ L, ds = [bk, k.d, layD L] ∧ isBk μ bk row ∧ row.length ≤ 1000 ∧ k.ok row.length ∧ okLay row.length L ∧ Q (movedM k L).d μ
abbrev S_renumbered : DSpec := fun ds μ Q _ => ∃ (ps : List (Pa (Option Nat))) (E : List Nat), ds = [.tup (ps.map paD), .lst (E.map fun i => .int (i : Nat))] ∧ ps.length ≤ 1000000 ∧ (∀ p ∈ ps, ∀ g, p.v = some g → g < E.length) ∧ Q (.lst (ps.map fun p => paD (p.map (renum E)))) μ
abbrev S_unlike : DSpec := fun ds μ Q _ => ∃ x y, ∃ ps qs : List (Pa D), ds = [x, y] ∧ seqOf μ x = some (ps.map Pa.d) ∧ seqOf μ y = some (qs.map Pa.d) ∧ (∀ p ∈ ps, plainN 8 p.v = true) ∧ (∀ p ∈ qs, plainN 8 p.v = true) ∧ ps.length ≤ 1000 ∧ qs.length ≤ 1000 ∧ Q (.tup ((unlikeM ps qs).map segD)) μ
structure okBr (row : List Sk) (w : List Wi) (L : List Pt) (ks : List Lk) : Prop where
  rok : okRow row
  few : row.length + L.length ≤ 100
  lay : okLay row.length L
  wish : okWish w
  looks : okLooks row.length ks
abbrev S_wrong_now : DSpec := fun ds μ Q _ => ∃ bk row w L, ds = [bk, wishD w, bookD (laidM row L), .lst ((numE row.length L).map fun i => .int (i : Nat))] ∧ isBk μ bk row ∧ okBr row w L [] ∧ Q (.tup ((nowM row w (laidM row L) (numE row.length L)).map segD)) μ
abbrev S_need_all : DSpec := fun ds μ Q _ => ∃ bk row w L ks, ds = [bk, wishD w, layD L, looksD ks] ∧ isBk μ bk row ∧ okBr row w L ks ∧ Q .non μ
abbrev S_broken : DSpec := fun ds μ Q _ => ∃ bk row w L ks, ds = [bk, wishD w, layD L, looksD ks] ∧ isBk μ bk row ∧ okBr row w L ks ∧ Q (.lst ((brokenM row w L ks).map Br.d)) μ
abbrev S_is_right : DSpec := fun ds μ Q _ => ∃ bk row w L ks, ds = [bk, wishD w, layD L, looksD ks] ∧ isBk μ bk row ∧ okBr row w L ks ∧ Q (.bl (decide (brokenM row w L ks = []))) μ
abbrev S_are_prices : DSpec := fun ds μ Q _ => ∃ kvs, ds = [prD kvs] ∧ okPr kvs ∧ Q (.bl true) μ
abbrev S_need_prices : DSpec := fun ds μ Q _ => ∃ kvs, ds = [prD kvs] ∧ okPr kvs ∧ Q .non μ
abbrev S_need_colours : DSpec := fun ds μ Q _ => ∃ (kvs : List (Str × Int)) (cs : List Str), ds = [prD kvs, .lst (cs.map .str)] ∧ cs.length ≤ 1000 ∧ (∀ c ∈ cs, c ∈ kvs.map (·.1)) ∧ Q .non μ
abbrev S_price_of : DSpec := fun ds μ Q _ => ∃ bk row L kvs, ds = [bk, layD L, prD kvs] ∧ isBk μ bk row ∧ row.length ≤ 1000 ∧ okLay row.length L ∧ okPr kvs ∧ (∀ p ∈ L, p.s.col ∈ kvs.map (·.1)) ∧ Q (.int ((L.map fun p => price kvs p.s.col).sum)) μ
abbrev S_cut_back : DSpec := fun ds μ Q _ => ∃ bk row L, ds = [bk, layD L] ∧ isBk μ bk row ∧ okRow row ∧ row.length + L.length ≤ 100 ∧ okLay row.length L ∧ Q (layD (cutM row L)) μ
abbrev S_behind : DSpec := fun ds μ Q _ => ∃ bk row A B, ds = [bk, layD A, layD B] ∧ isBk μ bk row ∧ okRow row ∧ row.length + A.length + B.length ≤ 1000 ∧ okLay row.length A ∧ okLay (row.length + A.length) B ∧ Q (layD (behM row.length A B)) μ
end PL
end
section
set_option Elab.async false
set_option linter.all false
set_option maxRecDepth 100000
set_option maxHeartbeats 0
namespace K
open PySem PySem.Spec DL C8 L2 PL
noncomputable section
def n_Book___len__ : List Str := ["self"]
noncomputable def b_Book___len__ : DSs := (.cons (.ret (.std oLen (.cons (.app (oFld "Book" "row") (.cons (.var 0) .nil)) .nil)))
  .nil)
def n_Book_strokes : List Str := ["self"]
noncomputable def b_Book_strokes : DSs := (.cons (.ret (.std oTuple (.cons (.app (oFld "Book" "row") (.cons (.var 0) .nil)) .nil)))
  .nil)
def n_beneath : List Str := ["parts", "slot", "low", "high", "giver"]
noncomputable def b_beneath : DSs := (.cons (.ret (.lc false iSeq (.cons (.var 0) .nil) (.tup (.cons (.name 2) (.cons (.name 3) (.cons (.name 4) .nil)))) (.cons (.bop false (.cons (.std oIsN (.cons (.var 4) (.cons (.con .non) .nil))) (.cons (.std oLt (.cons (.var 4) (.cons (.var 1) .nil))) .nil))) .nil) (.std oTup (.cons (.var 2) (.cons (.var 3) .nil))) [("low", 2), ("high", 3), ("giver", 4)]))
  .nil)
def n_is_name : List Str := ["thing", "sign"]
noncomputable def b_is_name : DSs := (.cons (.ret (.bop true (.cons (.std oIsi (.cons (.var 0) (.cons (.bty "str") .nil))) (.cons (.chain true true (.con (.int 1)) (.std oLen (.cons (.var 0) .nil)) (.app (oGlo "MOST_LETTERS" (.int 8)) .nil)) (.cons (.std oAll (.cons (.lc false iStr (.cons (.var 0) .nil) (.name 1) .nil (.std oInSign (.cons (.var 1) (.cons (.app (oGlo "ALPHABET" (.str "abcdefghijklmnopqrstuvwxyz")) .nil) .nil))) [("sign", 1)]) .nil)) .nil)))))
  .nil)
def n_is_whole : List Str := ["thing", "least"]
noncomputable def b_is_whole : DSs := (.cons (.ret (.bop true (.cons (.std oIsi (.cons (.var 0) (.cons (.bty "int") .nil))) (.cons (.not (.std oIsi (.cons (.var 0) (.cons (.bty "bool") .nil)))) (.cons (.std oGe (.cons (.var 0) (.cons (.var 1) .nil))) .nil)))))
  .nil)
def n_joined : List Str := ["some", "found", "low", "high"]
noncomputable def b_joined : DSs := (.cons (.asg (.name 1) (.std oLstM .nil))
  (.cons (.for_ iSeq (.cons (.std oSortD (.cons (.var 0) .nil)) .nil) (.tup (.cons (.name 2) (.cons (.name 3) .nil)))
  (.cons (.if_ (.bop true (.cons (.std oNe (.cons (.var 1) (.cons (.std oLst .nil) .nil))) (.cons (.std oLe (.cons (.var 2) (.cons (.std oAdd (.cons (.std oIx (.cons (.std oIx (.cons (.var 1) (.cons (.std oNeg (.cons (.con (.int 1)) .nil)) .nil))) (.cons (.con (.int 1)) .nil))) (.cons (.con (.int 1)) .nil))) .nil))) .nil)))
  (.cons (.std stSetIx (.cons (.std oTup (.cons (.std oIx (.cons (.std oIx (.cons (.var 1) (.cons (.std oNeg (.cons (.con (.int 1)) .nil)) .nil))) (.cons (.con (.int 0)) .nil))) (.cons (.std oMax2 (.cons (.std oIx (.cons (.std oIx (.cons (.var 1) (.cons (.std oNeg (.cons (.con (.int 1)) .nil)) .nil))) (.cons (.con (.int 1)) .nil))) (.cons (.var 3) .nil))) .nil))) (.cons (.var 1) (.cons (.std oNeg (.cons (.con (.int 1)) .nil)) .nil))))
  .nil)
  (.cons (.expr (.std oAppend (.cons (.var 1) (.cons (.std oTup (.cons (.var 2) (.cons (.var 3) .nil))) .nil))))
  .nil))
  .nil))
  (.cons (.ret (.std oTuple (.cons (.var 1) .nil)))
  .nil)))
def n_laid_over : List Str := ["parts", "low", "high", "giver", "before", "behind", "a", "b", "one"]
noncomputable def b_laid_over : DSs := (.cons (.asg (.name 4) (.lc false iSeq (.cons (.var 0) .nil) (.tup (.cons (.name 6) (.cons (.name 7) (.cons (.name 8) .nil)))) (.cons (.std oLt (.cons (.var 6) (.cons (.var 1) .nil))) .nil) (.std oTup (.cons (.var 6) (.cons (.std oMin2 (.cons (.var 7) (.cons (.std oSub (.cons (.var 1) (.cons (.con (.int 1)) .nil))) .nil))) (.cons (.var 8) .nil)))) [("a", 6), ("b", 7), ("one", 8)]))
  (.cons (.asg (.name 5) (.lc false iSeq (.cons (.var 0) .nil) (.tup (.cons (.name 6) (.cons (.name 7) (.cons (.name 8) .nil)))) (.cons (.std oGt (.cons (.var 7) (.cons (.var 2) .nil))) .nil) (.std oTup (.cons (.std oMax2 (.cons (.var 6) (.cons (.std oAdd (.cons (.var 2) (.cons (.con (.int 1)) .nil))) .nil))) (.cons (.var 7) (.cons (.var 8) .nil)))) [("a", 6), ("b", 7), ("one", 8)]))
  (.cons (.ret (.std oAdd (.cons (.std oAdd (.cons (.var 4) (.cons (.std oLst (.cons (.std oTup (.cons (.var 1) (.cons (.var 2) (.cons (.var 3) .nil)))) .nil)) .nil))) (.cons (.var 5) .nil))))
  .nil)))
def n_merged : List Str := ["parts", "found", "low", "high", "one"]
noncomputable def b_merged : DSs := (.cons (.asg (.name 1) (.std oLstM .nil))
  (.cons (.for_ iSeq (.cons (.var 0) .nil) (.tup (.cons (.name 2) (.cons (.name 3) (.cons (.name 4) .nil))))
  (.cons (.if_ (.bop true (.cons (.std oNe (.cons (.var 1) (.cons (.std oLst .nil) .nil))) (.cons (.std oEq (.cons (.std oAdd (.cons (.std oIx (.cons (.std oIx (.cons (.var 1) (.cons (.std oNeg (.cons (.con (.int 1)) .nil)) .nil))) (.cons (.con (.int 1)) .nil))) (.cons (.con (.int 1)) .nil))) (.cons (.var 2) .nil))) (.cons (.std oEq (.cons (.std oIx (.cons (.std oIx (.cons (.var 1) (.cons (.std oNeg (.cons (.con (.int 1)) .nil)) .nil))) (.cons (.con (.int 2)) .nil))) (.cons (.var 4) .nil))) .nil))))
  (.cons (.std stSetIx (.cons (.std oTup (.cons (.std oIx (.cons (.std oIx (.cons (.var 1) (.cons (.std oNeg (.cons (.con (.int 1)) .nil)) .nil))) (.cons (.con (.int 0)) .nil))) (.cons (.var 3) (.cons (.var 4) .nil)))) (.cons (.var 1) (.cons (.std oNeg (.cons (.con (.int 1)) .nil)) .nil))))
  .nil)
  (.cons (.expr (.std oAppend (.cons (.var 1) (.cons (.std oTup (.cons (.var 2) (.cons (.var 3) (.cons (.var 4) .nil)))) .nil))))
  .nil))
  .nil))
  (.cons (.ret (.frz (.var 1)))
  .nil)))
def n_moved : List Str := ["look", "laying", "moment", "low", "high", "one"]
noncomputable def b_moved : DSs := (.cons (.asg (.tup (.cons (.name 2) (.cons (.name 3) (.cons (.name 4) .nil)))) (.var 0))
  (.cons (.ret (.std oTup (.cons (.std oAdd (.cons (.var 2) (.cons (.std oLen (.cons (.lc false iSeq (.cons (.var 1) .nil) (.name 5) (.cons (.std oLt (.cons (.std oIx (.cons (.var 5) (.cons (.con (.int 0)) .nil))) (.cons (.var 2) .nil))) .nil) (.var 5) [("one", 5)]) .nil)) .nil))) (.cons (.var 3) (.cons (.var 4) .nil)))))
  .nil))
def n_renumbered : List Str := ["seen", "elder", "low", "high", "one"]
noncomputable def b_renumbered : DSs := (.cons (.ret (.lc false iSeq (.cons (.var 0) .nil) (.tup (.cons (.name 2) (.cons (.name 3) (.cons (.name 4) .nil)))) .nil (.std oTup (.cons (.var 2) (.cons (.var 3) (.cons (.ife (.std oIsN (.cons (.var 4) (.cons (.con .non) .nil))) (.con .non) (.std oIx (.cons (.var 1) (.cons (.var 4) .nil)))) .nil)))) [("low", 2), ("high", 3), ("one", 4)]))
  .nil)
def n_woven : List Str := ["size", "laying", "found", "slot", "number", "one"]
noncomputable def b_woven : DSs := (.cons (.asg (.name 2) (.std oLstM .nil))
  (.cons (.for_ iRng1 (.cons (.std oAdd (.cons (.var 0) (.cons (.con (.int 1)) .nil))) .nil) (.name 3)
  (.cons (.expr (.std oExtend (.cons (.var 2) (.cons (.lc false iEnum (.cons (.var 1) .nil) (.tup (.cons (.name 4) (.cons (.name 5) .nil))) (.cons (.std oEq (.cons (.std oIx (.cons (.var 5) (.cons (.con (.int 0)) .nil))) (.cons (.var 3) .nil))) .nil) (.std oTup (.cons (.con (.bl true)) (.cons (.var 4) .nil))) [("number", 4), ("one", 5)]) .nil))))
  (.cons (.if_ (.std oLt (.cons (.var 3) (.cons (.var 0) .nil)))
  (.cons (.expr (.std oAppend (.cons (.var 2) (.cons (.std oTup (.cons (.con (.bl false)) (.cons (.var 3) .nil))) .nil))))
  .nil)
  .nil)
  .nil)))
  (.cons (.ret (.frz (.var 2)))
  .nil)))
def n_both : List Str := ["some", "others", "found", "left", "low", "high", "begin", "end"]
noncomputable def b_both : DSs := (.cons (.asg (.name 2) (.std oLstM .nil))
  (.cons (.asg (.name 3) (.std oListM (.cons (.app (oFn "joined" 1 [] S_joined) (.cons (.var 1) .nil)) .nil)))
  (.cons (.for_ iSeq (.cons (.app (oFn "joined" 1 [] S_joined) (.cons (.var 0) .nil)) .nil) (.tup (.cons (.name 4) (.cons (.name 5) .nil)))
  (.cons (.while_ (.bop true (.cons (.std oNe (.cons (.var 3) (.cons (.std oLst .nil) .nil))) (.cons (.std oLt (.cons (.std oIx (.cons (.std oIx (.cons (.var 3) (.cons (.con (.int 0)) .nil))) (.cons (.con (.int 1)) .nil))) (.cons (.var 4) .nil))) .nil)))
  (.cons (.expr (.std oPop (.cons (.var 3) (.cons (.con (.int 0)) .nil))))
  .nil))
  (.cons (.expr (.std oExtend (.cons (.var 2) (.cons (.lc false iSeq (.cons (.var 3) .nil) (.tup (.cons (.name 6) (.cons (.name 7) .nil))) (.cons (.std oLe (.cons (.var 6) (.cons (.var 5) .nil))) .nil) (.std oTup (.cons (.std oMax2 (.cons (.var 4) (.cons (.var 6) .nil))) (.cons (.std oMin2 (.cons (.var 5) (.cons (.var 7) .nil))) .nil))) [("begin", 6), ("end", 7)]) .nil))))
  .nil)))
  (.cons (.ret (.std oTuple (.cons (.var 2) .nil)))
  .nil))))
def n_is_colour : List Str := ["thing"]
noncomputable def b_is_colour : DSs := (.cons (.ret (.app (oFn "is_name" 1 [] S_is_name) (.cons (.var 0) .nil)))
  .nil)
def n_is_place : List Str := ["thing"]
noncomputable def b_is_place : DSs := (.cons (.ret (.bop true (.cons (.app (oFn "is_whole" 1 [.int 0] S_is_whole) (.cons (.var 0) .nil)) (.cons (.std oLe (.cons (.var 0) (.cons (.app (oGlo "LAST" (.int 1000000000)) .nil) .nil))) .nil))))
  .nil)
def n_outside : List Str := ["some", "found", "at", "low", "high"]
noncomputable def b_outside : DSs := (.cons (.asg (.name 1) (.std oLstM .nil))
  (.cons (.asg (.name 2) (.con (.int 0)))
  (.cons (.for_ iSeq (.cons (.app (oFn "joined" 1 [] S_joined) (.cons (.var 0) .nil)) .nil) (.tup (.cons (.name 3) (.cons (.name 4) .nil)))
  (.cons (.if_ (.std oLt (.cons (.var 2) (.cons (.var 3) .nil)))
  (.cons (.expr (.std oAppend (.cons (.var 1) (.cons (.std oTup (.cons (.var 2) (.cons (.std oSub (.cons (.var 3) (.cons (.con (.int 1)) .nil))) .nil))) .nil))))
  .nil)
  .nil)
  (.cons (.asg (.name 2) (.std oAdd (.cons (.var 4) (.cons (.con (.int 1)) .nil))))
  .nil)))
  (.cons (.if_ (.std oLe (.cons (.var 2) (.cons (.app (oGlo "LAST" (.int 1000000000)) .nil) .nil)))
  (.cons (.expr (.std oAppend (.cons (.var 1) (.cons (.std oTup (.cons (.var 2) (.cons (.app (oGlo "LAST" (.int 1000000000)) .nil) .nil))) .nil))))
  .nil)
  .nil)
  (.cons (.ret (.std oTuple (.cons (.var 1) .nil)))
  .nil)))))
def n_painted : List Str := ["some", "parts", "number", "low", "high", "colour"]
noncomputable def b_painted : DSs := (.cons (.asg (.name 1) (.std oLst (.cons (.std oTup (.cons (.con (.int 0)) (.cons (.app (oGlo "LAST" (.int 1000000000)) .nil) (.cons (.con .non) .nil)))) .nil)))
  (.cons (.for_ iEnum (.cons (.var 0) .nil) (.tup (.cons (.name 2) (.cons (.tup (.cons (.name 3) (.cons (.name 4) (.cons (.name 5) .nil)))) .nil)))
  (.cons (.asg (.name 1) (.app (oFn "laid_over" 4 [] S_laid_over) (.cons (.var 1) (.cons (.var 3) (.cons (.var 4) (.cons (.var 2) .nil))))))
  .nil))
  (.cons (.ret (.var 1))
  .nil)))
def n_unlike : List Str := ["seen", "others", "found", "low", "high", "one", "start", "stop", "other"]
noncomputable def b_unlike : DSs := (.cons (.asg (.name 2) (.std oLstM .nil))
  (.cons (.for_ iSeq (.cons (.var 0) .nil) (.tup (.cons (.name 3) (.cons (.name 4) (.cons (.name 5) .nil))))
  (.cons (.for_ iSeq (.cons (.var 1) .nil) (.tup (.cons (.name 6) (.cons (.name 7) (.cons (.name 8) .nil))))
  (.cons (.if_ (.bop true (.cons (.std oNe (.cons (.var 5) (.cons (.var 8) .nil))) (.cons (.std oLe (.cons (.std oMax2 (.cons (.var 3) (.cons (.var 6) .nil))) (.cons (.std oMin2 (.cons (.var 4) (.cons (.var 7) .nil))) .nil))) .nil)))
  (.cons (.expr (.std oAppend (.cons (.var 2) (.cons (.std oTup (.cons (.std oMax2 (.cons (.var 3) (.cons (.var 6) .nil))) (.cons (.std oMin2 (.cons (.var 4) (.cons (.var 7) .nil))) .nil))) .nil))))
  .nil)
  .nil)
  .nil))
  .nil))
  (.cons (.ret (.app (oFn "joined" 1 [] S_joined) (.cons (.var 2) .nil)))
  .nil)))
def n_apart : List Str := ["some", "others"]
noncomputable def b_apart : DSs := (.cons (.ret (.app (oFn "both" 2 [] S_both) (.cons (.var 0) (.cons (.app (oFn "outside" 1 [] S_outside) (.cons (.var 1) .nil)) .nil))))
  .nil)
def n_is_moment : List Str := ["book", "thing"]
noncomputable def b_is_moment : DSs := (.cons (.ret (.bop true (.cons (.app (oFn "is_place" 1 [] S_is_place) (.cons (.var 1) .nil)) (.cons (.std oLe (.cons (.var 1) (.cons (.app (oLenO "Book" S_Book___len__) (.cons (.var 0) .nil)) .nil))) .nil))))
  .nil)
def n_is_stretch : List Str := ["thing"]
noncomputable def b_is_stretch : DSs := (.cons (.if_ (.bop false (.cons (.not (.std oIsi (.cons (.var 0) (.cons (.bty "tuple") .nil)))) (.cons (.std oNe (.cons (.std oLen (.cons (.var 0) .nil)) (.cons (.con (.int 2)) .nil))) .nil)))
  (.cons (.ret (.con (.bl false)))
  .nil)
  .nil)
  (.cons (.ret (.bop true (.cons (.app (oFn "is_place" 1 [] S_is_place) (.cons (.std oIx (.cons (.var 0) (.cons (.con (.int 0)) .nil))) .nil)) (.cons (.app (oFn "is_place" 1 [] S_is_place) (.cons (.std oIx (.cons (.var 0) (.cons (.con (.int 1)) .nil))) .nil)) (.cons (.std oLe (.cons (.std oIx (.cons (.var 0) (.cons (.con (.int 0)) .nil))) (.cons (.std oIx (.cons (.var 0) (.cons (.con (.int 1)) .nil))) .nil))) .nil)))))
  .nil))
def n_done_by : List Str := ["book", "moment"]
noncomputable def b_done_by : DSs := (.cons (.if_ (.std oIsN (.cons (.var 1) (.cons (.con .non) .nil)))
  (.cons (.ret (.app (oMeth "Book" "strokes" 0 [] S_Book_strokes) (.cons (.var 0) .nil)))
  .nil)
  .nil)
  (.cons (.if_ (.not (.app (oFn "is_moment" 2 [] S_is_moment) (.cons (.var 0) (.cons (.var 1) .nil))))
  (.cons (.app (sRaise "NoMoment") .nil)
  .nil)
  .nil)
  (.cons (.ret (.std (oSl false true) (.cons (.app (oMeth "Book" "strokes" 0 [] S_Book_strokes) (.cons (.var 0) .nil)) (.cons (.var 1) .nil))))
  .nil)))
def n_is_look : List Str := ["book", "thing"]
noncomputable def b_is_look : DSs := (.cons (.if_ (.bop false (.cons (.not (.std oIsi (.cons (.var 1) (.cons (.bty "tuple") .nil)))) (.cons (.std oNe (.cons (.std oLen (.cons (.var 1) .nil)) (.cons (.con (.int 3)) .nil))) .nil)))
  (.cons (.ret (.con (.bl false)))
  .nil)
  .nil)
  (.cons (.ret (.bop true (.cons (.app (oFn "is_moment" 2 [] S_is_moment) (.cons (.var 0) (.cons (.std oIx (.cons (.var 1) (.cons (.con (.int 0)) .nil))) .nil))) (.cons (.app (oFn "is_stretch" 1 [] S_is_stretch) (.cons (.std (oSl true false) (.cons (.var 1) (.cons (.con (.int 1)) .nil))) .nil)) .nil))))
  .nil))
def n_is_part : List Str := ["thing"]
noncomputable def b_is_part : DSs := (.cons (.if_ (.bop false (.cons (.not (.std oIsi (.cons (.var 0) (.cons (.bty "tuple") .nil)))) (.cons (.std oNe (.cons (.std oLen (.cons (.var 0) .nil)) (.cons (.con (.int 3)) .nil))) (.cons (.not (.app (oFn "is_stretch" 1 [] S_is_stretch) (.cons (.std (oSl false true) (.cons (.var 0) (.cons (.con (.int 2)) .nil))) .nil))) .nil))))
  (.cons (.ret (.con (.bl false)))
  .nil)
  .nil)
  (.cons (.ret (.bop false (.cons (.std oIsN (.cons (.std oIx (.cons (.var 0) (.cons (.con (.int 2)) .nil))) (.cons (.con .non) .nil))) (.cons (.app (oFn "is_colour" 1 [] S_is_colour) (.cons (.std oIx (.cons (.var 0) (.cons (.con (.int 2)) .nil))) .nil)) .nil))))
  .nil))
def n_is_stroke : List Str := ["thing"]
noncomputable def b_is_stroke : DSs := (.cons (.ret (.bop true (.cons (.std oIsi (.cons (.var 0) (.cons (.bty "tuple") .nil))) (.cons (.std oEq (.cons (.std oLen (.cons (.var 0) .nil)) (.cons (.con (.int 3)) .nil))) (.cons (.app (oFn "is_stretch" 1 [] S_is_stretch) (.cons (.std (oSl false true) (.cons (.var 0) (.cons (.con (.int 2)) .nil))) .nil)) (.cons (.app (oFn "is_colour" 1 [] S_is_colour) (.cons (.std oIx (.cons (.var 0) (.cons (.con (.int 2)) .nil))) .nil)) .nil))))))
  .nil)
def n_Book___init__ : List Str := ["self", "strokes", "one"]
noncomputable def b_Book___init__ : DSs := (.cons (.if_ (.bop false (.cons (.not (.std oIsi (.cons (.var 1) (.cons (.std oTup (.cons (.bty "tuple") (.cons (.bty "list") .nil))) .nil)))) (.cons (.not (.std oAll (.cons (.lc false iSeq (.cons (.var 1) .nil) (.name 2) .nil (.app (oFn "is_stroke" 1 [] S_is_stroke) (.cons (.var 2) .nil)) [("one", 2)]) .nil))) .nil)))
  (.cons (.app (sRaise "BadStroke") .nil)
  .nil)
  .nil)
  (.cons (.app (sSetF "Book" "row") (.cons (.std oList (.cons (.var 1) .nil)) (.cons (.var 0) .nil)))
  .nil))
def n_are_looks : List Str := ["book", "thing", "one"]
noncomputable def b_are_looks : DSs := (.cons (.ret (.bop true (.cons (.std oIsi (.cons (.var 1) (.cons (.bty "tuple") .nil))) (.cons (.std oLe (.cons (.std oLen (.cons (.var 1) .nil)) (.cons (.app (oGlo "MOST_LOOKS" (.int 20)) .nil) .nil))) (.cons (.std oAll (.cons (.lc false iSeq (.cons (.var 1) .nil) (.name 2) .nil (.app (oFn "is_look" 2 [] S_is_look) (.cons (.var 0) (.cons (.var 2) .nil))) [("one", 2)]) .nil)) .nil)))))
  .nil)
def n_colours : List Str := ["book", "moment", "some", "low", "high", "one"]
noncomputable def b_colours : DSs := (.cons (.asg (.name 2) (.app (oFn "done_by" 2 [] S_done_by) (.cons (.var 0) (.cons (.var 1) .nil))))
  (.cons (.ret (.std oTuple (.cons (.app (oFn "merged" 1 [] S_merged) (.cons (.lc false iSeq (.cons (.app (oFn "painted" 1 [] S_painted) (.cons (.var 2) .nil)) .nil) (.tup (.cons (.name 3) (.cons (.name 4) (.cons (.name 5) .nil)))) .nil (.std oTup (.cons (.var 3) (.cons (.var 4) (.cons (.ife (.std oIsN (.cons (.var 5) (.cons (.con .non) .nil))) (.con .non) (.std oIx (.cons (.std oIx (.cons (.var 2) (.cons (.var 5) .nil))) (.cons (.con (.int 2)) .nil)))) .nil)))) [("low", 3), ("high", 4), ("one", 5)]) .nil)) .nil)))
  .nil))
def n_is_putting : List Str := ["thing", "most"]
noncomputable def b_is_putting : DSs := (.cons (.if_ (.bop false (.cons (.not (.std oIsi (.cons (.var 0) (.cons (.bty "tuple") .nil)))) (.cons (.std oNe (.cons (.std oLen (.cons (.var 0) .nil)) (.cons (.con (.int 4)) .nil))) .nil)))
  (.cons (.ret (.con (.bl false)))
  .nil)
  .nil)
  (.cons (.ret (.bop true (.cons (.app (oFn "is_whole" 1 [.int 0] S_is_whole) (.cons (.std oIx (.cons (.var 0) (.cons (.con (.int 0)) .nil))) .nil)) (.cons (.std oLe (.cons (.std oIx (.cons (.var 0) (.cons (.con (.int 0)) .nil))) (.cons (.var 1) .nil))) (.cons (.app (oFn "is_stroke" 1 [] S_is_stroke) (.cons (.std (oSl true false) (.cons (.var 0) (.cons (.con (.int 1)) .nil))) .nil)) .nil)))))
  .nil))
def n_is_wish : List Str := ["thing", "one", "other"]
noncomputable def b_is_wish : DSs := (.cons (.if_ (.bop false (.cons (.not (.std oIsi (.cons (.var 0) (.cons (.bty "tuple") .nil)))) (.cons (.std oGt (.cons (.std oLen (.cons (.var 0) .nil)) (.cons (.app (oGlo "MOST_STRETCHES" (.int 12)) .nil) .nil))) (.cons (.not (.std oAll (.cons (.lc false iSeq (.cons (.var 0) .nil) (.name 1) .nil (.app (oFn "is_part" 1 [] S_is_part) (.cons (.var 1) .nil)) [("one", 1)]) .nil))) .nil))))
  (.cons (.ret (.con (.bl false)))
  .nil)
  .nil)
  (.cons (.ret (.std oAll (.cons (.lc false iZipF (.cons (.var 0) (.cons (.std (oSl true false) (.cons (.var 0) (.cons (.con (.int 1)) .nil))) .nil)) (.tup (.cons (.name 1) (.cons (.name 2) .nil))) .nil (.std oLt (.cons (.std oIx (.cons (.var 1) (.cons (.con (.int 1)) .nil))) (.cons (.std oIx (.cons (.var 2) (.cons (.con (.int 0)) .nil))) .nil))) [("one", 1), ("other", 2)]) .nil)))
  .nil))
def n_picture : List Str := ["book", "moment"]
noncomputable def b_picture : DSs := (.cons (.ret (.std oTuple (.cons (.app (oFn "painted" 1 [] S_painted) (.cons (.app (oFn "done_by" 2 [] S_done_by) (.cons (.var 0) (.cons (.var 1) .nil))) .nil)) .nil)))
  .nil)
def n_is_laying : List Str := ["book", "thing", "one", "other"]
noncomputable def b_is_laying : DSs := (.cons (.if_ (.bop false (.cons (.not (.std oIsi (.cons (.var 1) (.cons (.bty "tuple") .nil)))) (.cons (.not (.std oAll (.cons (.lc false iSeq (.cons (.var 1) .nil) (.name 2) .nil (.app (oFn "is_putting" 2 [] S_is_putting) (.cons (.var 2) (.cons (.app (oLenO "Book" S_Book___len__) (.cons (.var 0) .nil)) .nil))) [("one", 2)]) .nil))) .nil)))
  (.cons (.ret (.con (.bl false)))
  .nil)
  .nil)
  (.cons (.ret (.std oAll (.cons (.lc false iZipF (.cons (.var 1) (.cons (.std (oSl true false) (.cons (.var 1) (.cons (.con (.int 1)) .nil))) .nil)) (.tup (.cons (.name 2) (.cons (.name 3) .nil))) .nil (.std oLe (.cons (.std oIx (.cons (.var 2) (.cons (.con (.int 0)) .nil))) (.cons (.std oIx (.cons (.var 3) (.cons (.con (.int 0)) .nil))) .nil))) [("one", 2), ("other", 3)]) .nil)))
  .nil))
def n_need_looks : List Str := ["book", "thing"]
noncomputable def b_need_looks : DSs := (.cons (.if_ (.not (.app (oFn "are_looks" 2 [] S_are_looks) (.cons (.var 0) (.cons (.var 1) .nil))))
  (.cons (.app (sRaise "BadLook") .nil)
  .nil)
  .nil)
  .nil)
def n_need_wish : List Str := ["wish"]
noncomputable def b_need_wish : DSs := (.cons (.if_ (.not (.app (oFn "is_wish" 1 [] S_is_wish) (.cons (.var 0) .nil)))
  (.cons (.app (sRaise "BadWish") .nil)
  .nil)
  .nil)
  .nil)
def n_shown : List Str := ["book", "look", "parts", "moment", "low", "high", "a", "b", "one"]
noncomputable def b_shown : DSs := (.cons (.if_ (.not (.app (oFn "is_look" 2 [] S_is_look) (.cons (.var 0) (.cons (.var 1) .nil))))
  (.cons (.app (sRaise "BadLook") .nil)
  .nil)
  .nil)
  (.cons (.asg (.tup (.cons (.name 3) (.cons (.name 4) (.cons (.name 5) .nil)))) (.var 1))
  (.cons (.asg (.name 2) (.app (oFnK "picture" 1 ["moment"] [.nth 0, .nth 1] S_picture) (.cons (.var 0) (.cons (.var 3) .nil))))
  (.cons (.ret (.std oTuple (.cons (.lc false iSeq (.cons (.var 2) .nil) (.tup (.cons (.name 6) (.cons (.name 7) (.cons (.name 8) .nil)))) (.cons (.bop true (.cons (.std oLe (.cons (.var 6) (.cons (.var 5) .nil))) (.cons (.std oGe (.cons (.var 7) (.cons (.var 4) .nil))) .nil))) .nil) (.std oTup (.cons (.std oMax2 (.cons (.var 6) (.cons (.var 4) .nil))) (.cons (.std oMin2 (.cons (.var 7) (.cons (.var 5) .nil))) (.cons (.var 8) .nil)))) [("a", 6), ("b", 7), ("one", 8)]) .nil)))
  .nil))))
def n_firm : List Str := ["wish", "low", "high", "colour"]
noncomputable def b_firm : DSs := (.cons (.expr (.app (oFn "need_wish" 1 [] S_need_wish) (.cons (.var 0) .nil)))
  (.cons (.ret (.app (oFn "apart" 2 [] S_apart) (.cons (.app (oGlo "ALL" (.tup [.tup [.int 0, .int 1000000000]])) .nil) (.cons (.lc false iSeq (.cons (.var 0) .nil) (.tup (.cons (.name 1) (.cons (.name 2) (.cons (.name 3) .nil)))) .nil (.std oTup (.cons (.var 1) (.cons (.var 2) .nil))) [("low", 1), ("high", 2), ("colour", 3)]) .nil))))
  .nil))
def n_laid_by : List Str := ["book", "laying", "elder", "late", "number"]
noncomputable def b_laid_by : DSs := (.cons (.asg (.name 2) (.app (oMeth "Book" "strokes" 0 [] S_Book_strokes) (.cons (.var 0) .nil)))
  (.cons (.ret (.app (oMakeF "Book" 1 [] S_Book___init__) (.cons (.lc false iSeq (.cons (.app (oFn "woven" 2 [] S_woven) (.cons (.app (oLenO "Book" S_Book___len__) (.cons (.var 0) .nil)) (.cons (.var 1) .nil))) .nil) (.tup (.cons (.name 3) (.cons (.name 4) .nil))) .nil (.ife (.var 3) (.std (oSl true false) (.cons (.std oIx (.cons (.var 1) (.cons (.var 4) .nil))) (.cons (.con (.int 1)) .nil))) (.std oIx (.cons (.var 2) (.cons (.var 4) .nil)))) [("late", 3), ("number", 4)]) .nil)))
  .nil))
def n_need_laying : List Str := ["book", "laying"]
noncomputable def b_need_laying : DSs := (.cons (.if_ (.not (.app (oFn "is_laying" 2 [] S_is_laying) (.cons (.var 0) (.cons (.var 1) .nil))))
  (.cons (.app (sRaise "BadLaying") .nil)
  .nil)
  .nil)
  .nil)
def n_need_all : List Str := ["book", "wish", "laying", "looks"]
noncomputable def b_need_all : DSs := (.cons (.expr (.app (oFn "need_looks" 2 [] S_need_looks) (.cons (.var 0) (.cons (.var 3) .nil))))
  (.cons (.expr (.app (oFn "need_wish" 1 [] S_need_wish) (.cons (.var 1) .nil)))
  (.cons (.expr (.app (oFn "need_laying" 2 [] S_need_laying) (.cons (.var 0) (.cons (.var 2) .nil))))
  .nil)))
def n_numbers : List Str := ["book", "laying", "order", "elder", "at", "one"]
noncomputable def b_numbers : DSs := (.cons (.expr (.app (oFn "need_laying" 2 [] S_need_laying) (.cons (.var 0) (.cons (.var 1) .nil))))
  (.cons (.asg (.name 2) (.app (oFn "woven" 2 [] S_woven) (.cons (.app (oLenO "Book" S_Book___len__) (.cons (.var 0) .nil)) (.cons (.var 1) .nil))))
  (.cons (.asg (.name 3) (.lc false iEnum (.cons (.var 2) .nil) (.tup (.cons (.name 4) (.cons (.name 5) .nil))) (.cons (.not (.std oIx (.cons (.var 5) (.cons (.con (.int 0)) .nil)))) .nil) (.var 4) [("at", 4), ("one", 5)]))
  (.cons (.ret (.std oTup (.cons (.var 3) (.cons (.lc false iEnum (.cons (.var 2) .nil) (.tup (.cons (.name 4) (.cons (.name 5) .nil))) (.cons (.std oIx (.cons (.var 5) (.cons (.con (.int 0)) .nil))) .nil) (.var 4) [("at", 4), ("one", 5)]) .nil))))
  .nil))))
def n_walls : List Str := ["book", "wish", "slot", "looks", "found", "look"]
noncomputable def b_walls : DSs := (.cons (.expr (.app (oFn "need_looks" 2 [] S_need_looks) (.cons (.var 0) (.cons (.var 3) .nil))))
  (.cons (.expr (.app (oFn "need_wish" 1 [] S_need_wish) (.cons (.var 1) .nil)))
  (.cons (.if_ (.not (.app (oFn "is_moment" 2 [] S_is_moment) (.cons (.var 0) (.cons (.var 2) .nil))))
  (.cons (.app (sRaise "NoSlot") .nil)
  .nil)
  .nil)
  (.cons (.asg (.name 4) (.std oListM (.cons (.app (oFn "both" 2 [] S_both) (.cons (.app (oFn "firm" 1 [] S_firm) (.cons (.var 1) .nil)) (.cons (.app (oFn "beneath" 2 [] S_beneath) (.cons (.app (oFn "picture" 1 [.non] S_picture) (.cons (.var 0) .nil)) (.cons (.var 2) .nil))) .nil))) .nil)))
  (.cons (.for_ iSeq (.cons (.var 3) .nil) (.name 5)
  (.cons (.if_ (.std oGt (.cons (.std oIx (.cons (.var 5) (.cons (.con (.int 0)) .nil))) (.cons (.var 2) .nil)))
  (.cons (.expr (.std oExtend (.cons (.var 4) (.cons (.app (oFn "beneath" 2 [] S_beneath) (.cons (.app (oFn "shown" 2 [] S_shown) (.cons (.var 0) (.cons (.var 5) .nil))) (.cons (.var 2) .nil))) .nil))))
  .nil)
  .nil)
  .nil))
  (.cons (.ret (.app (oFn "joined" 1 [] S_joined) (.cons (.var 4) .nil)))
  .nil))))))
def n_wrong_now : List Str := ["book", "wish", "after", "elder", "due", "found", "low", "high", "colour"]
noncomputable def b_wrong_now : DSs := (.cons (.asg (.name 4) (.lc false iSeq (.cons (.var 1) .nil) (.tup (.cons (.name 6) (.cons (.name 7) (.cons (.name 8) .nil)))) (.cons (.std oNotN (.cons (.var 8) (.cons (.con .non) .nil))) .nil) (.std oTup (.cons (.var 6) (.cons (.var 7) (.cons (.var 8) .nil)))) [("low", 6), ("high", 7), ("colour", 8)]))
  (.cons (.asg (.name 5) (.app (oFn "both" 2 [] S_both) (.cons (.app (oFn "unlike" 2 [] S_unlike) (.cons (.app (oFn "renumbered" 2 [] S_renumbered) (.cons (.app (oFn "picture" 1 [.non] S_picture) (.cons (.var 0) .nil)) (.cons (.var 3) .nil))) (.cons (.app (oFn "picture" 1 [.non] S_picture) (.cons (.var 2) .nil)) .nil))) (.cons (.app (oFn "firm" 1 [] S_firm) (.cons (.var 1) .nil)) .nil))))
  (.cons (.ret (.app (oFn "joined" 1 [] S_joined) (.cons (.std oAdd (.cons (.var 5) (.cons (.app (oFn "unlike" 2 [] S_unlike) (.cons (.var 4) (.cons (.app (oFn "colours" 1 [.non] S_colours) (.cons (.var 2) .nil)) .nil))) .nil))) .nil)))
  .nil)))
def n_broken : List Str := ["book", "wish", "laying", "looks", "after", "elder", "found", "number", "look", "there", "stretch"]
noncomputable def b_broken : DSs := (.cons (.expr (.app (oFn "need_all" 4 [] S_need_all) (.cons (.var 0) (.cons (.var 1) (.cons (.var 2) (.cons (.var 3) .nil))))))
  (.cons (.asg (.name 4) (.app (oFn "laid_by" 2 [] S_laid_by) (.cons (.var 0) (.cons (.var 2) .nil))))
  (.cons (.asg (.name 5) (.std oIx (.cons (.app (oFn "numbers" 2 [] S_numbers) (.cons (.var 0) (.cons (.var 2) .nil))) (.cons (.con (.int 0)) .nil))))
  (.cons (.asg (.name 6) (.lc true iSeq (.cons (.app (oFn "wrong_now" 4 [] S_wrong_now) (.cons (.var 0) (.cons (.var 1) (.cons (.var 4) (.cons (.var 5) .nil))))) .nil) (.name 10) .nil (.std oAdd (.cons (.std oTup (.cons (.app (oGlo "NOW" (.int (-1))) .nil) .nil)) (.cons (.var 10) .nil))) [("stretch", 10)]))
  (.cons (.for_ iEnum (.cons (.var 3) .nil) (.tup (.cons (.name 7) (.cons (.name 8) .nil)))
  (.cons (.asg (.name 9) (.app (oFn "shown" 2 [] S_shown) (.cons (.var 4) (.cons (.app (oFn "moved" 2 [] S_moved) (.cons (.var 8) (.cons (.var 2) .nil))) .nil))))
  (.cons (.expr (.std oExtend (.cons (.var 6) (.cons (.lc false iSeq (.cons (.app (oFn "unlike" 2 [] S_unlike) (.cons (.app (oFn "renumbered" 2 [] S_renumbered) (.cons (.app (oFn "shown" 2 [] S_shown) (.cons (.var 0) (.cons (.var 8) .nil))) (.cons (.var 5) .nil))) (.cons (.var 9) .nil))) .nil) (.name 10) .nil (.std oAdd (.cons (.std oTup (.cons (.var 7) .nil)) (.cons (.var 10) .nil))) [("stretch", 10)]) .nil))))
  .nil)))
  (.cons (.ret (.frz (.var 6)))
  .nil))))))
def n_gaps : List Str := ["book", "wish", "slot", "looks"]
noncomputable def b_gaps : DSs := (.cons (.ret (.app (oFn "apart" 2 [] S_apart) (.cons (.app (oGlo "ALL" (.tup [.tup [.int 0, .int 1000000000]])) .nil) (.cons (.app (oFnK "walls" 3 ["looks"] [.nth 0, .nth 1, .nth 2, .nth 3] S_walls) (.cons (.var 0) (.cons (.var 1) (.cons (.var 2) (.cons (.var 3) .nil))))) .nil))))
  .nil)
end
end K
end
section
set_option Elab.async false
set_option linter.all false
set_option maxRecDepth 100000
set_option maxHeartbeats 1000000
namespace PL
open PySem PySem.Spec DL PM
def n_need_colours : List Str := ["prices", "some", "one"]
noncomputable def b_need_colours : DSs := (.cons (.if_ (.not (.std oAll (.cons (.lc false iSeq (.cons (.var 1) .nil) (.name 2) .nil (.std oInD (.cons (.var 2) (.cons (.var 0) .nil))) [("one", 2)]) .nil)))
  (.cons (.app (sRaise "BadPrices") .nil)
  .nil)
  .nil)
  .nil)
def n_are_prices : List Str := ["thing", "one", "cost"]
noncomputable def b_are_prices : DSs := (.cons (.if_ (.not (.std oIsi (.cons (.var 0) (.cons (.bty "dict") .nil))))
  (.cons (.ret (.con (.bl false)))
  .nil)
  .nil)
  (.cons (.ret (.std oAll (.cons (.lc false iItems (.cons (.var 0) .nil) (.tup (.cons (.name 1) (.cons (.name 2) .nil))) .nil (.bop true (.cons (.app (oFn "is_colour" 1 [] S_is_colour) (.cons (.var 1) .nil)) (.cons (.app (oFnK "is_whole" 1 ["least"] [.nth 0, .nth 1] S_is_whole) (.cons (.var 2) (.cons (.con (.int 1)) .nil))) (.cons (.std oLe (.cons (.var 2) (.cons (.app (oGlo "MOST_PRICE" (.int 999)) .nil) .nil))) .nil)))) [("one", 1), ("cost", 2)]) .nil)))
  .nil))
def n_need_prices : List Str := ["prices"]
noncomputable def b_need_prices : DSs := (.cons (.if_ (.not (.app (oFn "are_prices" 1 [] S_are_prices) (.cons (.var 0) .nil)))
  (.cons (.app (sRaise "BadPrices") .nil)
  .nil)
  .nil)
  .nil)
def n_laid : List Str := ["book", "laying"]
noncomputable def b_laid : DSs := (.cons (.expr (.app (oFn "need_laying" 2 [] S_need_laying) (.cons (.var 0) (.cons (.var 1) .nil))))
  (.cons (.ret (.app (oFn "laid_by" 2 [] S_laid_by) (.cons (.var 0) (.cons (.var 1) .nil))))
  .nil))
def n_price_of : List Str := ["book", "laying", "prices", "one"]
noncomputable def b_price_of : DSs := (.cons (.expr (.app (oFn "need_prices" 1 [] S_need_prices) (.cons (.var 2) .nil)))
  (.cons (.expr (.app (oFn "need_laying" 2 [] S_need_laying) (.cons (.var 0) (.cons (.var 1) .nil))))
  (.cons (.expr (.app (oFn "need_colours" 2 [] S_need_colours) (.cons (.var 2) (.cons (.lc false iSeq (.cons (.var 1) .nil) (.name 3) .nil (.std oIx (.cons (.var 3) (.cons (.con (.int 3)) .nil))) [("one", 3)]) .nil))))
  (.cons (.ret (.std oSum (.cons (.lc false iSeq (.cons (.var 1) .nil) (.name 3) .nil (.std oGetD (.cons (.var 2) (.cons (.std oIx (.cons (.var 3) (.cons (.con (.int 3)) .nil))) .nil))) [("one", 3)]) .nil)))
  .nil))))
def n_cut_back : List Str := ["book", "laying", "spans", "found", "low", "high", "one", "at", "start", "stop"]
noncomputable def b_cut_back : DSs := (.cons (.asg (.name 2) (.std oDctQ .nil))
  (.cons (.for_ iSeq (.cons (.app (oFn "picture" 1 [.non] S_picture) (.cons (.app (oFn "laid" 2 [] S_laid) (.cons (.var 0) (.cons (.var 1) .nil))) .nil)) .nil) (.tup (.cons (.name 4) (.cons (.name 5) (.cons (.name 6) .nil))))
  (.cons (.asg (.tup (.cons (.name 8) (.cons (.name 9) .nil))) (.std oGetT2 (.cons (.var 2) (.cons (.var 6) (.cons (.std oTup (.cons (.var 4) (.cons (.var 5) .nil))) .nil)))))
  (.cons (.std stSetT (.cons (.std oTup (.cons (.std oMin2 (.cons (.var 8) (.cons (.var 4) .nil))) (.cons (.std oMax2 (.cons (.var 9) (.cons (.var 5) .nil))) .nil))) (.cons (.var 2) (.cons (.var 6) .nil))))
  .nil)))
  (.cons (.asg (.name 3) (.std oLstM .nil))
  (.cons (.for_ iZipS (.cons (.std oIx (.cons (.app (oFn "numbers" 2 [] S_numbers) (.cons (.var 0) (.cons (.var 1) .nil))) (.cons (.con (.int 1)) .nil))) (.cons (.var 1) .nil)) (.tup (.cons (.name 7) (.cons (.name 6) .nil)))
  (.cons (.if_ (.std oInT (.cons (.var 7) (.cons (.var 2) .nil)))
  (.cons (.expr (.std oAppend (.cons (.var 3) (.cons (.std oAdd (.cons (.std oAdd (.cons (.std oTup (.cons (.std oIx (.cons (.var 6) (.cons (.con (.int 0)) .nil))) .nil)) (.cons (.std oGetT (.cons (.var 2) (.cons (.var 7) .nil))) .nil))) (.cons (.std oTup (.cons (.std oIx (.cons (.var 6) (.cons (.con (.int 3)) .nil))) .nil)) .nil))) .nil))))
  .nil)
  .nil)
  .nil))
  (.cons (.ret (.std oTuple (.cons (.var 3) .nil)))
  .nil)))))
def n_is_right : List Str := ["book", "wish", "laying", "looks"]
noncomputable def b_is_right : DSs := (.cons (.ret (.std oEq (.cons (.app (oFnK "broken" 3 ["looks"] [.nth 0, .nth 1, .nth 2, .nth 3] S_broken) (.cons (.var 0) (.cons (.var 1) (.cons (.var 2) (.cons (.var 3) .nil))))) (.cons (.std oLst .nil) .nil))))
  .nil)
end PL
end
section
set_option Elab.async false
set_option linter.all false
set_option maxRecDepth 100000
set_option maxHeartbeats 2000000
namespace K
open PySem PySem.Spec DL C8 L2 PL PM
abbrev Vc (N ps : List Str) (b : DSs) (S : DSpec) : Prop := ∀ ds μ Q Ex, ds.length = ps.length → S ds μ Q Ex → denSs b { nx := fun _ μ' => ends Q .non μ', rt := ends Q, ex := Ex } (ds.map some ++ List.replicate (N.length - ds.length) none) μ

theorem isBk_ins {μ : Mem} {x : D} {row : List Sk} {m : Str} (h : isBk μ x row) (hm : m ≠ "row") : isIns "Book" m x μ := by
  obtain ⟨y, h1, h2⟩ := h
  cases x with
  | obj c fs =>
    have h3 : (if c = ("Book" : Str) then some fs else none) = some [(("row" : Str), y)] := h1
    split at h3
    · rename_i e
      cases h3
      exact ⟨e, by simp [hm]⟩
    · cases h3
  | ref a =>
    have h3 : (match μ a with
      | some (.ins c' fs) => if c' = ("Book" : Str) then some fs else none
      | _ => none) = some [(("row" : Str), y)] := h1
    split at h3
    · rename_i c fs e
      split at h3
      · rename_i e2
        cases h3; subst e2
        exact ⟨_, e, by simp [hm]⟩
      · cases h3
    · cases h3
  | _ => cases h1
theorem look_ne_set {μ : Mem} {a : Addr} {m : MO} (h : μ a = none) {x : D} (hx : ∀ xs, look μ x = .lst xs → look (μ.set a m) x = .lst xs) : True := trivial
theorem look_mono {μ : Mem} {a : Addr} {m : MO} (h : μ a = none) {x : D} {xs : List D} (e : look μ x = .lst xs) : look (μ.set a m) x = .lst xs := by
  rcases look_lst_inv e with rfl | ⟨b, rfl, q⟩
  · rfl
  · have : b ≠ a := fun z => by subst z; rw [h] at q; cases q
    exact look_ref (by rw [Mem.set_ne this]; exact q)
theorem insOf_mono {μ : Mem} {a : Addr} {m : MO} {c : Str} (h : μ a = none) {x : D} {fs : List (Str × D)} (e : insOf c μ x = some fs) : insOf c (μ.set a m) x = some fs := by
  cases x with
  | obj c' fs' => exact e
  | ref b =>
    have hb : b ≠ a := fun z => by
      subst z
      have e' : (match μ b with
        | some (.ins c' fs) => if c' = c then some fs else none
        | _ => none) = some fs := e
      rw [h] at e'; cases e'
    show (match (μ.set a m) b with
      | some (.ins c' fs) => if c' = c then some fs else none
      | _ => none) = some fs
    rw [Mem.set_ne hb]; exact e
  | _ => cases e
theorem isBk_set {μ : Mem} {x : D} {row : List Sk} (h : isBk μ x row) {a : Addr} {m : MO} (ha : μ a = none) : isBk (μ.set a m) x row := by
  obtain ⟨y, h1, h2⟩ := h
  exact ⟨y, insOf_mono ha h1, look_mono ha h2⟩
theorem seqOf_mono {μ : Mem} {a : Addr} {m : MO} (h : μ a = none) {x : D} {xs : List D} (e : seqOf μ x = some xs) : seqOf (μ.set a m) x = some xs := by
  unfold seqOf at e ⊢
  cases q : look μ x with
  | lst ys => rw [q] at e; rw [look_mono h q]; exact e
  | tup ys => rw [q] at e; have := look_tup_inv q; subst this; exact e
  | rol ys => rw [q] at e; have := look_rol_inv q; subst this; exact e
  | _ => rw [q] at e; cases e
@[simp] theorem wipe_nil (env : DL.Env) : wipeD env [] = env := rfl
@[simp] theorem wipe_cons (env : DL.Env) (i : Nat) (is : List Nat) : wipeD env (i :: is) = (wipeD env is).set i none := rfl
theorem all_true {μ : Mem} {Q : QD} {Ex : QX} {α : Type} {xs : List α} {f : α → D} (h : ∀ x ∈ xs, f x = .bl true) (hq : Q (.bl true) μ) : oAll.o.sem [.lst (xs.map f)] μ Q Ex := by
  have e : xs.map f = (xs.map fun _ => true).map D.bl := by
    rw [List.map_map]
    exact List.map_congr_left fun x hx => by rw [h x hx]; rfl
  rw [e, s_oAllM]
  have : (xs.map fun _ => true).all id = true := by simp
  rw [this]; exact hq

theorem vc_is_whole : Vc n_is_whole ["thing", "least"] b_is_whole S_is_whole := by
  rintro ds μ Q Ex _ ⟨i, l, rfl, h⟩
  simp [b_is_whole, n_is_whole]
  exact ends_of h
theorem vc_is_colour : Vc n_is_colour ["thing"] b_is_colour S_is_colour := by
  rintro ds μ Q Ex _ ⟨c, rfl, hc, h⟩
  simp [b_is_colour, n_is_colour]
  exact ⟨c, rfl, hc, ends_of h⟩
theorem vc_is_place : Vc n_is_place ["thing"] b_is_place S_is_place := by
  rintro ds μ Q Ex _ ⟨i, rfl, h0, h1, h⟩
  simp [b_is_place, n_is_place]
  refine ⟨i, 0, rfl, ?_⟩
  simp [h0, h1]
  exact ends_of h
theorem vc_is_stretch : Vc n_is_stretch ["thing"] b_is_stretch S_is_stretch := by
  rintro ds μ Q Ex _ ⟨a, b, rfl, h0, h1, h2, h⟩
  simp [b_is_stretch, n_is_stretch]
  refine ⟨a, rfl, h0, by omega, ?_⟩
  simp
  refine ⟨b, rfl, by omega, by omega, ?_⟩
  simp [h1]
  exact ends_of h
theorem vc_is_stroke : Vc n_is_stroke ["thing"] b_is_stroke S_is_stroke := by
  rintro ds μ Q Ex _ ⟨s, rfl, ⟨h0, h1, h2, h3⟩, h⟩
  simp [b_is_stroke, n_is_stroke, Sk.d]
  refine ⟨s.lo, s.hi, rfl, h0, h1, h2, ?_⟩
  simp
  exact ⟨_, rfl, h3, ends_of h⟩
theorem vc_is_name : Vc n_is_name ["thing"] b_is_name S_is_name := by
  rintro ds μ Q Ex _ ⟨c, rfl, ⟨h2, h1, h3, _⟩, h⟩
  have h4 : c.length ≤ 16777216 := by omega
  simp [b_is_name, n_is_name, h4, cmpOf]
  have h5 : (1 : Int) ≤ (c.length : Int) := by omega
  have h6 : (c.length : Int) ≤ 8 := by omega
  simp [h5, h6]
  refine .inr fun a ha => ?_
  refine lc_map (f := fun _ => .bl true) ha (fun _ => trivial) _ [] (fun x hx ys P hP => ?_) ?_ ?_
  · obtain ⟨k, hk, rfl⟩ := List.mem_map.mp hx
    simp
    have : k ∈ ("abcdefghijklmnopqrstuvwxyz" : Str).cps := by simpa [PL.abc] using h3 k hk
    simpa [this] using hP
  · have : (signs c).length = c.length := by simp [signs]; rfl
    simp [this]; omega
  · exact all_true (fun _ _ => rfl) (ends_of h)
theorem vc_len : Vc n_Book___len__ ["self"] b_Book___len__ S_Book___len__ := by
  rintro ds μ Q Ex _ ⟨bk, row, rfl, ⟨y, h1, h2⟩, h⟩
  simp [b_Book___len__, n_Book___len__]
  refine ⟨_, h1, y, by simp, ?_⟩
  show sLen y μ _
  unfold sLen
  rw [h2]
  simpa using ends_of h
theorem vc_strokes : Vc n_Book_strokes ["self"] b_Book_strokes S_Book_strokes := by
  rintro ds μ Q Ex _ ⟨bk, row, rfl, ⟨y, h1, h2⟩, h⟩
  simp [b_Book_strokes, n_Book_strokes]
  refine ⟨_, h1, y, by simp, ?_⟩
  show sTuple y μ _
  unfold sTuple
  rw [h2]
  exact ends_of h
theorem vc_init : Vc n_Book___init__ ["self", "strokes"] b_Book___init__ S_Book___init__ := by
  rintro ds μ Q Ex _ ⟨x, y, row, rfl, hy, hr, hx, h⟩
  rcases hy with rfl | rfl
  all_goals
    simp [b_Book___init__, n_Book___init__]
    intro a ha
    refine lc_map (f := fun _ => .bl true) ha (fun _ => trivial) _ [] (fun y hy ys P hP => ?_) ?_ ?_
    · obtain ⟨k, hk, rfl⟩ := List.mem_map.mp hy
      simp
      exact ⟨k, rfl, hr.ok k hk, hP⟩
    · have := hr.len; simp; omega
    · refine all_true (fun _ _ => rfl) ?_
      simp
      refine ⟨[], hx, by simp, ?_⟩
      exact ends_of h
theorem vc_is_moment : Vc n_is_moment ["book", "thing"] b_is_moment S_is_moment := by
  rintro ds μ Q Ex _ ⟨bk, row, m, rfl, hb, h0, h1, h2, h⟩
  simp [b_is_moment, n_is_moment]
  refine ⟨m, rfl, h1, by omega, ?_⟩
  simp
  refine ⟨isBk_ins hb (by decide), bk, row, rfl, hb, ?_⟩
  simp [h2]
  exact ⟨by omega, ends_of h⟩
theorem vc_is_look : Vc n_is_look ["book", "thing"] b_is_look S_is_look := by
  rintro ds μ Q Ex _ ⟨bk, row, k, rfl, hb, h0, ⟨h1, h2, h3, h4⟩, h⟩
  simp [b_is_look, n_is_look, Lk.d]
  refine ⟨bk, row, k.m, rfl, hb, h0, by omega, by omega, ?_⟩
  simp
  exact ⟨k.a, k.b, rfl, h2, h3, h4, ends_of h⟩
theorem vc_are_looks : Vc n_are_looks ["book", "thing"] b_are_looks S_are_looks := by
  rintro ds μ Q Ex _ ⟨bk, row, ks, rfl, hb, h0, hk, h⟩
  have hl := hk.len
  have hl' : (ks.length : Int) ≤ 20 := by omega
  simp [b_are_looks, n_are_looks, looksD, hl']
  intro c hc
  refine lc_map (f := fun _ => .bl true) hc (fun _ => trivial) _ [] (fun y hy ys P hP => ?_) ?_ ?_
  · obtain ⟨k, hkm, rfl⟩ := List.mem_map.mp hy
    simp
    exact ⟨bk, row, k, rfl, isBk_set hb hc, h0, hk.ok k hkm, hP⟩
  · simp; omega
  · exact all_true (fun _ _ => rfl) (ends_of h)
theorem vc_need_looks : Vc n_need_looks ["book", "thing"] b_need_looks S_need_looks := by
  rintro ds μ Q Ex _ ⟨bk, row, ks, rfl, hb, h0, hk, h⟩
  simp [b_need_looks, n_need_looks]
  refine ⟨bk, row, ks, rfl, hb, h0, hk, ?_⟩
  simp
  exact ends_of h
theorem vc_is_putting : Vc n_is_putting ["thing", "most"] b_is_putting S_is_putting := by
  rintro ds μ Q Ex _ ⟨p, n, rfl, h0, h1, h2, h⟩
  simp [b_is_putting, n_is_putting, Pt.d]
  refine ⟨p.slot, 0, rfl, ?_⟩
  simp [h0, h1]
  exact .inr ⟨p.s, rfl, h2, ends_of h⟩
theorem vc_need_laying : Vc n_need_laying ["book", "laying"] b_need_laying S_need_laying := by
  rintro ds μ Q Ex _ ⟨bk, row, L, rfl, hb, h0, h1, h⟩
  simp [b_need_laying, n_need_laying]
  refine ⟨bk, row, L, rfl, hb, h0, h1, ?_⟩
  simp
  exact ends_of h
theorem vc_is_part : Vc n_is_part ["thing"] b_is_part S_is_part := by
  rintro ds μ Q Ex _ ⟨⟨lo, hi, v⟩, rfl, h0, h1, h2, h3, h⟩
  simp [b_is_part, n_is_part, pcD, Pa.map, Pa.d]
  refine ⟨lo, hi, rfl, h0, h1, h2, ?_⟩
  cases v with
  | none => simp [colD, DL.isNon]; exact ends_of h
  | some c => simp [colD, DL.isNon]; exact ⟨c, rfl, h3 c rfl, ends_of h⟩
theorem vc_need_wish : Vc n_need_wish ["wish"] b_need_wish S_need_wish := by
  rintro ds μ Q Ex _ ⟨w, rfl, h1, h⟩
  simp [b_need_wish, n_need_wish]
  refine ⟨w, rfl, h1, ?_⟩
  simp
  exact ends_of h
theorem vc_need_all : Vc n_need_all ["book", "wish", "laying", "looks"] b_need_all S_need_all := by
  rintro ds μ Q Ex _ ⟨bk, row, w, L, ks, rfl, hb, hk, h⟩
  have := hk.rok.len
  simp [b_need_all, n_need_all]
  refine ⟨bk, row, ks, rfl, hb, by omega, hk.looks, ?_⟩
  refine ⟨w, rfl, hk.wish, ?_⟩
  refine ⟨bk, row, L, rfl, hb, by omega, hk.lay, ?_⟩
  exact ends_of h
end K
end
section
set_option Elab.async false
set_option linter.all false
set_option maxRecDepth 100000
set_option maxHeartbeats 2000000
namespace K
open PySem PySem.Spec DL C8 L2 PL PM

theorem for_list {keep : Mem → Prop} {g : DG} {body : DTS} {k : KD} {xs : List D} (I : Nat → DL.Env → Mem → Prop)
    (hs : ∀ i x, xs[i]? = some x → ∀ env μ, I i env μ → keep μ ∧ ∀ N : DL.Env → Mem → Prop, (∀ env' μ', I (i + 1) env' μ' → N env' μ') → dG g x env fun env' => body { k with nx := N, ct := N, bk := k.nx } env' μ)
    (hd : ∀ env μ, I xs.length env μ → keep μ ∧ k.nx env μ) : ∀ (n i : Nat) (env : DL.Env) (μ : Mem), n = xs.length - i → i ≤ xs.length → I i env μ → forGo keep g body k (xs.drop i) env μ
  | 0, i, env, μ, hn, hi, h => by
    have : i = xs.length := by omega
    subst this
    rw [List.drop_length]
    exact hd env μ h
  | n + 1, i, env, μ, hn, hi, h => by
    have hlt : i < xs.length := by omega
    rw [List.drop_eq_getElem_cons hlt]
    obtain ⟨h1, h2⟩ := hs i _ (List.getElem?_eq_getElem hlt) env μ h
    exact ⟨h1, h2 _ fun env' μ' h' => for_list I hs hd n (i + 1) env' μ' (by omega) (by omega) h'⟩
theorem for_go {keep : Mem → Prop} {g : DG} {body : DTS} {k : KD} {xs : List D} (I : Nat → DL.Env → Mem → Prop) {env : DL.Env} {μ : Mem} (h0 : I 0 env μ)
    (hs : ∀ i x, xs[i]? = some x → ∀ env μ, I i env μ → keep μ ∧ ∀ N : DL.Env → Mem → Prop, (∀ env' μ', I (i + 1) env' μ' → N env' μ') → dG g x env fun env' => body { k with nx := N, ct := N, bk := k.nx } env' μ)
    (hd : ∀ env μ, I xs.length env μ → keep μ ∧ k.nx env μ) : forGo keep g body k xs env μ := for_list I hs hd xs.length 0 env μ (by omega) (by omega) h0
theorem for_map {α : Type} {keep : Mem → Prop} {g : DG} {body : DTS} {k : KD} {f : α → D} {xs : List α} (I : List α → DL.Env → Mem → Prop) {env : DL.Env} {μ : Mem} (h0 : I [] env μ)
    (hs : ∀ pre x post, xs = pre ++ x :: post → ∀ env μ, I pre env μ → keep μ ∧ ∀ N : DL.Env → Mem → Prop, (∀ env' μ', I (pre ++ [x]) env' μ' → N env' μ') → dG g (f x) env fun env' => body { k with nx := N, ct := N, bk := k.nx } env' μ)
    (hd : ∀ env μ, I xs env μ → keep μ ∧ k.nx env μ) : forGo keep g body k (xs.map f) env μ := by
  refine for_go (fun i env μ => I (xs.take i) env μ) h0 (fun i x hx env μ hI => ?_) fun env μ hI => hd env μ (by rw [List.length_map, List.take_length] at hI; exact hI)
  rw [List.getElem?_map] at hx
  cases q : xs[i]? with
  | none => rw [q] at hx; cases hx
  | some y =>
    rw [q] at hx
    simp only [Option.map_some, Option.some.injEq] at hx
    subst hx
    have hlt := (List.getElem?_eq_some_iff.mp q).1
    have e : xs = xs.take i ++ y :: xs.drop (i + 1) := by
      have h1 := List.drop_eq_getElem_cons hlt
      have h2 : xs[i] = y := (List.getElem?_eq_some_iff.mp q).2
      rw [h2] at h1
      rw [← h1, List.take_append_drop]
    have e2 : xs.take (i + 1) = xs.take i ++ [y] := by rw [List.take_add_one, q]; rfl
    obtain ⟨a, b⟩ := hs _ y _ e env μ hI
    exact ⟨a, fun N hN => b N fun env' μ' h' => hN env' μ' (by rw [e2]; exact h')⟩
@[simp] theorem isLM_ref (a : Addr) (μ : Mem) : isLM (.ref a) μ ↔ ∃ xs, μ a = some (.lst xs) := Iff.rfl
theorem ixR {μ : Mem} {a : Addr} {xs : List D} (h : μ a = some (.lst xs)) (i : Int) (Q : QD) (Ex : QX) : oIx.o.sem [.ref a, .int i] μ Q Ex = ∃ d, atI xs i = some d ∧ Q d μ := s_oIxR μ Q Ex h i
@[simp] theorem ixRs (μ : Mem) (a : Addr) (xs : List D) (i : Int) (Q : QD) (Ex : QX) : oIx.o.sem [.ref a, .int i] (μ.set a (.lst xs)) Q Ex = ∃ d, atI xs i = some d ∧ Q d (μ.set a (.lst xs)) := ixR (Mem.set_same ..) i Q Ex
@[simp] theorem tupRs (μ : Mem) (a : Addr) (xs : List D) (Q : QD) (Ex : QX) : oTuple.o.sem [.ref a] (μ.set a (.lst xs)) Q Ex = Q (.tup xs) (μ.set a (.lst xs)) := s_oTupleM _ Q Ex (Mem.set_same ..)
@[simp] theorem lenRs (μ : Mem) (a : Addr) (xs : List D) (Q : QD) (Ex : QX) : oLen.o.sem [.ref a] (μ.set a (.lst xs)) Q Ex = Q (.int xs.length) (μ.set a (.lst xs)) := s_oLenM _ Q Ex (Mem.set_same ..)
@[simp] theorem seqRs (μ : Mem) (a : Addr) (xs : List D) : seqOf (μ.set a (.lst xs)) (.ref a) = some xs := by simp [seqOf]
@[simp] theorem same_lst_nil (xs : List D) : DL.same (.lst xs) (.lst []) = decide (xs = []) := by
  by_cases h : xs = []
  · subst h; simp
  · rw [DL.same_of_ne (fun e => h (by cases e; rfl))]; simp [h]
theorem ne_nil {μ : Mem} {Q : QD} {Ex : QX} {x : D} {xs : List D} (e : look μ x = .lst xs) (h : ∀ d ∈ xs, plainN 31 d = true) : oNe.o.sem [x, .lst []] μ Q Ex ↔ Q (.bl (!decide (xs = []))) μ := by
  rw [s_oNe, e, look_lst]
  have h1 : plainN 32 (.lst xs) = true := by simpa [plainN] using h
  have h2 : plainN 32 (.lst []) = true := by simp [plainN]
  rw [same_lst_nil]
  simp [h1, h2]
theorem eq_nil {μ : Mem} {Q : QD} {Ex : QX} {x : D} {xs : List D} (e : look μ x = .lst xs) (h : ∀ d ∈ xs, plainN 31 d = true) : oEq.o.sem [x, .lst []] μ Q Ex ↔ Q (.bl (decide (xs = []))) μ := by
  rw [s_oEq, e, look_lst]
  have h1 : plainN 32 (.lst xs) = true := by simpa [plainN] using h
  have h2 : plainN 32 (.lst []) = true := by simp [plainN]
  rw [same_lst_nil]
  simp [h1, h2]
@[simp] theorem plain_sp (p : Seg) (n : Nat) : plainN (n + 1) (segD p) = true := by simp [plainN, segD]
theorem plain_sps (xs : List Seg) (n : Nat) : ∀ d ∈ xs.map segD, plainN (n + 1) d = true := by
  intro d hd
  obtain ⟨p, _, rfl⟩ := List.mem_map.mp hd
  exact plain_sp p n
@[simp] theorem plain_seg_lst (xs : List Seg) (n : Nat) : plainN (n + 2) (.lst (xs.map segD)) = true := by simp [plainN, segD]
@[simp] theorem plain_nil (n : Nat) : plainN (n + 1) (.lst []) = true := by simp [plainN]
theorem sort_sp {μ : Mem} {Q : QD} {Ex : QX} {x : D} {xs : List Seg} (e : seqOf μ x = some (xs.map segD)) (q : Q (.lst ((xs.mergeSort leP).map segD)) μ) : oSortD.o.sem [x] μ Q Ex := by
  show sSortD x μ Q
  refine ⟨_, e, plain_sps xs 31, ?_, ?_, ?_⟩
  · intro d hd d' hd'
    simp only [List.map_map, List.mem_map, Function.comp] at hd hd'
    obtain ⟨p, _, rfl⟩ := hd
    obtain ⟨p', _, rfl⟩ := hd'
    simp [toPD, toPDs, segD, PySem.W.alike, PySem.W.alikeAll]
  · refine .inl fun d hd => ?_
    simp only [List.map_map, List.mem_map, Function.comp] at hd
    obtain ⟨p, _, rfl⟩ := hd
    exact ⟨_, _, rfl⟩
  · have : (xs.map segD).mergeSort leD = (xs.mergeSort leP).map segD := by
      refine (PySem.W.sort_maps (r := leP) (s := leD) segD fun a _ b _ => ?_).symm
      have := congrFun (congrFun (PySem.W.dataLe_ii (fun p : Seg => p.1) (fun p : Seg => p.2)) a) b
      exact this.symm
    rw [this]; exact q
@[simp] theorem p_oSortD : oSortD.o.pre = fun _ _ => True := rfl
theorem segD_map_nil {xs : List Seg} : xs.map segD = [] ↔ xs = [] := by simp
theorem vc_joined : Vc n_joined ["some"] b_joined S_joined := by
  rintro ds μ Q Ex _ ⟨x, xs, rfl, hx, hl, h⟩
  simp [b_joined, n_joined]
  intro a ha
  refine sort_sp (seqOf_mono ha hx) ?_
  simp
  have hle : (xs.mergeSort leP).length = xs.length := List.length_mergeSort xs
  refine for_map (fun pre env μ' => ∃ s1 s2, env = [some x, some (.ref a), s1, s2] ∧ μ' = μ.set a (.lst ((pre.foldl joinStep []).map segD))) ⟨none, none, rfl, rfl⟩ ?_ ?_
  · rintro pre p post hp env μ' ⟨s1, s2, rfl, rfl⟩
    refine ⟨trivial, fun N hN => ?_⟩
    have hlen : pre.length < xs.length := by rw [← hle, hp]; simp
    have hfl := PM.fold_len pre []
    simp only [List.length_nil, Nat.zero_add] at hfl
    have hN' : ∀ s1 s2, N [some x, some (.ref a), s1, s2] (μ.set a (.lst ((joinStep (pre.foldl joinStep []) p).map segD))) := fun s1 s2 => hN _ _ ⟨s1, s2, rfl, by rw [List.foldl_append]; rfl⟩
    generalize pre.foldl joinStep [] = found at *
    cases q : found.getLast? with
    | none =>
      have : found = [] := by simpa using q
      subst this
      simp [segD]
      have := hN' (some (.int p.1)) (some (.int p.2))
      simpa [joinStep, segD] using this
    | some r =>
      have e := PM.last_split q
      generalize found.dropLast = init at *
      subst e
      have hj : joinStep (init ++ [r]) p = if p.1 ≤ r.2 + 1 then init ++ [(r.1, if p.2 > r.2 then p.2 else r.2)] else init ++ [r] ++ [p] := by
        unfold joinStep
        rw [q]; simp
      simp at hlen hfl
      have hpl : plainN 32 (.lst (init.map segD ++ [.tup [.int r.1, .int r.2]])) = true := by simp [plainN, segD]
      by_cases c : p.1 ≤ r.2 + 1
      · simp [segD, c, hpl]
        refine ⟨init.length, ?_, ?_⟩
        · have h1 : ¬ (0 : Int) ≤ -1 := by omega
          have h2 : -(((init.map segD ++ [D.tup [.int r.1, .int r.2]]).length : Nat) : Int) ≤ -1 := by simp; omega
          simp only [ixN, if_neg h1, if_pos h2]
          simp
          omega
        · have := hN' (some (.int p.1)) (some (.int p.2))
          rw [hj, if_pos c] at this
          simpa [segD] using this
      · simp [segD, c, hpl]
        refine ⟨by omega, ?_⟩
        have := hN' (some (.int p.1)) (some (.int p.2))
        rw [hj, if_neg c] at this
        simpa [segD] using this
  · rintro env μ' ⟨s1, s2, rfl, rfl⟩
    refine ⟨trivial, ?_⟩
    simp
    exact ⟨μ, Mem.Sub.set ha, h⟩
theorem vc_outside : Vc n_outside ["some"] b_outside S_outside := by
  rintro ds μ Q Ex _ ⟨x, xs, rfl, hx, hl, h⟩
  simp [b_outside, n_outside]
  intro a ha
  refine ⟨x, xs, rfl, seqOf_mono ha hx, hl, ?_⟩
  simp
  have hjl := PM.joinM_len xs
  generalize hJ : joinM xs = J at *
  have hO : outM xs = outGo 0 J := by rw [outM, hJ]
  let st : List Seg → List Seg × Int := fun pre => pre.foldl (fun (s : List Seg × Int) p => (s.1 ++ (if s.2 < p.1 then [(s.2, p.1 - 1)] else []), p.2 + 1)) ([], 0)
  have hst : ∀ (pre post : List Seg), (st pre).1 ++ outGo (st pre).2 post = outGo 0 (pre ++ post) ∧ (st pre).1.length ≤ pre.length := by
    refine snoc_ind ?_ fun pre p ih post => ?_
    · intro post; exact ⟨by simp [st], by simp [st]⟩
    · have e1 : (st (pre ++ [p])) = ((st pre).1 ++ (if (st pre).2 < p.1 then [((st pre).2, p.1 - 1)] else []), p.2 + 1) := by simp [st, List.foldl_append]
      obtain ⟨b1, b2⟩ := ih (p :: post)
      rw [e1]
      refine ⟨?_, ?_⟩
      · rw [List.append_assoc]
        show (st pre).1 ++ ((if (st pre).2 < p.1 then [((st pre).2, p.1 - 1)] else []) ++ outGo (p.2 + 1) post) = _
        rw [List.append_assoc pre, List.singleton_append, ← b1]
        rfl
      · simp only [List.length_append, List.length_cons, List.length_nil]
        split <;> simp <;> omega
  refine for_map (fun pre env μ' => ∃ s1 s2, env = [some x, some (.ref a), some (.int (st pre).2), s1, s2] ∧ μ' = μ.set a (.lst ((st pre).1.map segD))) ⟨none, none, by simp [st], by simp [st]⟩ ?_ ?_
  · rintro pre p post hp env μ' ⟨s1, s2, rfl, rfl⟩
    refine ⟨trivial, fun N hN => ?_⟩
    have hpl : pre.length < J.length := by rw [hp]; simp
    obtain ⟨c1, c2⟩ := hst pre (p :: post)
    have hN' : ∀ s1 s2, N [some x, some (.ref a), some (.int (p.2 + 1)), s1, s2] (μ.set a (.lst (((st pre).1 ++ (if (st pre).2 < p.1 then [((st pre).2, p.1 - 1)] else [])).map segD))) := fun s1 s2 => hN _ _ ⟨s1, s2, by simp [st, List.foldl_append], by simp [st, List.foldl_append]⟩
    generalize st pre = S at *
    simp [segD]
    by_cases c : S.2 < p.1
    · simp [c]
      refine .inr ⟨by omega, ?_⟩
      have := hN' (some (.int p.1)) (some (.int p.2))
      simpa [c, segD] using this
    · simp [c]
      refine ⟨by omega, ?_⟩
      have := hN' (some (.int p.1)) (some (.int p.2))
      simpa [c, segD] using this
  · rintro env μ' ⟨s1, s2, rfl, rfl⟩
    obtain ⟨c1, c2⟩ := hst J []
    rw [List.append_nil, ← hO] at c1
    generalize st J = S at *
    refine ⟨trivial, ?_⟩
    simp
    by_cases c : S.2 ≤ 1000000000
    · have c' : S.2 ≤ LASTP := c
      simp [c]
      refine .inr ⟨by omega, ?_⟩
      refine ⟨μ, Mem.Sub.set ha, ?_⟩
      rw [← c1] at h
      simpa [outGo, c, c', segD, LASTP] using h
    · have c' : ¬ S.2 ≤ LASTP := c
      simp [c]
      refine ⟨by omega, μ, Mem.Sub.set ha, ?_⟩
      rw [← c1] at h
      simpa [outGo, c, c', segD, LASTP] using h
theorem vc_apart : Vc n_apart ["some", "others"] b_apart S_apart := by
  rintro ds μ Q Ex _ ⟨x, y, xs, ys, rfl, hx, hy, ox, oy, lx, ly', lxy, h⟩
  simp [b_apart, n_apart]
  refine ⟨y, ys, rfl, hy, by omega, ?_⟩
  have := PM.outM_len ys
  refine ⟨x, _, xs, outM ys, rfl, hx, rfl, fun p hp => (ox p hp).ok, fun p hp => (outM_in oy p hp).ok, by omega, by omega, Nat.le_trans (Nat.mul_le_mul_left _ this) lxy, ?_⟩
  exact ends_of h
end K
end
section
set_option Elab.async false
set_option linter.all false
set_option maxRecDepth 100000
set_option maxHeartbeats 2000000
namespace K
open PySem PySem.Spec DL C8 L2 PL PM
theorem dropWhile_drop {B : List Seg} {a b : Int} (h : a ≤ b) : (B.dropWhile fun q => decide (q.2 < a)).dropWhile (fun q => decide (q.2 < b)) = B.dropWhile fun q => decide (q.2 < b) := by
  induction B with
  | nil => rfl
  | cons q B ih =>
    by_cases c : q.2 < a
    · have c' : q.2 < b := by omega
      simp only [List.dropWhile_cons, c, c', decide_true, if_true]
      exact ih
    · simp only [List.dropWhile_cons, c, decide_false, Bool.false_eq_true, if_false]
theorem vc_both : Vc n_both ["some", "others"] b_both S_both := by
  rintro ds μ Q Ex _ ⟨x, y, xs, ys, rfl, hx, hy, ox, oy, lx, ly', lxy, h⟩
  simp [b_both, n_both]
  intro a ha
  refine ⟨y, ys, rfl, seqOf_mono ha hy, by omega, ?_⟩
  simp
  intro b hb
  have hba : b ≠ a := fun z => by subst z; simp at hb
  have hbn : μ b = none := by rw [← hb, Mem.set_ne hba]
  refine ⟨x, xs, rfl, seqOf_mono hb (seqOf_mono ha hx), by omega, ?_⟩
  simp
  have hJ := joinM_len ys
  have hJr := (joinM_ok oy).1
  have hA := (joinM_ok ox).1
  have hAl := joinM_len xs
  have hbo : bothM xs ys = (joinM xs).flatMap (bothPart (joinM ys)) := rfl
  generalize joinM ys = B at *
  generalize joinM xs = A at *
  have hfl : ∀ pre : List Seg, (pre.flatMap (bothPart B)).length ≤ pre.length * B.length := by
    intro pre
    induction pre with
    | nil => simp
    | cons p pre ih =>
      rw [List.flatMap_cons, List.length_append, List.length_cons, Nat.add_mul, Nat.one_mul]
      have := bothPart_len B p
      omega
  have hmul : A.length * B.length ≤ 16000000 := Nat.le_trans (Nat.mul_le_mul hAl hJ) lxy
  have hab : a ≠ b := fun z => hba z.symm
  refine for_map (fun pre env μ' => ∃ s1 s2 s3 s4, ∃ L : List Seg, env = [some x, some y, some (.ref a), some (.ref b), s1, s2, s3, s4] ∧ μ' = (μ.set a (.lst ((pre.flatMap (bothPart B)).map segD))).set b (.lst (L.map segD)) ∧ L.length ≤ B.length ∧
    ∀ c : Int, (∀ p ∈ pre, p.1 ≤ c) → L.dropWhile (fun q => decide (q.2 < c)) = B.dropWhile (fun q => decide (q.2 < c))) ⟨none, none, none, none, B, rfl, by simp, Nat.le_refl _, fun c _ => rfl⟩ ?_ ?_
  · rintro pre p post hp env μ' ⟨s1, s2, s3, s4, L, rfl, rfl, hL, hdw⟩
    refine ⟨trivial, fun N hN => ?_⟩
    have hpr := (Row.of_append (xs := pre) (ys := p :: post) (by rw [← hp]; exact hA))
    have hpc : ∀ r ∈ pre, r.1 ≤ p.1 := fun r hr => by
      have h1 := hpr.2.2 r hr p (by simp)
      have h2 := hpr.1.ok r hr
      unfold ok at h2
      omega
    have hd := hdw p.1 hpc
    have hl1 := hfl pre
    have hl2 := hfl (pre ++ [p])
    have hpl : (pre ++ [p]).length ≤ A.length := by rw [hp]; simp
    have hl3 : (pre ++ [p]).length * B.length ≤ A.length * B.length := Nat.mul_le_mul_right _ hpl
    have hfm : (pre ++ [p]).flatMap (bothPart B) = pre.flatMap (bothPart B) ++ bothPart B p := by rw [List.flatMap_append]; simp
    have hN' : ∀ s1 s2 s3 s4 μ'', μ'' = (μ.set a (.lst ((pre.flatMap (bothPart B) ++ bothPart B p).map segD))).set b (.lst ((B.dropWhile fun q => decide (q.2 < p.1)).map segD)) → N [some x, some y, some (.ref a), some (.ref b), s1, s2, s3, s4] μ'' := fun s1 s2 s3 s4 μ'' e =>
      hN _ _ ⟨s1, s2, s3, s4, B.dropWhile (fun q => decide (q.2 < p.1)), rfl, by rw [e, hfm], (List.dropWhile_sublist _).length_le, fun c hc => dropWhile_drop (hc p (by simp))⟩
    rw [hfm] at hl2
    simp [segD]
    refine ⟨fun n env μ' => ∃ L' : List Seg, n = L'.length ∧ env = [some x, some y, some (.ref a), some (.ref b), some (.int p.1), some (.int p.2), s3, s4] ∧ μ' = (μ.set a (.lst ((pre.flatMap (bothPart B)).map segD))).set b (.lst (L'.map segD)) ∧ L'.dropWhile (fun q => decide (q.2 < p.1)) = B.dropWhile (fun q => decide (q.2 < p.1)), ⟨L.length, L, rfl, rfl, rfl, hd⟩, ?_⟩
    have cont : ∀ (L' : List Seg) (ds : List D), ds = L'.map segD → L' = B.dropWhile (fun q => decide (q.2 < p.1)) → (∃ xs, ((μ.set a (MO.lst (List.map segD (List.flatMap (bothPart B) pre)))).set b (MO.lst ds)) a = some (MO.lst xs)) ∧
        ∀ (a_1 : Addr), ((μ.set a (MO.lst (List.map segD (List.flatMap (bothPart B) pre)))).set b (MO.lst ds)) a_1 = none →
        lcGo a_1 false (keepOf (D.ref b) ds) (DG.tup (DGs.cons (DG.name 6) (DGs.cons (DG.name 7) DGs.nil)))
          (dTst (den (DE.std oLe (DEs.cons (DE.var 6) (DEs.cons (DE.var 5) DEs.nil)))))
          (den (DE.std oTup (DEs.cons (DE.std oMax2 (DEs.cons (DE.var 4) (DEs.cons (DE.var 6) DEs.nil))) (DEs.cons (DE.std oMin2 (DEs.cons (DE.var 5) (DEs.cons (DE.var 7) DEs.nil))) DEs.nil))))
          [some x, some y, some (D.ref a), some (D.ref b), some (D.int p.fst), some (D.int p.snd), none, none]
          (fun x_1 μ1 => ∃ xs, μ1 a = some (MO.lst xs) ∧ ∃ x_2, look μ1 x_1 = D.lst x_2 ∧ xs.length + x_2.length ≤ 16777216 ∧
                      N [some x, some y, some (D.ref a), some (D.ref b), some (D.int p.fst), some (D.int p.snd), s3, s4] (μ1.set a (MO.lst (xs ++ x_2))))
          ds [] (((μ.set a (MO.lst (List.map segD (List.flatMap (bothPart B) pre)))).set b (MO.lst ds)).set a_1 (MO.lst [])) := by
      rintro L' ds rfl hLe
      have ra : ((μ.set a (MO.lst (List.map segD (List.flatMap (bothPart B) pre)))).set b (MO.lst (L'.map segD))) a = some (MO.lst (List.map segD (List.flatMap (bothPart B) pre))) := by
        rw [Mem.set_ne hab, Mem.set_same]
      refine ⟨⟨_, ra⟩, fun c hc => ?_⟩
      have hcb : b ≠ c := fun z => by subst z; simp at hc
      refine lc_filter (p := fun d => match d with | .tup (.int s :: _) => decide (s ≤ p.2) | _ => false) (f := fun d => match d with | .tup [.int u, .int v] => segD (clip p (u, v)) | _ => .non) hc (fun acc => ?_) _ [] (fun z hz zs P hP => ?_) ?_ ?_
      · show ((_ : Mem).set c _) b = some _
        rw [Mem.set_ne hcb, Mem.set_same]
      · obtain ⟨q, hq, rfl⟩ := List.mem_map.mp hz
        by_cases e : q.1 ≤ p.2
        · simp [segD, dTst, e, clip] at hP ⊢
          exact hP _ fun P' hP' => by simpa using hP'
        · simp [segD, dTst, e, clip] at hP ⊢
          exact hP _
      · have := (List.dropWhile_sublist (l := B) fun q => decide (q.2 < p.1)).length_le
        rw [← hLe] at this
        simp; omega
      · have e2 : ([] : List D) ++ ((L'.map segD).filter (fun d => match d with | .tup (.int s :: _) => decide (s ≤ p.2) | _ => false)).map (fun d => match d with | .tup [.int u, .int v] => segD (clip p (u, v)) | _ => .non) = (bothPart B p).map segD := by
          rw [List.nil_append, List.filter_map, List.map_map, hLe, bothPart, List.map_map]
          rfl
        rw [e2]
        refine ⟨_, ra, _, rfl, ?_, hN' _ _ _ _ _ ?_⟩
        · simp only [List.length_map]
          simp only [List.length_append] at hl2 hl3
          omega
        · rw [← hLe, List.map_append]
          funext z
          unfold Mem.set
          by_cases e1 : z = a
          · subst e1; simp [hab]
          · simp [e1]
    rintro n env μ' ⟨L', rfl, rfl, rfl, hd'⟩
    cases L' with
    | nil =>
      simp
      exact cont [] [] rfl hd'
    | cons q L' =>
      have hpq : plainN 32 (.lst (.tup [.int q.1, .int q.2] :: L'.map segD)) = true := by simp [plainN, segD]
      by_cases c : q.2 < p.1
      · simp [segD, hpq, c]
        refine ⟨0, by simp [seqIndex?], ⟨_, rfl⟩, L'.length, by omega, L', rfl, rfl, ?_⟩
        rw [← hd']; simp [List.dropWhile_cons, c]
      · simp [segD, hpq, c]
        refine cont (q :: L') _ rfl ?_
        rw [← hd']; simp [List.dropWhile_cons, c]
  · rintro env μ' ⟨s1, s2, s3, s4, L, rfl, rfl, hL, hdw⟩
    refine ⟨trivial, ?_⟩
    simp
    have ra : ((μ.set a (MO.lst (List.map segD (List.flatMap (bothPart B) A)))).set b (MO.lst (L.map segD))) a = some (MO.lst (List.map segD (List.flatMap (bothPart B) A))) := by
      rw [Mem.set_ne hab, Mem.set_same]
    rw [s_oTupleM _ _ _ ra, ← hbo]
    refine ⟨μ, fun c m e => ?_, h⟩
    rw [Mem.set_ne (fun z => by subst z; rw [hbn] at e; cases e), Mem.set_ne (fun z => by subst z; rw [ha] at e; cases e)]
    exact e
end K
end
section
set_option Elab.async false
set_option linter.all false
set_option maxRecDepth 100000
set_option maxHeartbeats 2000000
namespace K
open PySem PySem.Spec DL C8 L2 PL PM
theorem lc_f {α : Type} {a : Addr} {keep : Mem → Prop} {g : DG} {tt : DTT} {te : DT} {env : DL.Env} {Q : QD} {μ : Mem} (e : α → D) (p : α → Bool) (f : α → D) (hn : μ a = none) (hk : ∀ acc, keep (μ.set a (.lst acc)))
    : ∀ (xs : List α) (acc : List D), (∀ x ∈ xs, ∀ (ys : List D) (P : DL.Env → Bool → Mem → Prop), (∀ env', (p x = true → ∀ P' : QD, P' (f x) (μ.set a (.lst ys)) → te env' (μ.set a (.lst ys)) P' (fun _ _ => False)) → P env' (p x) (μ.set a (.lst ys))) →
        dG g (e x) env fun env' => tt env' (μ.set a (.lst ys)) (P env') (fun _ _ => False)) → acc.length + xs.length ≤ sizeLine →
      Q (.lst (acc ++ (xs.filter p).map f)) μ → lcGo a false keep g tt te env Q (xs.map e) acc (μ.set a (.lst acc))
  | [], acc, _, _, hq => ⟨hk _, Mem.set_same .., μ, Mem.Sub.set hn, hn, by simpa using hq⟩
  | x :: xs, acc, hs, hl, hq => by
    simp only [List.length_cons] at hl
    refine ⟨hk _, hs x (by simp) acc (fun env' b μ1 => if b = true then te env' μ1 (fun y μ2 => μ2 a = some (.lst acc) ∧ acc.length < sizeLine ∧ lcGo a false keep g tt te env Q (xs.map e) (acc ++ [y]) (μ2.set a (.lst (acc ++ [y])))) (fun _ _ => False)
      else lcGo a false keep g tt te env Q (xs.map e) acc μ1) fun env' he => ?_⟩
    cases q : p x with
    | false =>
      simp only [Bool.false_eq_true, if_false]
      exact lc_f e p f hn hk xs acc (fun y hy => hs y (by simp [hy])) (by omega) (by simpa [List.filter_cons, q] using hq)
    | true =>
      simp only [if_true]
      refine he q _ ⟨Mem.set_same .., by omega, ?_⟩
      rw [Mem.set_set]
      exact lc_f e p f hn hk xs (acc ++ [f x]) (fun y hy => hs y (by simp [hy])) (by simp only [List.length_append, List.length_cons, List.length_nil]; omega) (by simpa [List.filter_cons, q] using hq)
theorem lc_m {α : Type} {a : Addr} {keep : Mem → Prop} {g : DG} {te : DT} {env : DL.Env} {Q : QD} {μ : Mem} (e : α → D) (f : α → D) (hn : μ a = none) (hk : ∀ acc, keep (μ.set a (.lst acc))) (xs : List α)
    (hs : ∀ x ∈ xs, ∀ (ys : List D) (P : QD), P (f x) (μ.set a (.lst ys)) → dG g (e x) env fun env' => te env' (μ.set a (.lst ys)) P (fun _ _ => False)) (hl : xs.length ≤ sizeLine)
    (hq : Q (.lst (xs.map f)) μ) : lcGo a false keep g dYes te env Q (xs.map e) [] (μ.set a (.lst [])) := by
  have : ∀ (xs : List α) (acc : List D), (∀ x ∈ xs, ∀ (ys : List D) (P : QD), P (f x) (μ.set a (.lst ys)) → dG g (e x) env fun env' => te env' (μ.set a (.lst ys)) P (fun _ _ => False)) → acc.length + xs.length ≤ sizeLine →
      Q (.lst (acc ++ xs.map f)) μ → lcGo a false keep g dYes te env Q (xs.map e) acc (μ.set a (.lst acc)) := by
    intro xs
    induction xs with
    | nil => intro acc _ _ hq; exact ⟨hk _, Mem.set_same .., μ, Mem.Sub.set hn, hn, by simpa using hq⟩
    | cons x xs ih =>
      intro acc hs hl hq
      simp only [List.length_cons] at hl
      refine ⟨hk _, hs x (by simp) acc _ ⟨Mem.set_same .., by omega, ?_⟩⟩
      rw [Mem.set_set]
      exact ih (acc ++ [f x]) (fun y hy => hs y (by simp [hy])) (by simp only [List.length_append, List.length_cons, List.length_nil]; omega) (by simpa using hq)
  exact this xs [] hs (by simpa using hl) (by simpa using hq)
theorem lc_mm {α : Type} {a : Addr} {keep : Mem → Prop} {g : DG} {te : DT} {env : DL.Env} {Q : QD} {μ : Mem} (e : α → D) (f : α → D) (hn : μ a = none) (hk : ∀ acc, keep (μ.set a (.lst acc))) (xs : List α)
    (hs : ∀ x ∈ xs, ∀ (ys : List D) (P : QD), P (f x) (μ.set a (.lst ys)) → dG g (e x) env fun env' => te env' (μ.set a (.lst ys)) P (fun _ _ => False)) (hl : xs.length ≤ sizeLine)
    (hq : Q (.ref a) (μ.set a (.lst (xs.map f)))) : lcGo a true keep g dYes te env Q (xs.map e) [] (μ.set a (.lst [])) := by
  have : ∀ (xs : List α) (acc : List D), (∀ x ∈ xs, ∀ (ys : List D) (P : QD), P (f x) (μ.set a (.lst ys)) → dG g (e x) env fun env' => te env' (μ.set a (.lst ys)) P (fun _ _ => False)) → acc.length + xs.length ≤ sizeLine →
      Q (.ref a) (μ.set a (.lst (acc ++ xs.map f))) → lcGo a true keep g dYes te env Q (xs.map e) acc (μ.set a (.lst acc)) := by
    intro xs
    induction xs with
    | nil => intro acc _ _ hq; exact ⟨hk _, by simpa using hq⟩
    | cons x xs ih =>
      intro acc hs hl hq
      simp only [List.length_cons] at hl
      refine ⟨hk _, hs x (by simp) acc _ ⟨Mem.set_same .., by omega, ?_⟩⟩
      rw [Mem.set_set]
      exact ih (acc ++ [f x]) (fun y hy => hs y (by simp [hy])) (by simp only [List.length_append, List.length_cons, List.length_nil]; omega) (by simpa using hq)
  exact this xs [] hs (by simpa using hl) (by simpa using hq)

theorem vc_laid_over : Vc n_laid_over ["parts", "low", "high", "giver"] b_laid_over S_laid_over := by
  rintro ds μ Q Ex _ ⟨ps, lo, hi, g, rfl, hl, h⟩
  simp [b_laid_over, n_laid_over]
  intro a ha
  refine lc_f Pa.d (fun p => decide (p.lo < lo)) (fun p => (⟨p.lo, if lo - 1 < p.hi then lo - 1 else p.hi, p.v⟩ : Pa D).d) ha (fun _ => trivial) ps [] (fun p hp ys P hP => ?_) (by simp; omega) ?_
  · by_cases c : p.lo < lo
    · simp [Pa.d, dTst, c] at hP ⊢
      exact hP _ fun P' hP' => by simpa using hP'
    · simp [Pa.d, dTst, c] at hP ⊢
      exact hP _
  · simp
    intro a ha
    refine lc_f Pa.d (fun p => decide (p.hi > hi)) (fun p => (⟨if hi + 1 > p.lo then hi + 1 else p.lo, p.hi, p.v⟩ : Pa D).d) ha (fun _ => trivial) ps [] (fun p hp ys P hP => ?_) (by simp; omega) ?_
    · by_cases c : p.hi > hi
      · have c' : hi < p.hi := c
        simp [Pa.d, dTst, c'] at hP ⊢
        exact hP _ fun P' hP' => by simpa using hP'
      · have c' : ¬ hi < p.hi := c
        simp [Pa.d, dTst, c'] at hP ⊢
        exact hP _
    · have h1 := List.length_filter_le (fun p : Pa D => decide (p.lo < lo)) ps
      have h2 := List.length_filter_le (fun p : Pa D => decide (p.hi > hi)) ps
      simp
      refine ⟨by omega, by simp at h2; omega, ends_of ?_⟩
      have := h
      simp only [laidOver, List.map_append, List.map_map, List.map_cons, List.map_nil] at this
      simpa [Pa.d, Function.comp_def] using this
theorem paD_lay (ps : List (Pa (Option Nat))) (lo hi : Int) (g : Option Nat) : (laidOver ps lo hi g).map paD = (laidOver (ps.map (Pa.map optD)) lo hi (optD g)).map Pa.d := by
  unfold laidOver
  simp only [List.map_append, List.map_map, List.map_cons, List.map_nil, List.filter_map]
  rfl
theorem vc_painted : Vc n_painted ["some"] b_painted S_painted := by
  rintro ds μ Q Ex _ ⟨row, rfl, hr, h⟩
  simp [b_painted, n_painted]
  have hen : enumD (row.map Sk.d) = (row.zipIdx).map fun q => .tup [.int (q.2 : Nat), q.1.d] := by
    unfold enumD
    rw [List.length_map]
    apply List.ext_getElem
    · simp
    · intro i h1 h2; simp
  rw [hen]
  have hgo : ∀ (pre post : List (Sk × Nat)), row.zipIdx = pre ++ post → (paintM (pre.map (·.1))).length ≤ 2 * pre.length + 1 ∧ ∀ q post', post = q :: post' → paintM ((pre ++ [q]).map (·.1)) = laidOver (paintM (pre.map (·.1))) q.1.lo q.1.hi (some q.2) := by
    intro pre post hp
    have hrow : row = pre.map (·.1) ++ post.map (·.1) := by
      have := congrArg (List.map Prod.fst) hp
      rw [List.zipIdx_map_fst] at this
      simpa using this
    refine ⟨?_, fun q post' e => ?_⟩
    · have := paint_len (row := pre.map (·.1)) fun s hs => hr.ok s (by rw [hrow]; exact List.mem_append_left _ hs)
      simpa using this
    · subst e
      have hq : q.2 = pre.length := by
        have h1 : (row.zipIdx)[pre.length]? = some q := by rw [hp]; simp
        rw [List.getElem?_zipIdx] at h1
        cases h2 : row[pre.length]? with
        | none => rw [h2] at h1; cases h1
        | some s => rw [h2] at h1; simp at h1; rw [← h1]
      have : ∀ (r : List Sk) (k : Nat) (ps : List (Pa (Option Nat))), paintGo (r ++ [q.1]) k ps = laidOver (paintGo r k ps) q.1.lo q.1.hi (some (k + r.length)) := by
        intro r
        induction r with
        | nil => intro k ps; simp [paintGo]
        | cons s r ih =>
          intro k ps
          simp only [List.cons_append, paintGo, ih, List.length_cons]
          congr 2; omega
      rw [List.map_append, paintM, List.map_cons, List.map_nil, this]
      simp [paintM, hq]
  refine for_map (fun pre env μ' => ∃ s1 s2 s3 s4, env = [some (.tup (row.map Sk.d)), some (.lst ((paintM (pre.map (·.1))).map paD)), s1, s2, s3, s4] ∧ μ' = μ) ⟨none, none, none, none, rfl, rfl⟩ ?_ ?_
  · rintro pre q post hp env μ' ⟨s1, s2, s3, s4, rfl, rfl⟩
    refine ⟨trivial, fun N hN => ?_⟩
    obtain ⟨g1, g2⟩ := hgo pre (q :: post) hp
    have g3 := g2 q post rfl
    have hpl : pre.length < row.length := by
      have := congrArg List.length hp
      simp at this; omega
    have := hr.len
    simp [Sk.d]
    refine ⟨(paintM (pre.map (·.1))).map (Pa.map optD), q.1.lo, q.1.hi, .int (q.2 : Nat), by rw [List.map_map]; rfl, by simp; omega, ?_⟩
    refine hN _ _ ⟨some (.int (q.2 : Nat)), some (.int q.1.lo), some (.int q.1.hi), some (.str q.1.col), ?_, rfl⟩
    rw [g3, paD_lay]
    simp [optD]
  · rintro env μ' ⟨s1, s2, s3, s4, rfl, rfl⟩
    refine ⟨trivial, ?_⟩
    simp
    refine ends_of ?_
    exact h
theorem plain_pa {p : Pa D} {n : Nat} (h : plainN n p.v = true) : plainN (n + 1) p.d = true := by simp [plainN, Pa.d, h]
theorem pl_mono : ∀ {n m : Nat} {d : D}, n ≤ m → plainN n d = true → plainN m d = true
  | 0, m, d, _, h => by cases d <;> simp_all [plainN]
  | n + 1, 0, d, hm, _ => by omega
  | n + 1, m + 1, d, hm, h => by
    cases d with
    | tup xs =>
      simp only [plainN, List.all_eq_true] at h ⊢
      exact fun x hx => pl_mono (by omega) (h x hx)
    | lst xs =>
      simp only [plainN, List.all_eq_true] at h ⊢
      exact fun x hx => pl_mono (by omega) (h x hx)
    | _ => simp_all [plainN]
theorem plain_pas {ps : List (Pa D)} (h : ∀ p ∈ ps, plainN 8 p.v = true) : plainN 32 (.lst (ps.map Pa.d)) = true := by
  have : ∀ p ∈ ps, plainN 31 p.d = true := fun p hp => plain_pa (pl_mono (by omega) (h p hp))
  simpa [plainN] using this
theorem keep_set {μ : Mem} {a : Addr} {m : MO} {x : D} {xs : List D} (ha : μ a = none) (hx : seqOf μ x = some xs) : keepOf x xs (μ.set a m) := by
  cases x with
  | ref b =>
    have : look μ (.ref b) = .lst xs := by
      unfold seqOf at hx
      cases q : look μ (.ref b) with
      | lst ys => rw [q] at hx; simp at hx; rw [hx]
      | tup ys => exact absurd (look_tup_inv q) (by simp)
      | rol ys => exact absurd (look_rol_inv q) (by simp)
      | _ => rw [q] at hx; cases hx
    rcases look_lst_inv this with e | ⟨b', e, q⟩
    · cases e
    · cases e
      have hb : b ≠ a := fun z => by subst z; rw [ha] at q; cases q
      show (μ.set a _) b = some _
      rw [Mem.set_ne hb]; exact q
  | _ => trivial
@[simp] theorem ix_last (n : Nat) : ixN (n + 1) (-1) = some n := by
  have h1 : ¬ (0 : Int) ≤ -1 := by omega
  have h2 : -((n + 1 : Nat) : Int) ≤ -1 := by omega
  unfold ixN
  rw [if_neg h1, if_pos h2]
  congr 1; omega
theorem look_plain {n : Nat} {v : D} (h : plainN n v = true) (μ : Mem) : look μ v = v := by
  cases v <;> first | rfl | (cases n <;> simp [plainN] at h)
theorem vc_merged : Vc n_merged ["parts"] b_merged S_merged := by
  rintro ds μ Q Ex _ ⟨x, ps, rfl, hx, hpl, hl, h⟩
  simp [b_merged, n_merged]
  intro a ha
  refine ⟨_, seqOf_mono ha hx, ?_⟩
  have hmem : ∀ pre : List (Pa D), (∀ p ∈ pre, plainN 8 p.v = true) → ∀ found : List (Pa D), (∀ p ∈ found, plainN 8 p.v = true) → ∀ p ∈ pre.foldl mergeStep found, plainN 8 p.v = true := by
    intro pre
    induction pre with
    | nil => intro _ found h p hp; exact h p hp
    | cons q pre ih =>
      intro hq found hf
      refine ih (fun p hp => hq p (by simp [hp])) _ fun p hp => ?_
      unfold mergeStep at hp
      split at hp
      · rename_i r e
        have es := plast_split e
        split at hp
        · rcases List.mem_append.mp hp with hp | hp
          · exact hf p (by rw [es]; simp [hp])
          · simp at hp; subst hp; exact hq q (by simp)
        · rcases List.mem_append.mp hp with hp | hp
          · exact hf p hp
          · simp at hp; subst hp; exact hq _ (by simp)
      · simp at hp; subst hp; exact hq _ (by simp)
  refine for_map (fun pre env μ' => ∃ s1 s2 s3, env = [some x, some (.ref a), s1, s2, s3] ∧ μ' = μ.set a (.lst ((pre.foldl mergeStep []).map Pa.d))) ⟨none, none, none, rfl, rfl⟩ ?_ ?_
  · rintro pre p post hp env μ' ⟨s1, s2, s3, rfl, rfl⟩
    have hpp : ∀ q ∈ pre, plainN 8 q.v = true := fun q hq => hpl q (by rw [hp]; simp [hq])
    have hp8 : plainN 8 p.v = true := hpl p (by rw [hp]; simp)
    have hfp := hmem pre hpp [] (by simp)
    refine ⟨keep_set ha hx, fun N hN => ?_⟩
    · have hlen : pre.length < ps.length := by rw [hp]; simp
      have hfl := mergeGo_len pre []
      simp only [List.length_nil, Nat.zero_add] at hfl
      have hN' : ∀ s1 s2 s3, N [some x, some (.ref a), s1, s2, s3] (μ.set a (.lst ((mergeStep (pre.foldl mergeStep []) p).map Pa.d))) := fun s1 s2 s3 => hN _ _ ⟨s1, s2, s3, rfl, by rw [List.foldl_append]; rfl⟩
      generalize pre.foldl mergeStep [] = found at *
      have hpf : plainN 32 (.lst (found.map Pa.d)) = true := plain_pas hfp
      cases q : found.getLast? with
      | none =>
        have : found = [] := by simpa using q
        subst this
        simp [Pa.d]
        have := hN' (some (.int p.lo)) (some (.int p.hi)) (some p.v)
        simpa [mergeStep, Pa.d] using this
      | some r =>
        have e := plast_split q
        generalize found.dropLast = init at *
        subst e
        have hr8 : plainN 32 r.v = true := pl_mono (by omega) (hfp r (by simp))
        have hp32 : plainN 32 p.v = true := pl_mono (by omega) hp8
        have hj : mergeStep (init ++ [r]) p = if r.hi + 1 = p.lo ∧ r.v = p.v then init ++ [⟨r.lo, p.hi, p.v⟩] else init ++ [r] ++ [p] := by
          unfold mergeStep
          rw [q]; simp
        simp only [List.map_append, List.map_cons, List.map_nil, Pa.d] at hpf
        simp at hlen hfl
        by_cases c : r.hi + 1 = p.lo
        · by_cases c2 : r.v = p.v
          · simp [Pa.d, c, c2, hpf, hp32, look_plain hp32]
            have := hN' (some (.int p.lo)) (some (.int p.hi)) (some p.v)
            rw [hj, if_pos ⟨c, c2⟩] at this
            rw [c2] at hpf
            simpa [Pa.d, hpf] using this
          · have c3 : DL.same r.v p.v = false := DL.same_of_ne c2
            simp [Pa.d, c, c3, hpf, hp32, hr8, look_plain hp32, look_plain hr8]
            refine ⟨by omega, ?_⟩
            have := hN' (some (.int p.lo)) (some (.int p.hi)) (some p.v)
            rw [hj, if_neg (fun z => c2 z.2)] at this
            simpa [Pa.d] using this
        · simp [Pa.d, c, hpf]
          refine ⟨by omega, ?_⟩
          have := hN' (some (.int p.lo)) (some (.int p.hi)) (some p.v)
          rw [hj, if_neg (fun z => c z.1)] at this
          simpa [Pa.d] using this
  · rintro env μ' ⟨s1, s2, s3, rfl, rfl⟩
    refine ⟨keep_set ha hx, ?_⟩
    simp
    exact ⟨μ, Mem.Sub.set ha, ha, ends_of h⟩
theorem vc_done_by : Vc n_done_by ["book", "moment"] b_done_by S_done_by := by
  rintro ds μ Q Ex _ ⟨bk, row, m, rfl, hb, h0, hm, h⟩
  cases m with
  | none =>
    simp [b_done_by, n_done_by, optD, DL.isNon]
    exact ⟨isBk_ins hb (by decide), bk, row, rfl, hb, ends_of h⟩
  | some m =>
    have hm' : m ≤ row.length := hm
    simp [b_done_by, n_done_by, optD, DL.isNon]
    refine ⟨bk, row, m, rfl, hb, h0, by omega, by omega, ?_⟩
    simp
    refine ⟨isBk_ins hb (by decide), bk, row, rfl, hb, ?_⟩
    simp
    have e : cutD (row.map Sk.d) none (some (m : Int)) = (row.take m).map Sk.d := by
      unfold cutD
      have : HT.sIx (row.map Sk.d).length (row.map Sk.d).length (some (m : Int)) = min m (row.map Sk.d).length := HT.sIx_nat _ _ m
      rw [this, HT.sIx_none]
      simp
    rw [e]
    exact ends_of h
theorem vc_picture : Vc n_picture ["book", "moment"] b_picture S_picture := by
  rintro ds μ Q Ex _ ⟨bk, row, m, rfl, hb, hr, hm, h⟩
  simp [b_picture, n_picture]
  refine ⟨bk, row, m, rfl, hb, hr.len, hm, ?_⟩
  refine ⟨takeM row m, rfl, ?_, ?_⟩
  · cases m with
    | none => exact hr
    | some m => exact ⟨by have := hr.len; show (row.take m).length ≤ 1000; simp; omega, fun s hs => hr.ok s (List.mem_of_mem_take hs)⟩
  · exact ends_of h
end K
end
section
set_option Elab.async false
set_option linter.all false
set_option maxRecDepth 100000
set_option maxHeartbeats 2000000
namespace K
open PySem PySem.Spec DL C8 L2 PL PM
theorem at_map {α : Type} {xs : List α} {f : α → D} {i : Nat} {d0 : α} (h : i < xs.length) : atI (xs.map f) (i : Int) = some (f (xs.getD i d0)) := by
  refine DL.atI_nat ?_
  rw [List.getElem?_map, List.getElem?_eq_getElem h, List.getD_eq_getElem?_getD, List.getElem?_eq_getElem h]
  rfl
@[simp] theorem isNon_opt (g : Option Nat) : DL.isNon (optD g) = g.isNone := by cases g <;> rfl
@[simp] theorem isNon_col (g : Option Str) : DL.isNon (colD g) = g.isNone := by cases g <;> rfl
theorem plain_colD {c : Option Str} (h : ∀ s, c = some s → PyData.strOk s = true) (n : Nat) : plainN n (colD c) = true := by
  cases c with
  | none => cases n <;> rfl
  | some s => have := h s rfl; cases n <;> simpa [plainN, colD] using this
theorem plain_optD (g : Option Nat) (n : Nat) : plainN n (optD g) = true := by
  cases g <;> cases n <;> rfl
theorem takeM_ok {row : List Sk} (hr : okRow row) (m : Option Nat) : okRow (takeM row m) := by
  cases m with
  | none => exact hr
  | some m => exact ⟨by have := hr.len; show (row.take m).length ≤ 1000; simp; omega, fun s hs => hr.ok s (List.mem_of_mem_take hs)⟩
theorem paint_lt {row : List Sk} (hr : okRow row) {p : Pa (Option Nat)} (hp : p ∈ paintM row) {g : Nat} (e : p.v = some g) : g < row.length := by
  have := (paint_pic hr.ok).val p hp
  have h := this.2.2.2 p.lo (Int.le_refl _) this.2.1
  rw [e] at h
  exact top_lt h
theorem vc_colours : Vc n_colours ["book", "moment"] b_colours S_colours := by
  rintro ds μ Q Ex _ ⟨bk, row, m, rfl, hb, hr, hm, h⟩
  simp [b_colours, n_colours]
  refine ⟨bk, row, m, rfl, hb, hr.len, hm, ?_⟩
  have hr' := takeM_ok hr m
  have hpl := paint_len hr'.ok
  have hln := hr'.len
  generalize takeM row m = r at *
  refine ⟨r, rfl, hr', ?_⟩
  simp
  intro a ha
  refine lc_m paD (fun p => pcD (p.map (colAt r))) ha (fun _ => trivial) _ (fun p hp ys P hP => ?_) (by simp; omega) ?_
  · obtain ⟨lo, hi, v⟩ := p
    cases v with
    | none => simpa [paD, pcD, Pa.d, Pa.map, colAt, colD, optD, DL.isNon] using hP
    | some g =>
      have hg := paint_lt hr' hp rfl
      simp [paD, pcD, Pa.d, Pa.map, colAt, colD, optD, DL.isNon] at hP ⊢
      refine ⟨_, at_map (d0 := sk0) hg, ?_⟩
      simpa [Sk.d] using hP
  · refine ⟨_, (paintM r).map (Pa.map fun g => colD (colAt r g)), rfl, ?_, ?_, by simp; omega, ?_⟩
    · simp [List.map_map]
      intro p hp; rfl
    · intro p hp
      obtain ⟨q, hq, rfl⟩ := List.mem_map.mp hp
      refine plain_colD (fun s hs => ?_) 8
      cases e : q.v with
      | none => rw [e] at hs; cases hs
      | some g =>
        rw [e] at hs
        cases hs
        have hg := paint_lt hr' hq e
        have : r.getD g sk0 ∈ r := by rw [List.getD_eq_getElem?_getD, List.getElem?_eq_getElem hg]; exact List.getElem_mem hg
        exact (hr'.ok _ this).2.2.2.fine
    · simp
      refine ends_of ?_
      have e := merge_map colD (fun a b => colD_inj) ((paintM r).map (Pa.map (colAt r))) []
      rw [List.map_nil, List.map_map] at e
      have e2 : mergeM ((paintM r).map (Pa.map fun g => colD (colAt r g))) = (coloursM r).map (Pa.map colD) := e
      rw [e2, List.map_map]
      exact h
theorem vc_shown : Vc n_shown ["book", "look"] b_shown S_shown := by
  rintro ds μ Q Ex _ ⟨bk, row, k, rfl, hb, hr, hk, h⟩
  simp [b_shown, n_shown]
  refine ⟨bk, row, k, rfl, hb, hr.len, hk, ?_⟩
  simp [Lk.d]
  refine ⟨bk, row, some k.m, rfl, hb, hr, hk.1, ?_⟩
  have hr' := takeM_ok hr (some k.m)
  have hpl := paint_len hr'.ok
  have hln := hr'.len
  simp
  intro a ha
  refine lc_f paD (fun p => decide (p.lo ≤ k.b ∧ p.hi ≥ k.a)) (fun p => paD ⟨if k.a > p.lo then k.a else p.lo, if k.b < p.hi then k.b else p.hi, p.v⟩) ha (fun _ => trivial) _ [] (fun p hp ys P hP => ?_) (by simp; omega) ?_
  · by_cases c : p.lo ≤ k.b
    · by_cases c2 : k.a ≤ p.hi
      · simp [paD, Pa.d, Pa.map, dTst, c, c2] at hP ⊢
        exact hP _ fun P' hP' => by simpa using hP'
      · simp [paD, Pa.d, Pa.map, dTst, c, c2] at hP ⊢
        exact hP _
    · simp [paD, Pa.d, Pa.map, dTst, c] at hP ⊢
      exact hP _
  · simp
    refine ends_of ?_
    have : (shownM row k).map paD = ((paintM (row.take k.m)).filter fun p => decide (p.lo ≤ k.b ∧ p.hi ≥ k.a)).map fun p => paD ⟨if k.a > p.lo then k.a else p.lo, if k.b < p.hi then k.b else p.hi, p.v⟩ := by
      rw [shownM, clipM, List.map_map]; rfl
    rw [this] at h
    simpa [takeM] using h
theorem vc_beneath : Vc n_beneath ["parts", "slot"] b_beneath S_beneath := by
  rintro ds μ Q Ex _ ⟨ps, slot, rfl, hl, h⟩
  simp [b_beneath, n_beneath]
  intro a ha
  refine lc_f paD (fun p => under slot p.v) (fun p => segD p.sp) ha (fun _ => trivial) _ [] (fun p hp ys P hP => ?_) (by simp; omega) ?_
  · obtain ⟨lo, hi, v⟩ := p
    cases v with
    | none =>
      simp [paD, Pa.d, Pa.map, dTst, under, optD, DL.isNon] at hP ⊢
      exact hP _ fun P' hP' => by simpa [segD, Pa.sp] using hP'
    | some g =>
      by_cases c : (g : Int) < slot
      · simp [paD, Pa.d, Pa.map, dTst, under, optD, DL.isNon, c] at hP ⊢
        exact hP _ fun P' hP' => by simpa [segD, Pa.sp] using hP'
      · simp [paD, Pa.d, Pa.map, dTst, under, optD, DL.isNon, c] at hP ⊢
        exact hP _
  · refine ends_of ?_
    rw [beneathM, List.map_map] at h
    simpa [Function.comp_def] using h
theorem cut_tail (xs : List D) : cutD xs (some 1) none = xs.drop 1 := by
  unfold cutD
  have h : HT.sIx xs.length 0 (some 1) = min 1 xs.length := HT.sIx_nat xs.length 0 1
  rw [h, HT.sIx_none]
  by_cases hl : 1 ≤ xs.length
  · have : min 1 xs.length = 1 := by omega
    rw [this, List.take_of_length_le (by simp)]
  · have : xs = [] := by cases xs with
      | nil => rfl
      | cons => simp at hl
    subst this; rfl
theorem zip_next {α : Type} {f : α → D} {R : α → α → Prop} {L : List α} (h : L.Pairwise R) : ∀ d ∈ zipD (L.map f) ((L.map f).drop 1), ∃ a b, d = .tup [f a, f b] ∧ R a b := by
  induction L with
  | nil => intro d hd; simp [zipD] at hd
  | cons a L ih =>
    intro d hd
    cases L with
    | nil => simp [zipD] at hd
    | cons b L =>
      have hp := List.pairwise_cons.mp h
      simp only [List.map_cons, List.drop_succ_cons, List.drop_zero, zipD, List.zipWith_cons_cons, List.mem_cons] at hd
      rcases hd with rfl | hd
      · exact ⟨a, b, rfl, hp.1 b (by simp)⟩
      · exact ih hp.2 d (by simpa [zipD] using hd)
theorem vc_is_wish : Vc n_is_wish ["thing"] b_is_wish S_is_wish := by
  rintro ds μ Q Ex _ ⟨w, rfl, hw, h⟩
  have hl := hw.len
  have hl' : ¬ (12 : Int) < (w.length : Int) := by omega
  simp [b_is_wish, n_is_wish, wishD]
  refine .inl ⟨by omega, ?_⟩
  intro a ha
  refine lc_map (f := fun _ => .bl true) ha (fun _ => trivial) _ [] (fun y hy ys P hP => ?_) ?_ ?_
  · obtain ⟨p, hp, rfl⟩ := List.mem_map.mp hy
    have := hw.ok p hp
    simp
    exact ⟨p, rfl, this.1, this.2.1, this.2.2.1, this.2.2.2, hP⟩
  · simp; omega
  · refine all_true (fun _ _ => rfl) ?_
    simp
    intro b hb
    refine lc_map (f := fun _ => .bl true) hb (fun _ => trivial) _ [] (fun y hy ys P hP => ?_) ?_ ?_
    · rw [cut_tail] at hy
      obtain ⟨p, q, rfl, hpq⟩ := zip_next hw.up y hy
      simp [pcD, Pa.d, Pa.map, hpq]
      exact hP
    · rw [zipD_length]; simp; omega
    · exact all_true (fun _ _ => rfl) (ends_of h)
theorem vc_firm : Vc n_firm ["wish"] b_firm S_firm := by
  rintro ds μ Q Ex _ ⟨w, rfl, hw, h⟩
  have hl := hw.len
  simp [b_firm, n_firm]
  refine ⟨w, rfl, hw, ?_⟩
  simp [wishD]
  intro a ha
  refine lc_m pcD (fun p => segD p.sp) ha (fun _ => trivial) w (fun p hp ys P hP => ?_) (by simp; omega) ?_
  · simp [pcD, Pa.d, Pa.map]
    simpa [segD, Pa.sp] using hP
  · refine ⟨_, _, allM, w.map Pa.sp, rfl, rfl, ?_, allM_ok, wish_ok hw, by simp [allM], by simp; omega, by simp [allM]; omega, ?_⟩
    · simp [List.map_map]
    · exact ends_of h
end K
end
section
set_option Elab.async false
set_option linter.all false
set_option maxRecDepth 100000
set_option maxHeartbeats 2000000
namespace K
open PySem PySem.Spec DL C8 L2 PL PM
theorem rng_get {n i : Nat} {x : D} (h : (rngD 0 n)[i]? = some x) : i < n ∧ x = .int (i : Int) := by
  unfold rngD at h
  rw [List.getElem?_map] at h
  by_cases hi : i < n
  · rw [List.getElem?_range hi] at h
    simp at h
    exact ⟨hi, h.symm⟩
  · rw [List.getElem?_eq_none (by simpa using hi)] at h
    cases h
@[simp] theorem i_iRng1 (μ : Mem) (Qi : QI) (n : Int) : iRng1.o.sem [.int n] μ Qi = (-(2 ^ 62) ≤ n ∧ n < 2 ^ 62 ∧ Qi (rngD 0 n.toNat) (fun _ => True) μ) := rfl
theorem vc_is_laying : Vc n_is_laying ["book", "thing"] b_is_laying S_is_laying := by
  rintro ds μ Q Ex _ ⟨bk, row, L, rfl, hb, h0, hL, h⟩
  simp [b_is_laying, n_is_laying, layD]
  intro a ha
  refine lc_map (f := fun _ => .bl true) ha (fun _ => trivial) _ [] (fun y hy ys P hP => ?_) ?_ ?_
  · obtain ⟨k, hk, rfl⟩ := List.mem_map.mp hy
    have := hL.ok k hk
    have hb' := isBk_set (m := .lst ys) hb ha
    simp
    refine ⟨isBk_ins hb' (by decide), bk, row, rfl, hb', ?_⟩
    simp
    exact ⟨by omega, k, row.length, rfl, this.1, this.2.1, this.2.2, hP⟩
  · have := hL.len; simp; omega
  · refine all_true (fun _ _ => rfl) ?_
    simp
    intro b hbn
    refine lc_map (f := fun _ => .bl true) hbn (fun _ => trivial) _ [] (fun y hy ys P hP => ?_) ?_ ?_
    · rw [cut_tail] at hy
      obtain ⟨k, l, rfl, hkl⟩ := zip_next hL.up y hy
      simp [Pt.d, hkl]
      exact hP
    · have := hL.len; rw [zipD_length]; simp; omega
    · exact all_true (fun _ _ => rfl) (ends_of h)
theorem enumD_lay (L : List Pt) : enumD (L.map Pt.d) = ((List.range L.length).zip L).map fun q => .tup [.int (q.1 : Nat), q.2.d] := by
  unfold enumD
  rw [List.length_map, List.zipWith_map_right, List.zip, List.map_zipWith]
theorem vc_woven : Vc n_woven ["size", "laying"] b_woven S_woven := by
  rintro ds μ Q Ex _ ⟨n, L, rfl, h0, hL, h⟩
  have hlen := hL.len
  simp [b_woven, n_woven]
  intro a ha
  refine ⟨by omega, by omega, ?_⟩
  have hw : ∀ i, i ≤ n + 1 → ((List.range i).flatMap (wvAt L n)).length ≤ i * 1001 := by
    intro i
    induction i with
    | zero => intro _; simp
    | succ i ih =>
      intro hi
      have := ih (by omega)
      rw [List.range_succ, List.flatMap_append, List.length_append]
      have h3 : ([i].flatMap (wvAt L n)).length ≤ 1001 := by
        simp only [List.flatMap_cons, List.flatMap_nil, List.append_nil, wvAt, List.length_append, List.length_map]
        have h4 := List.length_filter_le (fun q : Nat × Pt => decide (q.2.slot = (i : Int))) ((List.range L.length).zip L)
        have h5 : ((List.range L.length).zip L).length ≤ L.length := by simp
        split <;> simp <;> omega
      omega
  refine for_go (fun i env μ' => ∃ s, env = [some (.int n), some (layD L), some (.ref a), s, none, none] ∧ μ' = μ.set a (.lst (((List.range i).flatMap (wvAt L n)).map wD))) ⟨none, rfl, rfl⟩ ?_ ?_
  · rintro i x hx env μ' ⟨s, rfl, rfl⟩
    obtain ⟨hi, rfl⟩ := rng_get hx
    have hwi := hw i (by omega)
    refine ⟨trivial, fun N hN => ?_⟩
    simp [layD]
    intro b hb
    have hba : b ≠ a := fun z => by subst z; simp at hb
    refine lc_filter (p := fun d => match d with | .tup [_, .tup (.int s :: _)] => decide (s = (i : Int)) | _ => false) (f := fun d => match d with | .tup [x, _] => .tup [.bl true, x] | _ => .non) hb (fun _ => trivial) _ [] (fun y hy ys P hP => ?_) ?_ ?_
    · rw [enumD_lay] at hy
      obtain ⟨q, hq, rfl⟩ := List.mem_map.mp hy
      by_cases hlt : q.2.slot = (i : Int)
      · simp [Pt.d, dTst, hlt] at hP ⊢
        exact hP _ fun P' hP' => by simpa using hP'
      · simp [Pt.d, dTst, hlt] at hP ⊢
        exact hP _
    · rw [enumD_length]; simp; omega
    · have e2 : ([] : List D) ++ ((enumD (L.map Pt.d)).filter (fun d => match d with | .tup [_, .tup (.int s :: _)] => decide (s = (i : Int)) | _ => false)).map (fun d => match d with | .tup [x, _] => .tup [.bl true, x] | _ => .non) =
          ((((List.range L.length).zip L).filter fun q => decide (q.2.slot = (i : Int))).map (fun q => (true, q.1))).map wD := by
        rw [enumD_lay, List.filter_map, List.map_map, List.nil_append, List.map_map]
        rfl
      rw [e2]
      have h5 : ((((List.range L.length).zip L).filter fun q => decide (q.2.slot = (i : Int))).map (fun q => (true, q.1))).length ≤ L.length := by
        simp only [List.length_map]
        refine Nat.le_trans (List.length_filter_le _ _) (by simp)
      have h6 : i * 1001 ≤ 1001 * 1001 := Nat.mul_le_mul_right _ (by omega)
      have e3 : (List.range (i + 1)).flatMap (wvAt L n) = (List.range i).flatMap (wvAt L n) ++ ((((List.range L.length).zip L).filter fun q => decide (q.2.slot = (i : Int))).map (fun q => (true, q.1)) ++ if i < n then [(false, i)] else []) := by
        rw [List.range_succ, List.flatMap_append]; simp [wvAt]
      rw [e3] at hN
      generalize (((List.range L.length).zip L).filter fun q => decide (q.2.slot = (i : Int))).map (fun q => (true, q.1)) = late at *
      generalize (List.range i).flatMap (wvAt L n) = acc at *
      by_cases hin : i < n
      · have hin' : (i : Int) < (n : Int) := by omega
        simp [hin]
        refine ⟨by omega, .inr ⟨by omega, hN _ _ ⟨_, rfl, ?_⟩⟩⟩
        simp [hin, wD]
      · have hin' : (n : Int) ≤ (i : Int) := by omega
        simp [hin]
        refine ⟨by omega, by omega, hN _ _ ⟨_, rfl, ?_⟩⟩
        simp [hin, wD]
  · rintro env μ' ⟨s, rfl, rfl⟩
    refine ⟨trivial, ?_⟩
    simp
    refine ⟨μ, Mem.Sub.set ha, ha, ends_of ?_⟩
    simpa [wv, rngD] using h
theorem vc_laid_by : Vc n_laid_by ["book", "laying"] b_laid_by S_laid_by := by
  rintro ds μ Q Ex _ ⟨bk, row, L, rfl, hb, h0, h1, hL, h⟩
  have hlen := hL.len
  simp [b_laid_by, n_laid_by]
  refine ⟨isBk_ins hb (by decide), bk, row, rfl, hb, ?_⟩
  simp
  refine ⟨isBk_ins hb (by decide), bk, row, rfl, hb, ?_⟩
  simp
  refine ⟨by omega, ?_⟩
  refine ⟨row.length, L, rfl, by omega, hL, ?_⟩
  simp
  intro a ha
  refine lc_map (f := fun d => match d with | .tup [.bl b, .int i] => if b then (L.getD i.toNat pt0).s.d else (row.getD i.toNat sk0).d | _ => .non) ha (fun _ => trivial) _ [] (fun y hy ys P hP => ?_) ?_ ?_
  · obtain ⟨q, hq, rfl⟩ := List.mem_map.mp hy
    have hm := wv_mem hL hq
    obtain ⟨b, i⟩ := q
    cases b with
    | true =>
      have hi : i < L.length := by simpa using hm
      simp [wD, layD]
      refine ⟨_, at_map (d0 := pt0) hi, ?_⟩
      simp [Pt.d]
      simpa [wD, Sk.d] using hP
    | false =>
      have hi : i < row.length := by simpa using hm
      simp [wD]
      refine ⟨_, at_map (d0 := sk0) hi, ?_⟩
      simpa [wD] using hP
  · simp [wv_len hL]; omega
  · have e : ([] : List D) ++ ((wv row.length L).map wD).map (fun d => match d with | .tup [.bl b, .int i] => if b then (L.getD i.toNat pt0).s.d else (row.getD i.toNat sk0).d | _ => .non) = (laidM row L).map Sk.d := by
      unfold laidM
      rw [List.nil_append, List.map_map, List.map_map]
      refine List.map_congr_left fun q _ => ?_
      obtain ⟨b, i⟩ := q
      cases b <;> simp [wD]
    rw [e]
    intro x hx
    refine ⟨x, _, _, rfl, .inl rfl, laidM_ok h0 hL h1, by simp, ?_⟩
    refine ⟨rfl, _, Mem.set_same .., μ, ?_, hx, ends_of h⟩
    rw [Mem.set_set]
    exact Mem.Sub.set hx
theorem enumD_map {α : Type} (f : α → D) (L : List α) : enumD (L.map f) = ((List.range L.length).zip L).map fun q => .tup [.int (q.1 : Nat), f q.2] := by
  unfold enumD
  rw [List.length_map, List.zipWith_map_right, List.zip, List.map_zipWith]
theorem vc_numbers : Vc n_numbers ["book", "laying"] b_numbers S_numbers := by
  rintro ds μ Q Ex _ ⟨bk, row, L, rfl, hb, h0, hL, h⟩
  have hlen := hL.len
  simp [b_numbers, n_numbers]
  refine ⟨bk, row, L, rfl, hb, h0, hL, ?_⟩
  refine ⟨isBk_ins hb (by decide), bk, row, rfl, hb, ?_⟩
  simp
  refine ⟨by omega, ?_⟩
  refine ⟨row.length, L, rfl, by omega, hL, ?_⟩
  simp
  intro a ha
  refine lc_filter (p := fun d => match d with | .tup [_, .tup (.bl b :: _)] => !b | _ => false) (f := fun d => match d with | .tup [x, _] => x | _ => .non) ha (fun _ => trivial) _ [] (fun y hy ys P hP => ?_) ?_ ?_
  · rw [enumD_map] at hy
    obtain ⟨q, hq, rfl⟩ := List.mem_map.mp hy
    obtain ⟨i, b, j⟩ := q
    cases b <;> simp [wD, dTst] at hP ⊢
    · exact hP _ fun P' hP' => by simpa using hP'
    · exact hP _
  · rw [enumD_length]; simp [wv_len hL]; omega
  · intro b hbn
    refine lc_filter (p := fun d => match d with | .tup [_, .tup (.bl b :: _)] => b | _ => false) (f := fun d => match d with | .tup [x, _] => x | _ => .non) hbn (fun _ => trivial) _ [] (fun y hy ys P hP => ?_) ?_ ?_
    · rw [enumD_map] at hy
      obtain ⟨q, hq, rfl⟩ := List.mem_map.mp hy
      obtain ⟨i, b, j⟩ := q
      cases b <;> simp [wD, dTst] at hP ⊢
      · exact hP _
      · exact hP _ fun P' hP' => by simpa using hP'
    · rw [enumD_length]; simp [wv_len hL]; omega
    · have e1 : ([] : List D) ++ ((enumD ((wv row.length L).map wD)).filter (fun d => match d with | .tup [_, .tup (.bl b :: _)] => !b | _ => false)).map (fun d => match d with | .tup [x, _] => x | _ => .non) = (numE row.length L).map fun i => .int (i : Nat) := by
        rw [enumD_map, List.filter_map, List.map_map, List.nil_append]
        unfold numE
        rw [List.map_map]
        rfl
      have e2 : ([] : List D) ++ ((enumD ((wv row.length L).map wD)).filter (fun d => match d with | .tup [_, .tup (.bl b :: _)] => b | _ => false)).map (fun d => match d with | .tup [x, _] => x | _ => .non) = (numL row.length L).map fun i => .int (i : Nat) := by
        rw [enumD_map, List.filter_map, List.map_map, List.nil_append]
        unfold numL
        rw [List.map_map]
        rfl
      rw [e1, e2]
      exact ends_of h
theorem vc_moved : Vc n_moved ["look", "laying"] b_moved S_moved := by
  rintro ds μ Q Ex _ ⟨k, L, rfl, h0, h⟩
  simp [b_moved, n_moved, Lk.d, layD]
  intro c hc
  refine lc_f Pt.d (fun p => decide (p.slot < (k.m : Int))) Pt.d hc (fun _ => trivial) L [] (fun p hp ys P hP => ?_) (by simp; omega) ?_
  · by_cases hlt : p.slot < (k.m : Int)
    · simp [Pt.d, dTst, hlt] at hP ⊢
      exact hP _ fun P' hP' => by simpa using hP'
    · simp [Pt.d, dTst, hlt] at hP ⊢
      exact hP _
  · simp
    have e : (movedM k L).d = .tup [.int ((k.m : Int) + ((L.filter fun p => decide (p.slot < (k.m : Int))).length : Int)), .int k.a, .int k.b] := by
      simp [movedM, Lk.d]
    rw [e] at h
    exact ends_of h
theorem vc_renumbered : Vc n_renumbered ["seen", "elder"] b_renumbered S_renumbered := by
  rintro ds μ Q Ex _ ⟨ps, E, rfl, hl, hE, h⟩
  simp [b_renumbered, n_renumbered]
  intro a ha
  refine lc_m paD (fun p => paD (p.map (renum E))) ha (fun _ => trivial) ps (fun p hp ys P hP => ?_) (by simp; omega) (ends_of h)
  obtain ⟨lo, hi, v⟩ := p
  cases v with
  | none => simpa [paD, Pa.d, Pa.map, optD, renum, DL.isNon] using hP
  | some g =>
    have hg := hE _ hp g rfl
    simp [paD, Pa.d, Pa.map, optD, renum, DL.isNon] at hP ⊢
    exact ⟨_, at_map (f := fun i : Nat => D.int (i : Int)) (d0 := 0) hg, hP⟩
end K
end
section
set_option Elab.async false
set_option linter.all false
set_option maxRecDepth 100000
set_option maxHeartbeats 2000000
namespace K
open PySem PySem.Spec DL C8 L2 PL PM
noncomputable def unl (p : Pa D) (qs : List (Pa D)) : List Seg := (qs.filter fun q => decide (p.v ≠ q.v ∧ (if q.lo > p.lo then q.lo else p.lo) ≤ (if q.hi < p.hi then q.hi else p.hi))).map fun q => (if q.lo > p.lo then q.lo else p.lo, if q.hi < p.hi then q.hi else p.hi)
theorem unl_len (p : Pa D) (qs : List (Pa D)) : (unl p qs).length ≤ qs.length := by
  unfold unl; rw [List.length_map]; exact List.length_filter_le _ _
theorem unl_snoc (p q : Pa D) (qs : List (Pa D)) : unl p (qs ++ [q]) = unl p qs ++ if p.v ≠ q.v ∧ (if q.lo > p.lo then q.lo else p.lo) ≤ (if q.hi < p.hi then q.hi else p.hi) then [(if q.lo > p.lo then q.lo else p.lo, if q.hi < p.hi then q.hi else p.hi)] else [] := by
  unfold unl
  rw [List.filter_append, List.map_append]
  congr 1
  by_cases c : p.v ≠ q.v ∧ (if q.lo > p.lo then q.lo else p.lo) ≤ (if q.hi < p.hi then q.hi else p.hi)
  · rw [if_pos c, List.filter_cons, if_pos (decide_eq_true c)]; rfl
  · rw [if_neg c, List.filter_cons, if_neg (by simpa using c)]; rfl
theorem unlikeL_snoc (p : Pa D) (ps qs : List (Pa D)) : unlikeL (ps ++ [p]) qs = unlikeL ps qs ++ unl p qs := by
  unfold unlikeL unl
  rw [List.flatMap_append]; simp
theorem vc_unlike : Vc n_unlike ["seen", "others"] b_unlike S_unlike := by
  rintro ds μ Q Ex _ ⟨x, y, ps, qs, rfl, hx, hy, px, py, lx, ly', h⟩
  simp [b_unlike, n_unlike]
  intro a ha
  refine ⟨_, seqOf_mono ha hx, ?_⟩
  have hmul : ps.length * qs.length ≤ 1000 * 1000 := Nat.mul_le_mul lx ly'
  refine for_map (fun pre env μ' => ∃ s3 s4 s5 s6 s7 s8, env = [some x, some y, some (.ref a), s3, s4, s5, s6, s7, s8] ∧ μ' = μ.set a (.lst ((unlikeL pre qs).map segD))) ⟨none, none, none, none, none, none, rfl, by simp [unlikeL]⟩ ?_ ?_
  · rintro pre p post hp env μ' ⟨s3, s4, s5, s6, s7, s8, rfl, rfl⟩
    refine ⟨keep_set ha hx, fun N hN => ?_⟩
    have hpm : p ∈ ps := by rw [hp]; simp
    have hl1 := unlikeL_len (pre ++ [p]) qs
    have hpl : (pre ++ [p]).length ≤ ps.length := by rw [hp]; simp
    have hl2 : (pre ++ [p]).length * qs.length ≤ ps.length * qs.length := Nat.mul_le_mul_right _ hpl
    have hl3 := unl_len p qs
    have hl0 := unlikeL_len pre qs
    have hpl0 : pre.length ≤ ps.length := by rw [hp]; simp
    have hl20 : pre.length * qs.length ≤ ps.length * qs.length := Nat.mul_le_mul_right _ hpl0
    have hN' : ∀ s6 s7 s8, N [some x, some y, some (.ref a), some (.int p.lo), some (.int p.hi), some p.v, s6, s7, s8] (μ.set a (.lst ((unlikeL pre qs ++ unl p qs).map segD))) := fun s6 s7 s8 => hN _ _ ⟨_, _, _, s6, s7, s8, rfl, by rw [unlikeL_snoc]⟩
    simp [Pa.d]
    refine ⟨_, seqOf_mono ha hy, ?_⟩
    refine for_map (fun pre2 env μ' => ∃ s6 s7 s8, env = [some x, some y, some (.ref a), some (.int p.lo), some (.int p.hi), some p.v, s6, s7, s8] ∧ μ' = μ.set a (.lst ((unlikeL pre qs ++ unl p pre2).map segD))) ⟨s6, s7, s8, rfl, by simp [unl]⟩ ?_ ?_
    · rintro pre2 q post2 hq env μ' ⟨s6, s7, s8, rfl, rfl⟩
      refine ⟨keep_set ha hy, fun M hM => ?_⟩
      have hqm : q ∈ qs := by rw [hq]; simp
      have hl4 := unl_len p pre2
      have hq2 : pre2.length < qs.length := by rw [hq]; simp
      have hM' := fun s6 s7 s8 => hM _ _ ⟨s6, s7, s8, rfl, by rw [unl_snoc, ← List.append_assoc]⟩
      have p32 : plainN 32 p.v = true := pl_mono (by omega) (px p hpm)
      have q32 : plainN 32 q.v = true := pl_mono (by omega) (py q hqm)
      generalize unl p pre2 = U at *
      generalize unlikeL pre qs = W at *
      simp only [List.length_append, List.length_cons, List.length_nil] at *
      by_cases c : p.v = q.v
      · simp [Pa.d, p32, q32, look_plain p32, look_plain q32, c]
        have := hM' (some (.int q.lo)) (some (.int q.hi)) (some q.v)
        rw [if_neg (fun z => z.1 c)] at this
        simpa [c, q32, look_plain q32] using this
      · have c' : DL.same p.v q.v = false := DL.same_of_ne c
        by_cases c2 : (if q.lo > p.lo then q.lo else p.lo) ≤ (if q.hi < p.hi then q.hi else p.hi)
        · have c2' : (if p.lo < q.lo then q.lo else p.lo) ≤ (if q.hi < p.hi then q.hi else p.hi) := c2
          simp [Pa.d, p32, q32, look_plain p32, look_plain q32, c', c2']
          refine .inr ⟨by omega, ?_⟩
          have := hM' (some (.int q.lo)) (some (.int q.hi)) (some q.v)
          rw [if_pos ⟨c, c2⟩] at this
          simpa [segD] using this
        · have c2' : ¬ (if p.lo < q.lo then q.lo else p.lo) ≤ (if q.hi < p.hi then q.hi else p.hi) := c2
          simp [Pa.d, p32, q32, look_plain p32, look_plain q32, c', c2']
          have := hM' (some (.int q.lo)) (some (.int q.hi)) (some q.v)
          rw [if_neg (fun z => c2 z.2)] at this
          refine ⟨by omega, ?_⟩
          simpa [segD] using this
    · rintro env μ' ⟨s6, s7, s8, rfl, rfl⟩
      exact ⟨keep_set ha hy, hN' _ _ _⟩
  · rintro env μ' ⟨s3, s4, s5, s6, s7, s8, rfl, rfl⟩
    refine ⟨keep_set ha hx, ?_⟩
    have hl1 := unlikeL_len ps qs
    simp
    refine ⟨.ref a, unlikeL ps qs, rfl, by simp, by omega, ?_⟩
    exact ⟨μ, Mem.Sub.set ha, h⟩
end K
end
section
set_option Elab.async false
set_option linter.all false
set_option maxRecDepth 100000
set_option maxHeartbeats 2000000
namespace K
open PySem PySem.Spec DL C8 L2 PL PM
theorem firm_len {w : List Wi} (h : okWish w) : (firmM w).length ≤ 13 := by
  have := apartM_len allM (w.map Pa.sp)
  have h2 : allM.length = 1 := rfl
  rw [h2] at this
  have := h.len
  simp at *
  unfold firmM; omega
theorem beneath_len (ps : List (Pa (Option Nat))) (slot : Int) : (beneathM ps slot).length ≤ ps.length := by
  unfold beneathM; rw [List.length_map]; exact List.length_filter_le _ _
theorem shown_len {row : List Sk} (hr : okRow row) (k : Lk) : (shownM row k).length ≤ 2 * row.length + 1 := by
  have h1 := clip_len (paintM (row.take k.m)) k.a k.b
  have h2 := paint_len (take_ok hr.ok k.m)
  have h3 : (row.take k.m).length ≤ row.length := by simp; omega
  unfold shownM
  omega
theorem seq_look {μ : Mem} {a : Addr} {xs : List D} (h : μ a = some (.lst xs)) : seqOf μ (.ref a) = some xs := by
  unfold seqOf; rw [look_ref h]
def lookPart (row : List Sk) (slot : Int) (k : Lk) : List Seg := if (k.m : Int) > slot then beneathM (shownM row k) slot else []
theorem lookPart_len {row : List Sk} (hr : okRow row) (h60 : row.length ≤ 60) (slot : Int) : ∀ ks : List Lk, (ks.flatMap (lookPart row slot)).length ≤ ks.length * 121
  | [] => by simp
  | k :: ks => by
    have ih := lookPart_len hr h60 slot ks
    have h1 := beneath_len (shownM row k) slot
    have h2 := shown_len hr k
    rw [List.flatMap_cons, List.length_append, List.length_cons, Nat.add_mul, Nat.one_mul]
    unfold lookPart at *
    split
    · omega
    · simp only [List.length_nil]; omega
theorem vc_walls : Vc n_walls ["book", "wish", "slot", "looks"] b_walls S_walls := by
  rintro ds μ Q Ex _ ⟨bk, row, w, ks, slot, rfl, hb, hr, hw, hk, h0, h1, h60, h⟩
  have hrl := hr.len
  simp [b_walls, n_walls]
  refine ⟨bk, row, ks, rfl, hb, hrl, hk, ?_⟩
  refine ⟨w, rfl, hw, ?_⟩
  refine ⟨bk, row, slot, rfl, hb, hrl, h0, h1, ?_⟩
  simp
  refine ⟨w, rfl, hw, ?_⟩
  refine ⟨bk, row, none, rfl, hb, hr, trivial, ?_⟩
  have hpl := paint_len hr.ok
  refine ⟨paintM row, slot, rfl, by omega, ?_⟩
  have hbl := beneath_len (paintM row) slot
  have hfl := firm_len hw
  have hbk := beneath_ok (slot := slot) (paint_pic hr.ok) (Int.le_refl _) (by simp [LASTI, LASTP])
  refine ⟨_, _, firmM w, beneathM (paintM row) slot, rfl, rfl, rfl, fun p hp => (firm_in hw p hp).ok, fun p hp => (hbk p hp).ok, by omega, by omega, Nat.le_trans (Nat.mul_le_mul hfl (show _ ≤ 121 by omega)) (by omega), ?_⟩
  simp [looksD]
  intro a ha
  have hbo := bothM_len (firmM w) (beneathM (paintM row) slot)
  have hmul : (firmM w).length * (beneathM (paintM row) slot).length ≤ 13 * 121 := Nat.mul_le_mul hfl (by omega)
  have hb' : ∀ m, isBk (μ.set a m) bk row := fun m => isBk_set hb ha
  refine for_map (fun pre env μ' => ∃ s1, env = [some bk, some (wishD w), some (.int slot), some (.tup (ks.map Lk.d)), some (.ref a), s1] ∧ μ' = μ.set a (.lst ((bothM (firmM w) (beneathM (paintM row) slot) ++ pre.flatMap (lookPart row slot)).map segD))) ⟨none, rfl, by simp⟩ ?_ ?_
  · rintro pre k post hp env μ' ⟨s1, rfl, rfl⟩
    refine ⟨trivial, fun N hN => ?_⟩
    have hkm : k ∈ ks := by rw [hp]; simp
    have hpre : pre.length < ks.length := by rw [hp]; simp
    have hkl := hk.len
    have hfm := lookPart_len hr h60 slot pre
    have h2 := beneath_len (shownM row k) slot
    have h3 := shown_len hr k
    have hN' := hN [some bk, some (wishD w), some (.int slot), some (.tup (ks.map Lk.d)), some (.ref a), some k.d] _ ⟨some k.d, rfl, rfl⟩
    rw [List.flatMap_append, ← List.append_assoc] at hN'
    have hWl : (bothM (firmM w) (beneathM (paintM row) slot) ++ pre.flatMap (lookPart row slot)).length ≤ 10000 := by rw [List.length_append]; omega
    generalize bothM (firmM w) (beneathM (paintM row) slot) ++ pre.flatMap (lookPart row slot) = W at *
    simp [Lk.d]
    by_cases c : slot < (k.m : Int)
    · simp [c]
      refine .inr ⟨bk, row, k, rfl, hb' _, hr, hk.ok k hkm, ?_⟩
      refine ⟨shownM row k, slot, rfl, by omega, ?_⟩
      have c' : (k.m : Int) > slot := c
      have e : lookPart row slot k = beneathM (shownM row k) slot := if_pos c'
      simp
      refine ⟨by omega, ?_⟩
      simpa [e, Lk.d] using hN'
    · have c' : ¬ (k.m : Int) > slot := c
      have e : lookPart row slot k = [] := if_neg c'
      simp [c]
      refine ⟨by omega, ?_⟩
      simpa [e, Lk.d] using hN'
  · rintro env μ' ⟨s1, rfl, rfl⟩
    refine ⟨trivial, ?_⟩
    have hfm := lookPart_len hr h60 slot ks
    have hkl := hk.len
    simp
    refine ⟨.ref a, bothM (firmM w) (beneathM (paintM row) slot) ++ ks.flatMap (lookPart row slot), rfl, by simp, by rw [List.length_append]; omega, ?_⟩
    exact ⟨μ, Mem.Sub.set ha, h⟩
theorem walls_len {row : List Sk} {w : List Wi} {slot : Int} {ks : List Lk} (hr : okRow row) (hw : okWish w) (hk : okLooks row.length ks) (h60 : row.length ≤ 60) : (wallsM row w slot ks).length ≤ 3999 := by
  have h1 := joinM_len (bothM (firmM w) (beneathM (paintM row) slot) ++ ks.flatMap (lookPart row slot))
  have h2 := bothM_len (firmM w) (beneathM (paintM row) slot)
  have h3 := firm_len hw
  have h4 := beneath_len (paintM row) slot
  have h5 := paint_len hr.ok
  have h6 : (firmM w).length * (beneathM (paintM row) slot).length ≤ 13 * 121 := Nat.mul_le_mul h3 (by omega)
  have h7 := lookPart_len hr h60 slot ks
  have h8 := hk.len
  rw [List.length_append] at h1
  show (joinM _).length ≤ _
  exact Nat.le_trans h1 (by omega)
theorem vc_gaps : Vc n_gaps ["book", "wish", "slot", "looks"] b_gaps S_gaps := by
  rintro ds μ Q Ex _ ⟨bk, row, w, ks, slot, rfl, hb, hr, hw, hk, h0, h1, h60, h⟩
  have ⟨a1, a2, a3⟩ := walls_ok (slot := slot) (ks := ks) hr.ok hw hk.ok
  have := walls_len (slot := slot) hr hw hk h60
  simp [b_gaps, n_gaps]
  refine ⟨bk, row, w, ks, slot, rfl, hb, hr, hw, hk, h0, h1, h60, ?_⟩
  refine ⟨_, _, allM, wallsM row w slot ks, rfl, rfl, rfl, allM_ok, row_okW a1 a3, by simp [allM], by omega, by simp [allM]; omega, ?_⟩
  exact ends_of h
theorem laid_okRow {row : List Sk} {w : List Wi} {L : List Pt} {ks : List Lk} (h : okBr row w L ks) : okRow (laidM row L) := laidM_ok h.rok h.lay (by have := h.few; omega)
theorem renum_lt {row : List Sk} {L : List Pt} (hr : okRow row) (hL : okLay row.length L) {m : Nat} {ps : List (Pa (Option Nat))} {a b : Int} (hp : Pic a b (topM (row.take m)) ps) : ∀ p ∈ ps, ∀ g, p.v = some g → g < (numE row.length L).length := by
  intro p hpm g e
  have := hp.val p hpm
  have h1 := this.2.2.2 p.lo (Int.le_refl _) this.2.1
  rw [e] at h1
  have h2 := top_lt h1
  rw [(num_len hL).1]
  simp at h2; omega
theorem renum_lt0 {row : List Sk} {L : List Pt} (hr : okRow row) (hL : okLay row.length L) : ∀ p ∈ paintM row, ∀ g, p.v = some g → g < (numE row.length L).length := by
  have := paint_pic hr.ok
  refine renum_lt (m := row.length) (a := 0) (b := LASTI) hr hL ?_
  rw [List.take_length]; exact this
theorem paD_map (ps : List (Pa (Option Nat))) : ps.map paD = (ps.map (Pa.map optD)).map Pa.d := by rw [List.map_map]; rfl
theorem pcD_map (ps : List (Pa (Option Str))) : ps.map pcD = (ps.map (Pa.map colD)).map Pa.d := by rw [List.map_map]; rfl
theorem due_plain {w : List Wi} (hw : okWish w) : ∀ p ∈ (dueM w).map (Pa.map colD), plainN 8 p.v = true := by
  intro p hp
  obtain ⟨q, hq, rfl⟩ := List.mem_map.mp hp
  refine plain_colD (fun s hs => ?_) 8
  exact ((hw.ok q (List.mem_filter.mp hq).1).2.2.2 s hs).fine
theorem colours_plain {row : List Sk} (hr : okRow row) : ∀ p ∈ (coloursM row).map (Pa.map colD), plainN 8 p.v = true := by
  intro p hp
  obtain ⟨q, hq, rfl⟩ := List.mem_map.mp hp
  have h1 := (colours_ok hr.ok).pic.val q hq
  have h2 := h1.2.2.2 q.lo (Int.le_refl _) h1.2.1
  refine plain_colD (fun s hs => ?_) 8
  rw [← h2] at hs
  cases e : topM row q.lo with
  | none => rw [e] at hs; cases hs
  | some g =>
    rw [e] at hs
    cases hs
    have hg := top_lt e
    have : row.getD g sk0 ∈ row := by rw [List.getD_eq_getElem?_getD, List.getElem?_eq_getElem hg]; exact List.getElem_mem hg
    exact (hr.ok _ this).2.2.2.fine
theorem opt_plain (ps : List (Pa (Option Nat))) : ∀ p ∈ ps.map (Pa.map optD), plainN 8 p.v = true := by
  intro p hp
  obtain ⟨q, hq, rfl⟩ := List.mem_map.mp hp
  exact plain_optD q.v 8
theorem unlikeM_opt (ps qs : List (Pa (Option Nat))) : unlikeM (ps.map (Pa.map optD)) (qs.map (Pa.map optD)) = unlikeM ps qs := by
  unfold unlikeM; rw [unlike_map optD (fun a b => optD_inj)]
theorem unlikeM_col (ps qs : List (Pa (Option Str))) : unlikeM (ps.map (Pa.map colD)) (qs.map (Pa.map colD)) = unlikeM ps qs := by
  unfold unlikeM; rw [unlike_map colD (fun a b => colD_inj)]
theorem vc_wrong_now : Vc n_wrong_now ["book", "wish", "after", "elder"] b_wrong_now S_wrong_now := by
  rintro ds μ Q Ex _ ⟨bk, row, w, L, rfl, hb, hk, h⟩
  have hr := hk.rok
  have hL := hk.lay
  have hw := hk.wish
  have hlr := laid_okRow hk
  have hll := (laid_row hr.ok hL).2
  have hfew := hk.few
  have hrl := hr.len
  have hwl := hw.len
  have hp1 := paint_len hr.ok
  have hp2 := paint_len hlr.ok
  simp [b_wrong_now, n_wrong_now, wishD]
  intro a ha
  refine lc_f pcD (fun p => p.v.isSome) pcD ha (fun _ => trivial) w [] (fun p hp ys P hP => ?_) (by simp; omega) ?_
  · obtain ⟨lo, hi, v⟩ := p
    cases v with
    | none =>
      simp [pcD, Pa.d, Pa.map, dTst, colD, DL.isNon] at hP ⊢
      exact hP _
    | some c =>
      simp [pcD, Pa.d, Pa.map, dTst, colD, DL.isNon] at hP ⊢
      exact hP _ fun P' hP' => by simpa using hP'
  · simp
    refine ⟨bk, row, none, rfl, hb, hr, trivial, ?_⟩
    refine ⟨paintM row, numE row.length L, rfl, by omega, renum_lt0 hr hL, ?_⟩
    refine ⟨bookD (laidM row L), laidM row L, none, rfl, isBk_obj _ _, hlr, trivial, ?_⟩
    have e1 : ((paintM row).map fun p => paD (p.map (renum (numE row.length L)))) = (((paintM row).map (Pa.map (renum (numE row.length L)))).map (Pa.map optD)).map Pa.d := by
      rw [List.map_map, List.map_map]; rfl
    have hnow := now_ok hr.ok hL hw
    refine ⟨_, _, ((paintM row).map (Pa.map (renum (numE row.length L)))).map (Pa.map optD), (paintM (laidM row L)).map (Pa.map optD), rfl, by rw [← e1]; rfl, by rw [← paD_map]; rfl, opt_plain _, opt_plain _, by simp; omega, by simp; omega, ?_⟩
    rw [unlikeM_opt]
    refine ⟨w, rfl, hw, ?_⟩
    have hul := unlikeL_len ((paintM row).map (Pa.map (renum (numE row.length L)))) (paintM (laidM row L))
    have hul2 : ((paintM row).map (Pa.map (renum (numE row.length L)))).length * (paintM (laidM row L)).length ≤ 201 * 201 := Nat.mul_le_mul (by simp; omega) (by omega)
    have hjl := joinM_len (unlikeL ((paintM row).map (Pa.map (renum (numE row.length L)))) (paintM (laidM row L)))
    have hfl := firm_len hw
    have hpp := (paint_pic hr.ok).map (renum (numE row.length L))
    have hb0 : ∀ p ∈ (paintM row).map (Pa.map (renum (numE row.length L))), 0 ≤ p.lo ∧ p.hi ≤ LASTP := fun p hp => by
      have := hpp.val p hp
      unfold LASTP LASTI at *
      omega
    have hrw := (joinM_ok (xs := unlikeL ((paintM row).map (Pa.map (renum (numE row.length L)))) (paintM (laidM row L))) fun p hp => (unlikeL_ok hb0 p hp).ok).1
    refine ⟨_, _, unlikeM ((paintM row).map (Pa.map (renum (numE row.length L)))) (paintM (laidM row L)), firmM w, rfl, rfl, rfl, fun p hp => hrw.ok p hp, fun p hp => (firm_in hw p hp).ok, ?_, by omega, ?_, ?_⟩
    · unfold unlikeM; omega
    · exact Nat.le_trans (Nat.mul_le_mul (show _ ≤ 201 * 201 by unfold unlikeM; omega) hfl) (by omega)
    · refine ⟨bookD (laidM row L), laidM row L, none, rfl, isBk_obj _ _, hlr, trivial, ?_⟩
      have hcl : (coloursM (laidM row L)).length ≤ 201 := by
        have := merge_len ((paintM (laidM row L)).map (Pa.map (colAt (laidM row L))))
        unfold coloursM
        simp only [List.length_map] at this
        omega
      have hdl : (dueM w).length ≤ 12 := Nat.le_trans (List.length_filter_le _ _) hwl
      refine ⟨_, _, (dueM w).map (Pa.map colD), (coloursM (laidM row L)).map (Pa.map colD), rfl, ?_, by rw [← pcD_map]; rfl, due_plain hw, colours_plain hlr, by simp; omega, by simp; omega, ?_⟩
      · rw [← pcD_map]; rfl
      · rw [unlikeM_col]
        have h1 := bothM_len (unlikeM ((paintM row).map (Pa.map (renum (numE row.length L)))) (paintM (laidM row L))) (firmM w)
        have h2 : (unlikeM ((paintM row).map (Pa.map (renum (numE row.length L)))) (paintM (laidM row L))).length * (firmM w).length ≤ 201 * 201 * 13 := Nat.mul_le_mul (by unfold unlikeM; omega) hfl
        have h3 := joinM_len (unlikeL (dueM w) (coloursM (laidM row L)))
        have h4 := unlikeL_len (dueM w) (coloursM (laidM row L))
        have h5 : (dueM w).length * (coloursM (laidM row L)).length ≤ 12 * 201 := Nat.mul_le_mul hdl hcl
        have h3' : (unlikeM (dueM w) (coloursM (laidM row L))).length ≤ 12 * 201 := by unfold unlikeM; omega
        simp
        refine ⟨by omega, ?_⟩
        refine ⟨_, bothM (unlikeM ((paintM row).map (Pa.map (renum (numE row.length L)))) (paintM (laidM row L))) (firmM w) ++ unlikeM (dueM w) (coloursM (laidM row L)), rfl, by simp, by rw [List.length_append]; omega, ?_⟩
        exact ends_of h
end K
end
section
set_option Elab.async false
set_option linter.all false
set_option maxRecDepth 100000
set_option maxHeartbeats 2000000
namespace K
open PySem PySem.Spec DL C8 L2 PL PM
theorem enum_zip {α : Type} (f : α → D) (xs : List α) : enumD (xs.map f) = xs.zipIdx.map fun q => .tup [.int (q.2 : Nat), f q.1] := by
  unfold enumD
  rw [List.length_map]
  apply List.ext_getElem
  · simp
  · intro i h1 h2; simp
def brAt (row : List Sk) (L : List Pt) (q : Lk × Nat) : List Br := (seenM row L q.1).map fun p => ⟨(q.2 : Int), p⟩
theorem brokenGo_zip (row : List Sk) (L : List Pt) : ∀ (ks : List Lk) (i : Nat), brokenGo row L i ks = (ks.zipIdx i).flatMap (brAt row L)
  | [], i => rfl
  | k :: ks, i => by rw [brokenGo, brokenGo_zip row L ks (i + 1)]; rfl
theorem now_len {row : List Sk} {w : List Wi} {L : List Pt} {ks : List Lk} (hk : okBr row w L ks) : (nowM row w (laidM row L) (numE row.length L)).length ≤ 600000 := by
  have hr := hk.rok
  have hL := hk.lay
  have hw := hk.wish
  have hlr := laid_okRow hk
  have hll := (laid_row hr.ok hL).2
  have hfew := hk.few
  have hp1 := paint_len hr.ok
  have hp2 := paint_len hlr.ok
  have hul := unlikeL_len ((paintM row).map (Pa.map (renum (numE row.length L)))) (paintM (laidM row L))
  have hul2 : ((paintM row).map (Pa.map (renum (numE row.length L)))).length * (paintM (laidM row L)).length ≤ 201 * 201 := Nat.mul_le_mul (by simp; omega) (by omega)
  have hjl := joinM_len (unlikeL ((paintM row).map (Pa.map (renum (numE row.length L)))) (paintM (laidM row L)))
  have hfl := firm_len hw
  have hcl : (coloursM (laidM row L)).length ≤ 201 := by
    have := merge_len ((paintM (laidM row L)).map (Pa.map (colAt (laidM row L))))
    unfold coloursM
    simp only [List.length_map] at this
    omega
  have hdl : (dueM w).length ≤ 12 := Nat.le_trans (List.length_filter_le _ _) hw.len
  have h1 := bothM_len (unlikeM ((paintM row).map (Pa.map (renum (numE row.length L)))) (paintM (laidM row L))) (firmM w)
  have h2 : (unlikeM ((paintM row).map (Pa.map (renum (numE row.length L)))) (paintM (laidM row L))).length * (firmM w).length ≤ 201 * 201 * 13 := Nat.mul_le_mul (by unfold unlikeM; omega) hfl
  have h3 := joinM_len (unlikeL (dueM w) (coloursM (laidM row L)))
  have h4 := unlikeL_len (dueM w) (coloursM (laidM row L))
  have h5 : (dueM w).length * (coloursM (laidM row L)).length ≤ 12 * 201 := Nat.mul_le_mul hdl hcl
  have h3' : (unlikeM (dueM w) (coloursM (laidM row L))).length ≤ 12 * 201 := by unfold unlikeM; omega
  have h6 := joinM_len (bothM (unlikeM ((paintM row).map (Pa.map (renum (numE row.length L)))) (paintM (laidM row L))) (firmM w) ++ unlikeM (dueM w) (coloursM (laidM row L)))
  rw [List.length_append] at h6
  show (joinM _).length ≤ _
  omega
theorem seen_len {row : List Sk} {w : List Wi} {L : List Pt} {ks : List Lk} (hk : okBr row w L ks) (k : Lk) : (seenM row L k).length ≤ 40401 := by
  have hr := hk.rok
  have hlr := laid_okRow hk
  have hll := (laid_row hr.ok hk.lay).2
  have hfew := hk.few
  have h1 := joinM_len (unlikeL ((shownM row k).map (Pa.map (renum (numE row.length L)))) (shownM (laidM row L) (movedM k L)))
  have h2 := unlikeL_len ((shownM row k).map (Pa.map (renum (numE row.length L)))) (shownM (laidM row L) (movedM k L))
  have h3 := shown_len hr k
  have h4 := shown_len hlr (movedM k L)
  have h5 : ((shownM row k).map (Pa.map (renum (numE row.length L)))).length * (shownM (laidM row L) (movedM k L)).length ≤ 201 * 201 := Nat.mul_le_mul (by simp; omega) (by omega)
  show (joinM _).length ≤ _
  omega
theorem vc_broken : Vc n_broken ["book", "wish", "laying", "looks"] b_broken S_broken := by
  rintro ds μ Q Ex _ ⟨bk, row, w, L, ks, rfl, hb, hk, h⟩
  have hr := hk.rok
  have hL := hk.lay
  have hw := hk.wish
  have hlr := laid_okRow hk
  have hll := (laid_row hr.ok hL).2
  have hfew := hk.few
  have hrl := hr.len
  have hnl := now_len hk
  simp [b_broken, n_broken]
  refine ⟨bk, row, w, L, ks, rfl, hb, hk, ?_⟩
  refine ⟨bk, row, L, rfl, hb, hr, by omega, hL, ?_⟩
  refine ⟨bk, row, L, rfl, hb, by omega, hL, ?_⟩
  simp
  refine ⟨bk, row, w, L, rfl, hb, ⟨hr, hfew, hL, hw, ⟨by simp, by simp⟩⟩, ?_⟩
  simp
  intro a ha
  have hbm : ∀ m, isBk (μ.set a m) bk row := fun m => isBk_set hb ha
  refine lc_mm segD (fun p => (⟨-1, p⟩ : Br).d) ha (fun _ => trivial) _ (fun p hp ys P hP => ?_) (by simp; omega) ?_
  · simp [segD]
    simpa [Br.d] using hP
  · simp [looksD]
    rw [enum_zip]
    have hzl : ks.zipIdx.length = ks.length := by simp
    have hkl := hk.looks.len
    refine for_map (fun pre env μ' => ∃ s1 s2 s3, env = [some bk, some (wishD w), some (layD L), some (looksD ks), some (bookD (laidM row L)), some (.lst ((numE row.length L).map fun i => .int (i : Nat))), some (.ref a), s1, s2, s3, none] ∧ μ' = μ.set a (.lst (((nowM row w (laidM row L) (numE row.length L)).map (fun p => (⟨-1, p⟩ : Br)) ++ pre.flatMap (brAt row L)).map Br.d))) ⟨none, none, none, rfl, by simp [List.map_map, Function.comp_def]⟩ ?_ ?_
    · rintro pre q post hp env μ' ⟨s1, s2, s3, rfl, rfl⟩
      refine ⟨trivial, fun N hN => ?_⟩
      have hqm : q.1 ∈ ks := by
        have : q ∈ ks.zipIdx := by rw [hp]; simp
        exact List.fst_mem_of_mem_zipIdx this
      have hpl : pre.length < ks.length := by rw [← hzl, hp]; simp
      have hfl : (pre.flatMap (brAt row L)).length ≤ pre.length * 40401 := by
        clear hN hp hpl
        induction pre with
        | nil => simp
        | cons q pre ih =>
          rw [List.flatMap_cons, List.length_append, List.length_cons, Nat.add_mul, Nat.one_mul]
          have := seen_len hk q.1
          simp only [brAt, List.length_map] at *
          omega
      have hko := hk.looks.ok q.1 hqm
      have hsl := seen_len hk q.1
      have hN' := fun s1 s2 s3 => hN _ _ ⟨s1, s2, s3, rfl, rfl⟩
      simp only [List.flatMap_append, ← List.append_assoc] at hN'
      have hWl : ((nowM row w (laidM row L) (numE row.length L)).map (fun p => (⟨-1, p⟩ : Br)) ++ pre.flatMap (brAt row L)).length ≤ 2000000 := by rw [List.length_append, List.length_map]; omega
      generalize (nowM row w (laidM row L) (numE row.length L)).map (fun p => (⟨-1, p⟩ : Br)) ++ pre.flatMap (brAt row L) = W at *
      have hb' : ∀ m, isBk (μ.set a m) bk row := hbm
      simp
      refine ⟨q.1, L, rfl, by omega, ?_⟩
      refine ⟨bookD (laidM row L), laidM row L, movedM q.1 L, rfl, isBk_obj _ _, hlr, by rw [hll]; exact moved_ok hL hko, ?_⟩
      simp
      refine ⟨bk, row, q.1, rfl, hb' _, hr, hko, ?_⟩
      have h3 := shown_len hr q.1
      have h4 := shown_len hlr (movedM q.1 L)
      refine ⟨shownM row q.1, numE row.length L, rfl, by omega, renum_lt hr hL (shown_pic hr.ok hko), ?_⟩
      have e1 : ((shownM row q.1).map fun p => paD (p.map (renum (numE row.length L)))) = (((shownM row q.1).map (Pa.map (renum (numE row.length L)))).map (Pa.map optD)).map Pa.d := by
        rw [List.map_map, List.map_map]; rfl
      refine ⟨_, _, ((shownM row q.1).map (Pa.map (renum (numE row.length L)))).map (Pa.map optD), (shownM (laidM row L) (movedM q.1 L)).map (Pa.map optD), rfl, by rw [← e1]; rfl, by rw [← paD_map]; rfl, opt_plain _, opt_plain _, by simp; omega, by simp; omega, ?_⟩
      rw [unlikeM_opt]
      simp
      intro c hc
      have hac : a ≠ c := fun z => by subst z; simp at hc
      refine lc_m segD (fun p => (⟨(q.2 : Int), p⟩ : Br).d) hc (fun _ => trivial) _ (fun p hp ys P hP => ?_) (by show (seenM row L q.1).length ≤ _; rw [sizeLine_val]; omega) ?_
      · simp [segD]
        simpa [Br.d] using hP
      · simp
        refine ⟨by show _ + (seenM row L q.1).length ≤ _; omega, ?_⟩
        have := hN' (some (.int (q.2 : Nat))) (some q.1.d) (some (.tup ((shownM (laidM row L) (movedM q.1 L)).map paD)))
        simp only [List.flatMap_cons, List.flatMap_nil, List.append_nil, List.map_append, brAt, List.map_map] at this
        exact this
    · rintro env μ' ⟨s1, s2, s3, rfl, rfl⟩
      refine ⟨trivial, ?_⟩
      simp
      refine ⟨μ, Mem.Sub.set ha, ha, ends_of ?_⟩
      have e : brokenM row w L ks = (nowM row w (laidM row L) (numE row.length L)).map (fun p => (⟨-1, p⟩ : Br)) ++ ks.zipIdx.flatMap (brAt row L) := by
        rw [brokenM, brokenGo_zip]
      rw [e] at h
      simpa [List.map_append, Function.comp_def] using h
end K
end
section
set_option Elab.async false
set_option linter.all false
set_option maxRecDepth 100000
set_option maxHeartbeats 2000000
namespace K
open PySem PySem.Spec DL C8 L2 PL PM
theorem vc_need_prices : Vc n_need_prices ["prices"] b_need_prices S_need_prices := by
  rintro ds μ Q Ex _ ⟨kvs, rfl, h1, h⟩
  simp [b_need_prices, n_need_prices]
  refine ⟨kvs, rfl, h1, ?_⟩
  simp
  exact ends_of h
theorem vc_are_prices : Vc n_are_prices ["thing"] b_are_prices S_are_prices := by
  rintro ds μ Q Ex _ ⟨kvs, rfl, h0, h⟩
  simp [b_are_prices, n_are_prices, PL.prD]
  intro a ha
  refine lc_map (f := fun _ => .bl true) ha (fun _ => trivial) _ [] (fun y hy ys P hP => ?_) ?_ ?_
  · simp only [List.map_map, List.mem_map, Function.comp] at hy
    obtain ⟨q, hq, rfl⟩ := hy
    obtain ⟨h1, h2, h3⟩ := h0.2 q hq
    simp [pairD, keyD]
    refine ⟨q.1, rfl, h1, ?_⟩
    simp [Pk.d]
    refine ⟨q.2, 1, rfl, ?_⟩
    simp [h2, h3]
    exact hP
  · have := h0.1; simp; omega
  · exact all_true (fun _ _ => rfl) (ends_of h)
theorem getK_pr {kvs : List (Str × Int)} {c : Str} (h : c ∈ kvs.map (·.1)) : getK (kvs.map fun q => ((.inr q.1 : Key), D.int q.2)) (.inr c) = some (.int (price kvs c)) := by
  induction kvs with
  | nil => simp at h
  | cons q kvs ih =>
    by_cases e : q.1 = c
    · simp [getK, price, e]
    · have h' : c ∈ kvs.map (·.1) := by
        simp only [List.map_cons, List.mem_cons] at h
        rcases h with h | h
        · exact absurd h.symm e
        · exact h
      have := ih h'
      simp only [getK, price, List.map_cons, List.find?_cons] at this ⊢
      have e2 : ¬ (Sum.inr q.1 : Key) = .inr c := fun z => e (by cases z; rfl)
      simp only [e, e2, decide_false]
      exact this
theorem vc_need_colours : Vc n_need_colours ["prices", "some"] b_need_colours S_need_colours := by
  rintro ds μ Q Ex _ ⟨kvs, cs, rfl, h0, h1, h⟩
  simp [b_need_colours, n_need_colours, PL.prD]
  intro a ha
  refine lc_map (f := fun _ => .bl true) ha (fun _ => trivial) _ [] (fun y hy ys P hP => ?_) ?_ ?_
  · obtain ⟨k, hk, rfl⟩ := List.mem_map.mp hy
    simp [DL.keyOf]
    rw [getK_pr (h1 k hk)]
    exact hP
  · simp; omega
  · refine all_true (fun _ _ => rfl) ?_
    simp
    exact ends_of h
theorem vc_price_of : Vc n_price_of ["book", "laying", "prices"] b_price_of S_price_of := by
  rintro ds μ Q Ex _ ⟨bk, row, L, kvs, rfl, hb, h0, h1, h2, h3, h⟩
  have hlen := h1.len
  simp [b_price_of, n_price_of]
  refine ⟨kvs, rfl, h2, ?_⟩
  refine ⟨bk, row, L, rfl, hb, h0, h1, ?_⟩
  simp [layD]
  intro a ha
  refine lc_map (f := fun d => match d with | .tup [_, _, _, c] => c | _ => .non) ha (fun _ => trivial) _ [] (fun y hy ys P hP => ?_) ?_ ?_
  · obtain ⟨k, hk, rfl⟩ := List.mem_map.mp hy
    simp [Pt.d]
    exact hP
  · simp; omega
  · refine ⟨kvs, L.map fun p => p.s.col, by simp [List.map_map]; exact fun _ _ => rfl, by simp; omega, by simpa using h3, ?_⟩
    intro b hb
    refine lc_map (f := fun d => match d with | .tup [_, _, _, .str c] => .int (price kvs c) | _ => .non) hb (fun _ => trivial) _ [] (fun y hy ys P hP => ?_) ?_ ?_
    · obtain ⟨k, hk, rfl⟩ := List.mem_map.mp hy
      simp [Pt.d, PL.prD, DL.keyOf]
      exact ⟨_, getK_pr (h3 k hk), hP⟩
    · simp; omega
    · rw [s_oSum]
      refine ⟨L.map fun p => price kvs p.s.col, by simp [List.map_map]; exact fun _ _ => rfl, ends_of h⟩

theorem vc_laid : Vc n_laid ["book", "laying"] b_laid S_laid := by
  rintro ds μ Q Ex _ ⟨bk, row, L, rfl, hb, h0, h1, h2, h⟩
  simp [b_laid, n_laid]
  refine ⟨bk, row, L, rfl, hb, by omega, h2, ?_⟩
  exact ⟨bk, row, L, rfl, hb, h0, h1, h2, ends_of h⟩

def leafN : Option Nat → Leaf
  | none => .none
  | some n => .num (n : Nat)
theorem leafN_inj {a b : Option Nat} : leafN a = leafN b ↔ a = b := by
  cases a <;> cases b <;> simp [leafN] <;> omega
theorem leafN_of (v : Option Nat) : leafOf (optD v) = some (leafN v) := by cases v <;> rfl
def ssD (ss : List (Option Nat × Seg)) : List (Leaf × D) := ss.map fun q => (leafN q.1, segD q.2)
theorem getQ_ss (ss : List (Option Nat × Seg)) (v : Option Nat) : getQ (ssD ss) (leafN v) = (getS ss v).map segD := by
  unfold getQ getS ssD
  induction ss with
  | nil => rfl
  | cons q ss ih =>
    by_cases e : q.1 = v
    · simp [List.find?_cons, e]
    · have e' : ¬ leafN q.1 = leafN v := fun z => e (leafN_inj.mp z)
      simp only [List.map_cons, List.find?_cons, decide_eq_false e, decide_eq_false e']
      exact ih
theorem putQ_ss (ss : List (Option Nat × Seg)) (v : Option Nat) (g : Seg) : putQ (ssD ss) (leafN v) (segD g) = ssD (putS ss v g) := by
  have e : (getQ (ssD ss) (leafN v)).isSome = (getS ss v).isSome := by rw [getQ_ss, Option.isSome_map]
  unfold putQ putS
  rw [e]
  split
  · unfold ssD
    rw [List.map_map, List.map_map]
    refine List.map_congr_left fun q _ => ?_
    by_cases c : q.1 = v
    · simp [Function.comp, c]
    · have c' : ¬ leafN q.1 = leafN v := fun z => c (leafN_inj.mp z)
      simp [Function.comp, c, c']
  · unfold ssD; simp
theorem putS_len (ss : List (Option Nat × Seg)) (v : Option Nat) (g : Seg) : (putS ss v g).length ≤ ss.length + 1 := by
  unfold putS; split <;> simp
theorem spans_len (ps : List (Pa (Option Nat))) : (spansM ps).length ≤ ps.length := by
  have key : ∀ (ps : List (Pa (Option Nat))) (ss : List (Option Nat × Seg)), (ps.foldl spanStep ss).length ≤ ss.length + ps.length := by
    intro ps
    induction ps with
    | nil => intro ss; simp
    | cons p ps ih =>
      intro ss
      rw [List.foldl_cons]
      have h1 := ih (spanStep ss p)
      have h2 : (spanStep ss p).length ≤ ss.length + 1 := putS_len _ _ _
      simp only [List.length_cons]
      omega
  have := key ps []
  simpa [spansM] using this
theorem zipD_cut (E : List Nat) (L : List Pt) : zipD (E.map fun i => .int (i : Nat)) (L.map Pt.d) = (E.zip L).map fun q => .tup [.int (q.1 : Nat), q.2.d] := by
  unfold zipD
  rw [List.zipWith_map, List.zip, List.map_zipWith]
def cutF (ss : List (Option Nat × Seg)) (q : Nat × Pt) : Option Pt := (getS ss (some q.1)).map fun g => ⟨q.2.slot, ⟨g.1, g.2, q.2.s.col⟩⟩
theorem vc_cut_back : Vc n_cut_back ["book", "laying"] b_cut_back S_cut_back := by
  rintro ds μ Q Ex _ ⟨bk, row, L, rfl, hb, hr, hl, hL, h⟩
  have hrl := hr.len
  have hok := laidM_ok hr hL (by omega)
  have hll := (laid_row hr.ok hL).2
  have hpl := paint_len hok.ok
  have hnl := numL_len hL
  simp [b_cut_back, n_cut_back]
  intro a ha
  refine ⟨bk, row, L, rfl, isBk_set hb ha, hr, by omega, hL, ?_⟩
  refine ⟨bookD (laidM row L), laidM row L, none, rfl, isBk_obj _ _, hok, trivial, ?_⟩
  simp [takeM]
  refine for_map (fun pre env μ' => ∃ s3 s4 s5 s6 s7 s8 s9, env = [some bk, some (layD L), some (.ref a), s3, s4, s5, s6, s7, s8, s9] ∧ μ' = μ.set a (.ldc (ssD (spansM pre)))) ⟨none, none, none, none, none, none, none, rfl, rfl⟩ ?_ ?_
  · rintro pre p post hp env μ' ⟨s3, s4, s5, s6, s7, s8, s9, rfl, rfl⟩
    refine ⟨trivial, fun N hN => ?_⟩
    have hm : (μ.set a (.ldc (ssD (spansM pre)))) a = some (.ldc (ssD (spansM pre))) := Mem.set_same ..
    have hz : (ssD (spansM pre)).length < sizeLine := by
      have h1 := spans_len pre
      have h2 : pre.length < (paintM (laidM row L)).length := by rw [hp]; simp
      unfold ssD
      rw [List.length_map, sizeLine_val]
      omega
    have hN' := fun s3 s4 s5 s6 s7 s8 s9 => hN _ _ ⟨s3, s4, s5, s6, s7, s8, s9, rfl, rfl⟩
    have e : spansM (pre ++ [p]) = spanStep (spansM pre) p := by simp [spansM]
    rw [e, spanStep] at hN'
    generalize hss : spansM pre = ss at *
    simp [paD, Pa.map, Pa.d]
    refine ⟨isTM_ldc hm, ?_⟩
    rw [tget_ldc hm, leafN_of]
    simp [getQ_ss]
    cases q : getS ss p.v with
    | none =>
      rw [q] at hN'
      simp
      rw [tput_ldc hm _ _ hz, leafN_of]
      simp
      have := hN' s3 (some (.int p.lo)) (some (.int p.hi)) (some (optD p.v)) s7 (some (.int p.lo)) (some (.int p.hi))
      simp only [Option.getD_none] at this
      rw [← putQ_ss] at this
      refine ⟨_, _, ⟨rfl, rfl⟩, ?_⟩
      rw [Mem.set_set]
      simpa [segD] using this
    | some g =>
      rw [q] at hN'
      simp [segD]
      rw [tput_ldc hm _ _ hz, leafN_of]
      simp
      have := hN' s3 (some (.int p.lo)) (some (.int p.hi)) (some (optD p.v)) s7 (some (.int g.1)) (some (.int g.2))
      simp only [Option.getD_some] at this
      rw [← putQ_ss] at this
      refine ⟨_, _, ⟨rfl, rfl⟩, ?_⟩
      rw [Mem.set_set]
      simpa [segD] using this
  · rintro env μ' ⟨s3, s4, s5, s6, s7, s8, s9, rfl, rfl⟩
    refine ⟨trivial, ?_⟩
    simp
    intro b hb'
    have hba : b ≠ a := fun z => by subst z; simp at hb'
    have hmb : μ b = none := by rw [Mem.set_ne hba] at hb'; exact hb'
    refine ⟨bk, row, L, rfl, isBk_set (isBk_set hb ha) hb', by omega, hL, ?_⟩
    simp [layD]
    rw [zipD_cut]
    refine ⟨by omega, ?_⟩
    refine for_map (fun pre env μ' => ∃ s4 s5 s6 s7 s8 s9, env = [some bk, some (layD L), some (.ref a), some (.ref b), s4, s5, s6, s7, s8, s9] ∧ μ' = (μ.set a (.ldc (ssD (spansM (paintM (laidM row L)))))).set b (.lst ((pre.filterMap (cutF (spansM (paintM (laidM row L))))).map Pt.d))) ⟨s4, s5, s6, s7, s8, s9, rfl, rfl⟩ ?_ ?_
    · rintro pre q post hp env μ' ⟨s4, s5, s6, s7, s8, s9, rfl, rfl⟩
      refine ⟨trivial, fun N hN => ?_⟩
      generalize spansM (paintM (laidM row L)) = ss at *
      have hm : ((μ.set a (.ldc (ssD ss))).set b (.lst ((pre.filterMap (cutF ss)).map Pt.d))) a = some (.ldc (ssD ss)) := by
        rw [Mem.set_ne (Ne.symm hba)]; exact Mem.set_same ..
      have hN' := fun s4 s5 s6 s7 s8 s9 => hN _ _ ⟨s4, s5, s6, s7, s8, s9, rfl, rfl⟩
      rw [List.filterMap_append] at hN'
      have hpl : pre.length < L.length := by
        have : pre.length < ((numL row.length L).zip L).length := by rw [hp]; simp
        rw [List.length_zip] at this; omega
      have hfl : (pre.filterMap (cutF ss)).length ≤ pre.length := List.length_filterMap_le _ _
      generalize pre.filterMap (cutF ss) = W at *
      have hlf : leafOf (.int (q.1 : Nat)) = some (leafN (some q.1)) := rfl
      simp
      rw [tget_ldc hm, hlf]
      simp [getQ_ss]
      cases e : getS ss (some q.1) with
      | none =>
        have ef : cutF ss q = none := by simp [cutF, e]
        simp
        have := hN' s4 s5 (some q.2.d) (some (.int (q.1 : Nat))) s8 s9
        simpa [List.filterMap_cons, ef] using this
      | some g =>
        have ef : cutF ss q = some ⟨q.2.slot, ⟨g.1, g.2, q.2.s.col⟩⟩ := by simp [cutF, e]
        simp [Pt.d]
        rw [tget_ldc hm, hlf]
        simp [getQ_ss, e, segD]
        refine ⟨by omega, ?_⟩
        have := hN' s4 s5 (some q.2.d) (some (.int (q.1 : Nat))) s8 s9
        simpa [List.filterMap_cons, ef, Pt.d] using this
    · rintro env μ' ⟨s4, s5, s6, s7, s8, s9, rfl, rfl⟩
      refine ⟨trivial, ?_⟩
      simp
      refine ⟨μ, (Mem.Sub.set ha).trans (Mem.Sub.set hb'), h⟩
theorem vc_is_right : Vc n_is_right ["book", "wish", "laying", "looks"] b_is_right S_is_right := by
  rintro ds μ Q Ex _ ⟨bk, row, w, L, ks, rfl, hb, hk, h⟩
  simp [b_is_right, n_is_right]
  refine ⟨bk, row, w, L, ks, rfl, hb, hk, ?_⟩
  simp
  exact ⟨by simp [plainN, Br.d], ends_of h⟩
end K
end
section
set_option Elab.async false
set_option linter.all false
set_option maxRecDepth 100000
set_option maxHeartbeats 2000000
namespace PL
open PySem PySem.Spec DL PM
def Pen (a : Addr) (n : Nat) (μ : Mem) : Prop := ∃ (cells : List Int) (c r : Int), μ a = some (.lst [.lst (cells.map D.int), .int c, .int r]) ∧ cells.length ≤ 1000 ∧ 0 ≤ c ∧ c ≤ (n : Int) ∧ 0 ≤ r
def Fr (a : Addr) (μ μ' : Mem) : Prop := ∀ b, b ≠ a → μ' b = μ b
def Drw (k : Nat) (a : Addr) (μ : Mem) (Q : QD) (P : D → Prop) : Prop := ∃ n, Pen a n μ ∧ n + k ≤ 100000 ∧ ∀ d μ', P d → Pen a (n + k) μ' → Fr a μ μ' → Q d μ'
structure okLot (lot : List Int) : Prop where
  len : lot.length ≤ 20
  up : lot.Pairwise (· < ·)
  some : 0 < lot.length
  ok : ∀ x ∈ lot, 0 ≤ x ∧ x ≤ 1000000000
def hueL : List Str := ["red", "blue", "z", "abcdefgh"]
theorem hue_col {c : Str} (h : c ∈ hueL) : colOk c := by
  simp only [hueL, List.mem_cons, List.not_mem_nil, or_false] at h
  rcases h with rfl | rfl | rfl | rfl <;> exact ⟨by decide +kernel, by decide +kernel, by decide +kernel, by decide +kernel⟩
structure okHues (hs : List Str) : Prop where
  len : hs.length ≤ 4
  some : 2 ≤ hs.length
  ok : ∀ c ∈ hs, c ∈ hueL
  nd : hs.Nodup
abbrev S__law_pen : DSpec := fun ds μ Q _ => ∃ cells : List Int, ds = [.rol (cells.map D.int)] ∧ cells.length ≤ 1000 ∧ ∀ a μ', μ a = none → Pen a 0 μ' → Q (.ref a) μ'
abbrev S__law_well : DSpec := fun ds μ Q _ => ∃ a n, ds = [.ref a] ∧ Pen a n μ ∧ n + 1 ≤ 100000 ∧ ∀ i μ', 0 ≤ i → Pen a (n + 1) μ' → Fr a μ μ' → Q (.int i) μ'
abbrev S__law_draw : DSpec := fun ds μ Q _ => ∃ a b, ds = [.ref a, .int b] ∧ 0 < b ∧ b ≤ 1000000001 ∧ Drw 1 a μ Q fun d => ∃ i, d = .int i ∧ 0 ≤ i ∧ i < b
def lotD (lot : List Int) : D := .lst (lot.map D.int)
def huesD (hs : List Str) : D := .lst (hs.map D.str)
abbrev S__law_lot : DSpec := fun ds μ Q _ => ∃ a, ds = [.ref a] ∧ Drw 20 a μ Q fun d => ∃ lot, d = lotD lot ∧ okLot lot
abbrev S__law_hues : DSpec := fun ds μ Q _ => ∃ a, ds = [.ref a] ∧ Drw 20 a μ Q fun d => ∃ hs, d = huesD hs ∧ okHues hs
abbrev S__law_stroke : DSpec := fun ds μ Q _ => ∃ a lot hs, ds = [.ref a, lotD lot, huesD hs] ∧ okLot lot ∧ okHues hs ∧ Drw 3 a μ Q fun d => ∃ s : Sk, d = s.d ∧ s.ok ∧ s.col ∈ hs
abbrev S__law_strokes : DSpec := fun ds μ Q _ => ∃ a lot hs, ∃ l : Nat, ds = [.ref a, lotD lot, huesD hs, .int l] ∧ okLot lot ∧ okHues hs ∧ l ≤ 10 ∧ Drw 50 a μ Q fun d => ∃ row : List Sk, d = .lst (row.map Sk.d) ∧ okRow row ∧ row.length ≤ l
abbrev S__law_laying : DSpec := fun ds μ Q _ => ∃ a lot hs, ∃ n l : Nat, ds = [.ref a, lotD lot, huesD hs, .int n, .int l] ∧ okLot lot ∧ okHues hs ∧ n ≤ 1000 ∧ l ≤ 10 ∧ Drw 60 a μ Q fun d => ∃ L : List Pt, d = layD L ∧ okLay n L ∧ L.length ≤ l ∧ ∀ p ∈ L, p.s.col ∈ hs
abbrev S__law_looks : DSpec := fun ds μ Q _ => ∃ a lot, ∃ n l : Nat, ds = [.ref a, lotD lot, .int n, .int l] ∧ okLot lot ∧ n ≤ 1000 ∧ l ≤ 10 ∧ Drw 60 a μ Q fun d => ∃ ks : List Lk, d = looksD ks ∧ okLooks n ks ∧ ks.length ≤ l
end PL
namespace K
open PySem PySem.Spec DL C8 L2 PL PM
noncomputable section
def n__law_pen : List Str := ["script"]
noncomputable def b__law_pen : DSs := (.cons (.ret (.std oLstM (.cons (.std oList (.cons (.std (oSl false true) (.cons (.var 0) (.cons (.con (.int 60)) .nil))) .nil)) (.cons (.con (.int 0)) (.cons (.con (.int 0)) .nil)))))
  .nil)
def n__law_well : List Str := ["pen", "nth", "cell", "low", "mid", "top"]
noncomputable def b__law_well : DSs := (.cons (.asg (.name 1) (.std oIx (.cons (.var 0) (.cons (.con (.int 1)) .nil))))
  (.cons (.std stSetIx (.cons (.std oAdd (.cons (.var 1) (.cons (.con (.int 1)) .nil))) (.cons (.var 0) (.cons (.con (.int 1)) .nil))))
  (.cons (.asg (.name 2) (.std oAdd (.cons (.std oMulI (.cons (.var 1) (.cons (.con (.int 977)) .nil))) (.cons (.con (.int 7)) .nil))))
  (.cons (.if_ (.std oNe (.cons (.std oIx (.cons (.var 0) (.cons (.con (.int 0)) .nil))) (.cons (.std oLst .nil) .nil)))
  (.cons (.asg (.name 2) (.std oIx (.cons (.std oIx (.cons (.var 0) (.cons (.con (.int 0)) .nil))) (.cons (.std oMod (.cons (.var 1) (.cons (.std oLen (.cons (.std oIx (.cons (.var 0) (.cons (.con (.int 0)) .nil))) .nil)) .nil))) .nil))))
  .nil)
  .nil)
  (.cons (.if_ (.bop true (.cons (.std oLt (.cons (.var 1) (.cons (.std oLen (.cons (.std oIx (.cons (.var 0) (.cons (.con (.int 0)) .nil))) .nil)) .nil))) (.cons (.std oGe (.cons (.var 2) (.cons (.std oPow (.cons (.con (.int 10)) (.cons (.con (.int 18)) .nil))) .nil))) .nil)))
  (.cons (.ret (.var 2))
  .nil)
  .nil)
  (.cons (.asg (.name 3) (.std oMod (.cons (.std oAdd (.cons (.std oAdd (.cons (.std oMod (.cons (.var 2) (.cons (.con (.int 2147483549)) .nil))) (.cons (.std oMulI (.cons (.var 1) (.cons (.con (.int 52391)) .nil))) .nil))) (.cons (.con (.int 29)) .nil))) (.cons (.con (.int 2147483549)) .nil))))
  (.cons (.asg (.name 4) (.std oMod (.cons (.std oAdd (.cons (.std oAdd (.cons (.std oMulI (.cons (.var 3) (.cons (.var 3) .nil))) (.cons (.std oMulI (.cons (.var 1) (.cons (.con (.int 30011)) .nil))) .nil))) (.cons (.con (.int 7)) .nil))) (.cons (.con (.int 2147483543)) .nil))))
  (.cons (.asg (.name 5) (.std oMod (.cons (.std oAdd (.cons (.std oAdd (.cons (.std oMulI (.cons (.var 4) (.cons (.var 4) .nil))) (.cons (.var 3) .nil))) (.cons (.std oMulI (.cons (.var 1) (.cons (.var 1) .nil))) .nil))) (.cons (.con (.int 2147483497)) .nil))))
  (.cons (.ret (.std oAdd (.cons (.std oMulI (.cons (.std oAdd (.cons (.std oMulI (.cons (.var 5) (.cons (.con (.int 2147483549)) .nil))) (.cons (.var 4) .nil))) (.cons (.con (.int 2147483543)) .nil))) (.cons (.var 3) .nil))))
  .nil)))))))))
def n__law_draw : List Str := ["pen", "below", "digit"]
noncomputable def b__law_draw : DSs := (.cons (.if_ (.std oLt (.cons (.std oIx (.cons (.var 0) (.cons (.con (.int 2)) .nil))) (.cons (.var 1) .nil)))
  (.cons (.std stSetIx (.cons (.app (oFn "_law_well" 1 [] S__law_well) (.cons (.var 0) .nil)) (.cons (.var 0) (.cons (.con (.int 2)) .nil))))
  .nil)
  .nil)
  (.cons (.asg (.name 2) (.std oMod (.cons (.std oIx (.cons (.var 0) (.cons (.con (.int 2)) .nil))) (.cons (.var 1) .nil))))
  (.cons (.std stSetIx (.cons (.std oFdiv (.cons (.std oIx (.cons (.var 0) (.cons (.con (.int 2)) .nil))) (.cons (.var 1) .nil))) (.cons (.var 0) (.cons (.con (.int 2)) .nil))))
  (.cons (.ret (.var 2))
  .nil))))
def n__law_hues : List Str := ["pen", "found"]
noncomputable def b__law_hues : DSs := (.cons (.asg (.name 1) (.std oLstM (.cons (.con (.str "red")) (.cons (.con (.str "blue")) (.cons (.con (.str "z")) (.cons (.con (.str "abcdefgh")) .nil))))))
  (.cons (.expr (.std oPop (.cons (.var 1) (.cons (.app (oFn "_law_draw" 2 [] S__law_draw) (.cons (.var 0) (.cons (.con (.int 4)) .nil))) .nil))))
  (.cons (.ret (.std (oSl false true) (.cons (.var 1) (.cons (.std oAdd (.cons (.con (.int 2)) (.cons (.app (oFn "_law_draw" 2 [] S__law_draw) (.cons (.var 0) (.cons (.con (.int 2)) .nil))) .nil))) .nil))))
  .nil)))
def n__law_looks : List Str := ["pen", "lot", "size", "limit", "found", "turn", "ends"]
noncomputable def b__law_looks : DSs := (.cons (.asg (.name 4) (.std oLstM .nil))
  (.cons (.for_ iRng1 (.cons (.app (oFn "_law_draw" 2 [] S__law_draw) (.cons (.var 0) (.cons (.std oAdd (.cons (.var 3) (.cons (.con (.int 1)) .nil))) .nil))) .nil) (.name 5)
  (.cons (.asg (.name 6) (.std oSortI (.cons (.std oLst (.cons (.std oIx (.cons (.var 1) (.cons (.app (oFn "_law_draw" 2 [] S__law_draw) (.cons (.var 0) (.cons (.std oLen (.cons (.var 1) .nil)) .nil))) .nil))) (.cons (.std oIx (.cons (.var 1) (.cons (.app (oFn "_law_draw" 2 [] S__law_draw) (.cons (.var 0) (.cons (.std oLen (.cons (.var 1) .nil)) .nil))) .nil))) .nil))) .nil)))
  (.cons (.expr (.std oAppend (.cons (.var 4) (.cons (.std oTup (.cons (.app (oFn "_law_draw" 2 [] S__law_draw) (.cons (.var 0) (.cons (.std oAdd (.cons (.var 2) (.cons (.con (.int 1)) .nil))) .nil))) (.cons (.std oIx (.cons (.var 6) (.cons (.con (.int 0)) .nil))) (.cons (.std oIx (.cons (.var 6) (.cons (.con (.int 1)) .nil))) .nil)))) .nil))))
  .nil)))
  (.cons (.ret (.std oTuple (.cons (.var 4) .nil)))
  .nil)))
def n__law_lot : List Str := ["pen", "base", "found", "turn"]
noncomputable def b__law_lot : DSs := (.cons (.asg (.name 1) (.std oIx (.cons (.std oLst (.cons (.con (.int 0)) (.cons (.con (.int 0)) (.cons (.con (.int 7)) (.cons (.std oSub (.cons (.std oPow (.cons (.con (.int 10)) (.cons (.con (.int 9)) .nil))) (.cons (.con (.int 14)) .nil))) .nil))))) (.cons (.app (oFn "_law_draw" 2 [] S__law_draw) (.cons (.var 0) (.cons (.con (.int 4)) .nil))) .nil))))
  (.cons (.asg (.name 2) (.lc true iRng1 (.cons (.con (.int 5)) .nil) (.name 3) .nil (.std oAdd (.cons (.var 1) (.cons (.app (oFn "_law_draw" 2 [] S__law_draw) (.cons (.var 0) (.cons (.con (.int 15)) .nil))) .nil))) [("turn", 3)]))
  (.cons (.if_ (.std oEq (.cons (.app (oFn "_law_draw" 2 [] S__law_draw) (.cons (.var 0) (.cons (.con (.int 3)) .nil))) (.cons (.con (.int 0)) .nil)))
  (.cons (.asg (.name 2) (.std oAddM (.cons (.var 2) (.cons (.std oLst (.cons (.con (.int 0)) (.cons (.std oPow (.cons (.con (.int 10)) (.cons (.con (.int 9)) .nil))) .nil))) .nil))))
  .nil)
  .nil)
  (.cons (.if_ (.std oEq (.cons (.app (oFn "_law_draw" 2 [] S__law_draw) (.cons (.var 0) (.cons (.con (.int 3)) .nil))) (.cons (.con (.int 0)) .nil)))
  (.cons (.expr (.std oAppend (.cons (.var 2) (.cons (.app (oFn "_law_draw" 2 [] S__law_draw) (.cons (.var 0) (.cons (.std oAdd (.cons (.std oPow (.cons (.con (.int 10)) (.cons (.con (.int 9)) .nil))) (.cons (.con (.int 1)) .nil))) .nil))) .nil))))
  .nil)
  .nil)
  (.cons (.ret (.std oSortSet (.cons (.var 2) .nil)))
  .nil)))))
def n__law_stroke : List Str := ["pen", "lot", "hues", "ends"]
noncomputable def b__law_stroke : DSs := (.cons (.asg (.name 3) (.std oSortI (.cons (.std oLst (.cons (.std oIx (.cons (.var 1) (.cons (.app (oFn "_law_draw" 2 [] S__law_draw) (.cons (.var 0) (.cons (.std oLen (.cons (.var 1) .nil)) .nil))) .nil))) (.cons (.std oIx (.cons (.var 1) (.cons (.app (oFn "_law_draw" 2 [] S__law_draw) (.cons (.var 0) (.cons (.std oLen (.cons (.var 1) .nil)) .nil))) .nil))) .nil))) .nil)))
  (.cons (.ret (.std oTup (.cons (.std oIx (.cons (.var 3) (.cons (.con (.int 0)) .nil))) (.cons (.std oIx (.cons (.var 3) (.cons (.con (.int 1)) .nil))) (.cons (.std oIx (.cons (.var 2) (.cons (.app (oFn "_law_draw" 2 [] S__law_draw) (.cons (.var 0) (.cons (.std oLen (.cons (.var 2) .nil)) .nil))) .nil))) .nil)))))
  .nil))
def n__law_laying : List Str := ["pen", "lot", "hues", "size", "limit", "slots", "turn", "slot"]
noncomputable def b__law_laying : DSs := (.cons (.asg (.name 5) (.std oSortI (.cons (.lc false iRng1 (.cons (.app (oFn "_law_draw" 2 [] S__law_draw) (.cons (.var 0) (.cons (.std oAdd (.cons (.var 4) (.cons (.con (.int 1)) .nil))) .nil))) .nil) (.name 6) .nil (.app (oFn "_law_draw" 2 [] S__law_draw) (.cons (.var 0) (.cons (.std oAdd (.cons (.var 3) (.cons (.con (.int 1)) .nil))) .nil))) [("turn", 6)]) .nil)))
  (.cons (.ret (.std oTuple (.cons (.lc false iSeq (.cons (.var 5) .nil) (.name 7) .nil (.std oAdd (.cons (.std oTup (.cons (.var 7) .nil)) (.cons (.app (oFn "_law_stroke" 3 [] S__law_stroke) (.cons (.var 0) (.cons (.var 1) (.cons (.var 2) .nil)))) .nil))) [("slot", 7)]) .nil)))
  .nil))
def n__law_strokes : List Str := ["pen", "lot", "hues", "limit", "turn"]
noncomputable def b__law_strokes : DSs := (.cons (.ret (.lc false iRng1 (.cons (.app (oFn "_law_draw" 2 [] S__law_draw) (.cons (.var 0) (.cons (.std oAdd (.cons (.var 3) (.cons (.con (.int 1)) .nil))) .nil))) .nil) (.name 4) .nil (.app (oFn "_law_stroke" 3 [] S__law_stroke) (.cons (.var 0) (.cons (.var 1) (.cons (.var 2) .nil)))) [("turn", 4)]))
  .nil)
end
theorem set_same' (μ : Mem) (a : Addr) (m : MO) : (μ.set a m) a = some m := Mem.set_same ..
theorem set_set (μ : Mem) (a : Addr) (m m' : MO) : (μ.set a m).set a m' = μ.set a m' := by
  funext b; unfold Mem.set; split <;> rfl
theorem ixS (μ : Mem) (a : Addr) (xs : List D) (i : Int) (Q : QD) (Ex : QX) : oIx.o.sem [.ref a, .int i] (μ.set a (.lst xs)) Q Ex = ∃ d, atI xs i = some d ∧ Q d (μ.set a (.lst xs)) := s_oIxR _ Q Ex (Mem.set_same ..) i
theorem cutD_map {α β : Type} (f : α → β) (xs : List α) (lo hi : Option Int) : cutD (xs.map f) lo hi = (cutD xs lo hi).map f := by
  unfold cutD; rw [List.length_map, List.map_take, List.map_drop]
theorem cutD_len {α : Type} (xs : List α) (lo hi : Option Int) : (cutD xs lo hi).length ≤ xs.length := by
  unfold cutD
  rw [List.length_take, List.length_drop]; omega
theorem cutD_mem {α : Type} {xs : List α} {lo hi : Option Int} {x : α} (h : x ∈ cutD xs lo hi) : x ∈ xs := List.mem_of_mem_drop (List.mem_of_mem_take h)
theorem vc_pen : Vc n__law_pen ["script"] b__law_pen S__law_pen := by
  rintro ds μ Q Ex _ ⟨cells, rfl, h0, h⟩
  simp [b__law_pen, n__law_pen]
  intro a ha
  refine ends_of (h a _ ha ⟨cutD cells none (some 60), 0, 0, ?_, ?_, by omega, by omega, by omega⟩)
  · simp [cutD_map]
  · exact Nat.le_trans (cutD_len ..) h0
@[simp] theorem ixN31 : ixN 3 1 = some 1 := rfl
@[simp] theorem ixN32 : ixN 3 2 = some 2 := rfl
theorem plain_ints (cells : List Int) (n : Nat) : plainN (n + 1) (.lst (cells.map D.int)) = true := by simp [plainN]
theorem same_nil (cells : List Int) : DL.same (.lst (cells.map D.int)) (.lst []) = decide (cells = []) := by
  cases cells with
  | nil => simp
  | cons c cs => rw [DL.same_of_ne (by simp)]; simp
theorem fr_set {μ : Mem} {a : Addr} {m : MO} : Fr a μ (μ.set a m) := fun b hb => Mem.set_ne hb
theorem emod_lt {x m : Int} (h : 0 < m) : 0 ≤ x % m ∧ x % m < m := ⟨Int.emod_nonneg _ (by omega), Int.emod_lt_of_pos _ h⟩
theorem well_tail {cell c : Int} (P : Int → Prop) (hc : 0 ≤ c ∧ c ≤ 100000) (h : ∀ i, 0 ≤ i → P i) : CMul c 52391 ∧ ∀ low, low = (cell % 2147483549 + c * 52391 + 29) % 2147483549 → CMul low low ∧ CMul c 30011 ∧ ∀ mid, mid = (low * low + c * 30011 + 7) % 2147483543 → CMul mid mid ∧ CMul c c ∧
    ∀ top, top = (mid * mid + low + c * c) % 2147483497 → CMul top 2147483549 ∧ CMul (top * 2147483549 + mid) 2147483543 ∧ P ((top * 2147483549 + mid) * 2147483543 + low) := by
  refine ⟨.inr ⟨by omega, by omega⟩, ?_⟩
  rintro low rfl
  generalize hl : (cell % 2147483549 + c * 52391 + 29) % 2147483549 = low
  have l1 : 0 ≤ low ∧ low < 2147483549 := by rw [← hl]; exact emod_lt (by omega)
  refine ⟨.inl ⟨by omega, by omega⟩, .inr ⟨by omega, by omega⟩, ?_⟩
  rintro mid rfl
  generalize hm : (low * low + c * 30011 + 7) % 2147483543 = mid
  have m1 : 0 ≤ mid ∧ mid < 2147483543 := by rw [← hm]; exact emod_lt (by omega)
  refine ⟨.inl ⟨by omega, by omega⟩, .inl ⟨by omega, by omega⟩, ?_⟩
  rintro top rfl
  generalize ht : (mid * mid + low + c * c) % 2147483497 = top
  have t1 : 0 ≤ top ∧ top < 2147483497 := by rw [← ht]; exact emod_lt (by omega)
  exact ⟨.inr ⟨by omega, by omega⟩, .inr ⟨by omega, by omega⟩, h _ (by omega)⟩
theorem vc_well : Vc n__law_well ["pen"] b__law_well S__law_well := by
  rintro ds μ Q Ex _ ⟨a, n, rfl, ⟨cells, c, r, hμ, hcl, hc0, hcn, hr⟩, hn, h⟩
  have fin : ∀ i, 0 ≤ i → ends Q (.int i) (μ.set a (.lst [.lst (cells.map D.int), .int (c + 1), .int r])) := fun i hi =>
    ends_of (h i _ hi ⟨cells, c + 1, r, set_same' _ _ _, hcl, by omega, by omega, hr⟩ fr_set)
  have hp : CPow 10 18 := ⟨by omega, by omega, by decide⟩
  have h977 : CMul c 977 := .inr ⟨by omega, by omega⟩
  simp [-plain_nil, -same_lst_nil, b__law_well, n__law_well, ixR hμ, hμ, h977, hp, plain_ints cells 31, same_nil]
  have hpn : plainN 32 (.lst []) = true := rfl
  refine ⟨hpn, ?_⟩
  have tl := fun cell => well_tail (cell := cell) (fun i => ends Q (.int i) (μ.set a (.lst [.lst (cells.map D.int), .int (c + 1), .int r]))) ⟨hc0, by omega⟩ fin
  by_cases he : cells = []
  · refine .inl ⟨he, .inl ⟨by simp [he]; omega, ?_⟩⟩
    obtain ⟨t1, t2⟩ := tl (c * 977 + 7)
    obtain ⟨t3, t4, t5⟩ := t2 _ rfl
    obtain ⟨t6, t7, t8⟩ := t5 _ rfl
    obtain ⟨t9, t10, t11⟩ := t8 _ rfl
    exact ⟨t1, t3, t4, t6, t7, t9, t10, t11⟩
  · refine .inr ⟨he, ?_⟩
    have hpos : 0 < cells.length := List.length_pos_iff.mpr he
    have hm := emod_lt (x := c) (m := (cells.length : Int)) (by omega)
    have hmn : (c % (cells.length : Int)) = (((c % (cells.length : Int)).toNat : Nat) : Int) := by omega
    have hlt : (c % (cells.length : Int)).toNat < cells.length := by omega
    have hat : atI (cells.map D.int) (c % (cells.length : Int)) = some (.int (cells.getD (c % (cells.length : Int)).toNat 0)) := by
      rw [hmn]; exact at_map (d0 := 0) hlt
    rw [hat]
    generalize cells.getD (c % (cells.length : Int)).toNat 0 = cell
    have hc1 : ((cells.length : Int) ≤ c ∨ (c < (cells.length : Int))) := by omega
    obtain ⟨t1, t2⟩ := tl cell
    obtain ⟨t3, t4, t5⟩ := t2 _ rfl
    obtain ⟨t6, t7, t8⟩ := t5 _ rfl
    obtain ⟨t9, t10, t11⟩ := t8 _ rfl
    simp [hpos]
    rcases hc1 with hc1 | hc1
    · exact .inl ⟨hc1, t1, t3, t4, t6, t7, t9, t10, t11⟩
    · refine .inr ⟨hc1, ?_⟩
      by_cases hb : cell < 1000000000000000000
      · exact .inl ⟨hb, t1, t3, t4, t6, t7, t9, t10, t11⟩
      · exact .inr ⟨by omega, fin _ (by omega)⟩
theorem vc_draw : Vc n__law_draw ["pen", "below"] b__law_draw S__law_draw := by
  rintro ds μ Q Ex _ ⟨a, b, rfl, hb0, hb1, n, hp, hn, h⟩
  have hp' := hp
  obtain ⟨cells, c, r, hμ, hcl, hc0, hcn, hr⟩ := hp'
  have tail : ∀ (cells : List Int) (c r : Int) (μ' : Mem), μ' a = some (.lst [.lst (cells.map D.int), .int c, .int r]) → cells.length ≤ 1000 → 0 ≤ c → c ≤ ((n + 1 : Nat) : Int) → 0 ≤ r → Fr a μ μ' →
      CDiv r b ∧ ends Q (.int (r % b)) (μ'.set a (.lst [.lst (cells.map D.int), .int c, .int (r / b)])) := by
    intro cells c r μ' hμ h1 h2 h3 h4 hf
    refine ⟨⟨hb0, by omega⟩, ends_of (h _ _ ⟨_, rfl, emod_lt hb0⟩ ⟨cells, c, r / b, set_same' _ _ _, h1, h2, h3, ?_⟩ fun d hd => ?_)⟩
    · exact Int.ediv_nonneg h4 (by omega)
    · rw [Mem.set_ne hd]; exact hf d hd
  simp [b__law_draw, n__law_draw, ixR hμ]
  by_cases hrb : r < b
  · refine .inr ⟨hrb, a, n, rfl, hp, hn, fun i μ' hi ⟨cells', c', r', hμ', h1, h2, h3, h4⟩ hf => ?_⟩
    simp [hμ', hb0]
    obtain ⟨t1, t2⟩ := tail cells' c' i (μ'.set a (.lst [.lst (cells'.map D.int), .int c', .int i])) (set_same' _ _ _) h1 h2 h3 hi (fun d hd => by rw [Mem.set_ne hd]; exact hf d hd)
    exact ⟨t1, by simpa using t2⟩
  · refine .inl ⟨by omega, hb0, ?_⟩
    obtain ⟨t1, t2⟩ := tail cells c r μ hμ hcl hc0 (by omega) hr fun _ _ => rfl
    refine ⟨t1, ?_⟩
    simp [hμ]
    exact t2
def _root_.PL.Ext (a : Addr) (μ μ' : Mem) : Prop := ∀ c, c ≠ a → ∀ m, μ c = some m → μ' c = some m
theorem _root_.PL.Fr.ext {a : Addr} {μ μ' : Mem} (h : Fr a μ μ') : Ext a μ μ' := fun c hc m e => by rw [h c hc]; exact e
theorem _root_.PL.Ext.refl (a : Addr) (μ : Mem) : Ext a μ μ := fun _ _ _ e => e
theorem _root_.PL.Ext.trans {a : Addr} {μ μ1 μ2 : Mem} (h : Ext a μ μ1) (k : Ext a μ1 μ2) : Ext a μ μ2 := fun c hc m e => k c hc m (h c hc m e)
theorem _root_.PL.Ext.set {a b : Addr} {μ μ1 : Mem} {m : MO} (h : Ext a μ μ1) (hb : μ b = none) : Ext a μ (μ1.set b m) := fun c hc m' e => by
  rw [Mem.set_ne (fun z => by subst z; rw [hb] at e; cases e)]
  exact h c hc m' e
theorem _root_.PL.Ext.set0 {a b : Addr} {μ μ1 : Mem} {m : MO} (h : Ext a μ μ1) (hb : μ1 b = none) : Ext a μ (μ1.set b m) := fun c hc m' e => by
  rw [Mem.set_ne (fun z => by subst z; have := h c hc m' e; rw [hb] at this; cases this)]
  exact h c hc m' e
theorem _root_.PL.Pen.set {a b : Addr} {n : Nat} {μ : Mem} {m : MO} (h : Pen a n μ) (hb : b ≠ a) : Pen a n (μ.set b m) := by
  obtain ⟨cells, c, r, e, h⟩ := h
  exact ⟨cells, c, r, by rw [Mem.set_ne (Ne.symm hb)]; exact e, h⟩
theorem _root_.PL.Pen.ne {a b : Addr} {n : Nat} {μ : Mem} (h : Pen a n μ) (hb : μ b = none) : b ≠ a := fun z => by
  subst z
  obtain ⟨cells, c, r, e, h⟩ := h
  rw [hb] at e; cases e
theorem _root_.PL.Pen.up {a : Addr} {n m : Nat} {μ : Mem} (h : Pen a n μ) (hm : n ≤ m) : Pen a m μ := by
  obtain ⟨cells, c, r, e, h1, h2, h3, h4⟩ := h
  exact ⟨cells, c, r, e, h1, h2, by omega, h4⟩
theorem pen_end {a : Addr} {n : Nat} {μ μf : Mem} (h : Pen a n μf) (e : Ext a μ μf) : ∃ μ', Mem.Sub μ' μf ∧ Pen a n μ' ∧ Fr a μ μ' := by
  refine ⟨fun c => if c = a then μf c else μ c, fun c m hc => ?_, ?_, fun c hc => if_neg hc⟩
  · by_cases z : c = a
    · simp only [z, if_true] at hc ⊢; exact hc
    · simp only [z, if_false] at hc; exact e c z m hc
  · obtain ⟨cells, c, r, e, h⟩ := h
    exact ⟨cells, c, r, by simp [e], h⟩
theorem drw_end {k : Nat} {a : Addr} {μ μf : Mem} {Q : QD} {P : D → Prop} {n : Nat} {d : D} (h : ∀ d μ', P d → Pen a (n + k) μ' → Fr a μ μ' → Q d μ') (hp : P d) (p : Pen a (n + k) μf) (e : Ext a μ μf) : ends Q d μf := by
  obtain ⟨μ', h1, h2, h3⟩ := pen_end p e
  exact ⟨μ', h1, h d μ' hp h2 h3⟩
theorem pen_in {a b : Addr} {n : Nat} {o : MO} {μ μ1 : Mem} (p : Pen a n μ1) (hb : μ b = none) (hba : b ≠ a) (f : Fr a (μ.set b o) μ1) : ∃ μ', μ1 = μ'.set b o ∧ μ' b = none ∧ Pen a n μ' ∧ Fr a μ μ' := by
  have e1 : μ1 b = some o := by rw [f b hba]; exact Mem.set_same ..
  refine ⟨μ1.del b, ?_, by unfold Mem.del; simp, ?_, fun c hc => ?_⟩
  · funext c
    unfold Mem.set Mem.del
    by_cases z : c = b
    · subst z; simp [e1]
    · simp [z]
  · obtain ⟨cells, c, r, e, h⟩ := p
    exact ⟨cells, c, r, by unfold Mem.del; rw [if_neg (Ne.symm hba)]; exact e, h⟩
  · unfold Mem.del
    by_cases z : c = b
    · subst z; simp [hb]
    · rw [if_neg z, f c hc, Mem.set_ne z]
theorem lc_draw {a : Addr} {m : Bool} {keep : Mem → Prop} {g : DG} {te : DT} {env : DL.Env} {Q : QD} (I : List D → List D → Mem → Prop) (hk : ∀ xs acc μ, I xs acc μ → keep (μ.set a (.lst acc)))
    (hl : ∀ xs acc μ, I xs acc μ → acc.length + xs.length ≤ sizeLine)
    (hs : ∀ x xs acc μ, I (x :: xs) acc μ → μ a = none → ∀ P : QD, (∀ y μ', I xs (acc ++ [y]) μ' → μ' a = none → P y (μ'.set a (.lst acc))) → dG g x env fun env' => te env' (μ.set a (.lst acc)) P (fun _ _ => False))
    (hq : ∀ acc μ, I [] acc μ → μ a = none → if m then Q (.ref a) (μ.set a (.lst acc)) else Q (.lst acc) μ) : ∀ xs acc μ, I xs acc μ → μ a = none → lcGo a m keep g dYes te env Q xs acc (μ.set a (.lst acc))
  | [], acc, μ, h, hn => by
    refine ⟨hk _ _ _ h, Mem.set_same .., ?_⟩
    have := hq acc μ h hn
    cases m with
    | true => exact this
    | false => exact ⟨μ, Mem.Sub.set hn, hn, this⟩
  | x :: xs, acc, μ, h, hn => by
    have h3 := hl _ _ _ h
    refine ⟨hk _ _ _ h, hs x xs acc μ h hn _ fun y μ' h' hn' => ⟨Mem.set_same .., by simp only [List.length_cons] at h3; omega, ?_⟩⟩
    rw [set_set]
    exact lc_draw I hk hl hs hq xs (acc ++ [y]) μ' h' hn'
theorem vc_stroke : Vc n__law_stroke ["pen", "lot", "hues"] b__law_stroke S__law_stroke := by
  rintro ds μ Q Ex _ ⟨a, lot, hs, rfl, hlot, hhs, n, hp, hn, h⟩
  have l1 := hlot.len
  have l2 := hlot.some
  have l3 := hhs.len
  have l4 := hhs.some
  have at_lot : ∀ i : Int, 0 ≤ i → i < (lot.length : Int) → ∃ x, atI (lot.map D.int) i = some (.int x) ∧ 0 ≤ x ∧ x ≤ 1000000000 := by
    intro i h0 h1
    have e : i = ((i.toNat : Nat) : Int) := by omega
    have hi : i.toNat < lot.length := by omega
    refine ⟨lot.getD i.toNat 0, by rw [e]; exact at_map (d0 := 0) hi, ?_⟩
    rw [List.getD_eq_getElem?_getD, List.getElem?_eq_getElem hi]
    exact hlot.ok _ (List.getElem_mem _)
  simp [b__law_stroke, n__law_stroke, lotD, huesD]
  refine ⟨a, lot.length, rfl, by omega, by omega, n, hp, by omega, fun d μ1 ⟨i, e, i0, i1⟩ p1 f1 => ?_⟩
  subst e
  obtain ⟨x, hx, x0, x1⟩ := at_lot i i0 i1
  simp [hx]
  refine ⟨a, lot.length, rfl, by omega, by omega, n + 1, p1, by omega, fun d μ2 ⟨j, e, j0, j1⟩ p2 f2 => ?_⟩
  subst e
  obtain ⟨y, hy, y0, y1⟩ := at_lot j j0 j1
  simp [hy]
  refine ⟨[x, y], rfl, ?_⟩
  obtain ⟨u, v, huv, hle, hmem⟩ : ∃ u v, isort [x, y] = [u, v] ∧ u ≤ v ∧ (∀ z ∈ [u, v], 0 ≤ z ∧ z ≤ 1000000000) := by
    have hl := (isort_perm [x, y]).length_eq
    have hs := isort_sorted [x, y]
    have hm := fun z => (isort_perm [x, y]).mem_iff (a := z)
    generalize isort [x, y] = l at *
    match l, hl with
    | [u, v], _ =>
      refine ⟨u, v, rfl, by simpa using hs, fun z hz => ?_⟩
      have := (hm z).mp hz
      simp only [List.mem_cons, List.not_mem_nil, or_false] at this
      rcases this with rfl | rfl
      · exact ⟨x0, x1⟩
      · exact ⟨y0, y1⟩
  rw [huv]
  simp
  refine ⟨a, hs.length, rfl, by omega, by omega, n + 1 + 1, p2, by omega, fun d μ3 ⟨k, e, k0, k1⟩ p3 f3 => ?_⟩
  subst e
  have e : k = ((k.toNat : Nat) : Int) := by omega
  have hi : k.toNat < hs.length := by omega
  have hat : atI (hs.map D.str) k = some (.str (hs.getD k.toNat "")) := by have := at_map (xs := hs) (f := D.str) (d0 := "") hi; rwa [← e] at this
  have hc : hs.getD k.toNat "" ∈ hs := by
    rw [List.getD_eq_getElem?_getD, List.getElem?_eq_getElem hi]
    exact List.getElem_mem _
  simp [hat]
  refine drw_end (P := fun d => ∃ s : Sk, d = s.d ∧ s.ok ∧ s.col ∈ hs) h ⟨⟨u, v, hs.getD k.toNat ""⟩, by simp [Sk.d], ⟨(hmem u (by simp)).1, hle, (hmem v (by simp)).2, hue_col (hhs.ok _ hc)⟩, hc⟩ (p3.up (by omega)) ((f1.ext.trans f2.ext).trans f3.ext)
theorem lc_drw {a b : Addr} {m : Bool} {keep : Mem → Prop} {g : DG} {te : DT} {env : DL.Env} {Q : QD} {μ : Mem} (k n0 : Nat) (PP : D → Prop) (xs : List D) (hp : Pen a n0 μ) (hb : μ b = none) (hk : ∀ μ', keep μ')
    (hl : xs.length ≤ 1000) (hn : n0 + xs.length * k ≤ 100000)
    (hs : ∀ x ∈ xs, ∀ (M : Mem) (n : Nat) (P : QD), Pen a n M → n + k ≤ 100000 → (∀ y M', PP y → Pen a (n + k) M' → Fr a M M' → P y M') → dG g x env fun env' => te env' M P (fun _ _ => False))
    (hq : ∀ acc μ', (∀ y ∈ acc, PP y) → acc.length = xs.length → Pen a (n0 + xs.length * k) μ' → Fr a μ μ' → μ' b = none → if m then Q (.ref b) (μ'.set b (.lst acc)) else Q (.lst acc) μ') :
    lcGo b m keep g dYes te env Q xs [] (μ.set b (.lst [])) := by
  have hba := hp.ne hb
  refine lc_draw (fun rest acc μ' => (∃ t, t + rest.length = xs.length ∧ acc.length = t ∧ Pen a (n0 + t * k) μ') ∧ Fr a μ μ' ∧ (∀ y ∈ acc, PP y) ∧ ∀ x ∈ rest, x ∈ xs) (fun _ _ _ _ => hk _) ?_ ?_ ?_ xs [] μ ⟨⟨0, by simp, rfl, by simpa using hp⟩, fun _ _ => rfl, by simp, fun _ h => h⟩ hb
  · rintro rest acc μ' ⟨⟨t, h1, h2, h3⟩, _⟩
    rw [sizeLine_eq]; omega
  · rintro x rest acc μ' ⟨⟨t, h1, h2, h3⟩, hf, hy, hx⟩ hn' P hP
    simp only [List.length_cons] at h1
    have h5 : (t + 1) * k ≤ xs.length * k := Nat.mul_le_mul_right _ (by omega)
    have h6 : (t + 1) * k = t * k + k := Nat.succ_mul ..
    refine hs x (hx x (by simp)) (μ'.set b (.lst acc)) (n0 + t * k) P (h3.set hba) (by omega) fun y M' hPy hpen hfr => ?_
    obtain ⟨μ2, rfl, hb2, p2, f2⟩ := pen_in hpen hn' hba hfr
    refine hP y μ2 ⟨⟨t + 1, by omega, by simp [h2], by rw [h6, ← Nat.add_assoc]; exact p2⟩, fun c hc => (f2 c hc).trans (hf c hc), ?_, fun z hz => hx z (by simp [hz])⟩ hb2
    intro z hz
    rcases List.mem_append.mp hz with hz | hz
    · exact hy z hz
    · have : z = y := by simpa using hz
      subst this; exact hPy
  · rintro acc μ' ⟨⟨t, h1, h2, h3⟩, hf, hy, hx⟩ hn'
    have : t = xs.length := by simpa using h1
    subst this
    exact hq acc μ' hy h2 h3 hf hn'
theorem all_ex {α : Type} {f : α → D} {p : α → Prop} : ∀ {acc : List D}, (∀ y ∈ acc, ∃ s, y = f s ∧ p s) → ∃ row : List α, acc = row.map f ∧ ∀ s ∈ row, p s
  | [], _ => ⟨[], rfl, by simp⟩
  | y :: acc, h => by
    obtain ⟨s, rfl, hp⟩ := h y (by simp)
    obtain ⟨row, rfl, hr⟩ := all_ex fun z hz => h z (List.mem_cons_of_mem _ hz)
    exact ⟨s :: row, rfl, by simpa using ⟨hp, hr⟩⟩
theorem vc_strokes2 : Vc n__law_strokes ["pen", "lot", "hues", "limit"] b__law_strokes S__law_strokes := by
  rintro ds μ Q Ex _ ⟨a, lot, hs, l, rfl, hlot, hhs, hl, n, hp, hn, h⟩
  simp [b__law_strokes, n__law_strokes]
  refine ⟨a, (l : Int) + 1, rfl, by omega, by omega, n, hp, by omega, fun d μ1 ⟨i, e, i0, i1⟩ p1 f1 => ?_⟩
  subst e
  simp
  refine ⟨by omega, by omega, fun b hb => ?_⟩
  have hlen : (rngD 0 i.toNat).length ≤ l := by rw [rngD_length]; omega
  refine lc_drw 3 (n + 1) (fun d => ∃ s : Sk, d = s.d ∧ (s.ok ∧ s.col ∈ hs)) _ p1 hb (fun _ => trivial) (by omega) (by omega) ?_ ?_
  · intro x _ M m P hpen hm hP
    simp
    refine ⟨a, lot, hs, rfl, hlot, hhs, m, hpen, hm, fun d M' ⟨s, hd, h1, h2⟩ p f => hP d M' ⟨s, hd, h1, h2⟩ p f⟩
  · intro acc μ' hy hal hpen hf hb'
    obtain ⟨row, rfl, hr⟩ := all_ex hy
    simp only [List.length_map] at hal
    simp
    refine drw_end (P := fun d => ∃ row : List Sk, d = .lst (row.map Sk.d) ∧ okRow row ∧ row.length ≤ l) h ⟨row, rfl, ⟨by omega, fun s hs => (hr s hs).1⟩, by omega⟩ (hpen.up (by omega)) (f1.ext.trans hf.ext)
theorem vc_laying : Vc n__law_laying ["pen", "lot", "hues", "size", "limit"] b__law_laying S__law_laying := by
  rintro ds μ Q Ex _ ⟨a, lot, hs, sz, l, rfl, hlot, hhs, hsz, hl, n, hp, hn, h⟩
  simp [b__law_laying, n__law_laying]
  refine ⟨a, (l : Int) + 1, rfl, by omega, by omega, n, hp, by omega, fun d μ1 ⟨i, e, i0, i1⟩ p1 f1 => ?_⟩
  subst e
  simp
  refine ⟨by omega, by omega, fun b hb => ?_⟩
  have hlen : (rngD 0 i.toNat).length ≤ l := by rw [rngD_length]; omega
  refine lc_drw 1 (n + 1) (fun d => ∃ s : Int, d = .int s ∧ (0 ≤ s ∧ s ≤ (sz : Int))) _ p1 hb (fun _ => trivial) (by omega) (by omega) ?_ ?_
  · intro x _ M m P hpen hm hP
    simp
    refine ⟨a, (sz : Int) + 1, rfl, by omega, by omega, m, hpen, hm, fun d M' ⟨s, hd, h1, h2⟩ p f => hP d M' ⟨s, hd, h1, by omega⟩ p f⟩
  · intro acc μ2 hy hal hpen hf hb2
    obtain ⟨ns, rfl, hr⟩ := all_ex hy
    simp only [List.length_map] at hal
    simp
    refine ⟨ns, rfl, ?_⟩
    have so := isort_sorted ns
    have sl := (isort_perm ns).length_eq
    have sm := fun z => (isort_perm ns).mem_iff (a := z)
    generalize isort ns = sl' at *
    intro c hc
    refine lc_draw (fun rest acc μ' => (∃ t, t + rest.length = sl'.length ∧ acc.length = t ∧ Pen a (n + 1 + (rngD 0 i.toNat).length * 1 + t * 3) μ') ∧ Fr a μ2 μ' ∧ ∃ L : List Pt, acc = L.map Pt.d ∧ rest = (sl'.drop L.length).map D.int ∧ L.map (·.slot) = sl'.take L.length ∧ ∀ p ∈ L, p.s.ok ∧ p.s.col ∈ hs) (fun _ _ _ _ => trivial) ?_ ?_ ?_ _ [] μ2
      ⟨⟨0, by simp, rfl, by simpa using hpen⟩, fun _ _ => rfl, [], rfl, by simp, by simp, by simp⟩ hc
    · rintro rest acc μ' ⟨⟨t, h1, h2, h3⟩, _⟩
      rw [sizeLine_eq]; omega
    · rintro x rest acc μ' ⟨⟨t, h1, h2, h3⟩, hf', L, rfl, hrest, htake, hok⟩ hn' P hP
      simp only [List.length_cons, List.length_map] at h1 h2
      have hlt : L.length < sl'.length := by omega
      rw [List.drop_eq_getElem_cons hlt, List.map_cons, List.cons.injEq] at hrest
      obtain ⟨rfl, rfl⟩ := hrest
      have hca := h3.ne hn'
      simp
      refine ⟨a, lot, hs, rfl, hlot, hhs, _, h3.set hca, by omega, fun d M' ⟨s, hd, hs1, hs2⟩ p f => ?_⟩
      subst hd
      obtain ⟨μ3, rfl, hb3, p3, f3⟩ := pen_in p hn' hca f
      simp [Sk.d]
      refine hP (Pt.d ⟨sl'[L.length], s⟩) μ3 ⟨⟨t + 1, by simp at h1 ⊢; omega, by simp; omega, p3.up (by omega)⟩, fun c hc => (f3 c hc).trans (hf' c hc), L ++ [⟨sl'[L.length], s⟩], by simp, by simp, ?_, ?_⟩ hb3
      · rw [List.map_append, htake, List.length_append, List.length_cons, List.length_nil, List.take_add_one, List.getElem?_eq_getElem hlt]
        rfl
      · intro q hq
        rcases List.mem_append.mp hq with hq | hq
        · exact hok q hq
        · have : q = ⟨sl'[L.length], s⟩ := by simpa using hq
          subst this; exact ⟨hs1, hs2⟩
    · rintro acc μ' ⟨⟨t, h1, h2, h3⟩, hf', L, rfl, hrest, htake, hok⟩ hn'
      have ht : t = sl'.length := by simpa using h1
      simp only [List.length_map] at h2
      have hL : L.map (·.slot) = sl' := by rw [htake, List.take_of_length_le (by omega)]
      simp
      refine drw_end (P := fun d => ∃ L : List Pt, d = layD L ∧ okLay sz L ∧ L.length ≤ l ∧ ∀ p ∈ L, p.s.col ∈ hs) h ⟨L, rfl, ⟨by omega, fun p hp => ?_, ?_⟩, by omega, fun p hp => (hok p hp).2⟩ (h3.up (by omega)) ((f1.ext.trans hf.ext).trans hf'.ext)
      · have h7 : p.slot ∈ sl' := by rw [← hL]; exact List.mem_map_of_mem hp
        have := hr _ ((sm _).mp h7)
        exact ⟨this.1, this.2, (hok p hp).1⟩
      · rw [← hL, List.pairwise_map] at so
        exact so
theorem nodup_len : ∀ {xs ys : List Int}, xs.Nodup → (∀ x ∈ xs, x ∈ ys) → xs.length ≤ ys.length
  | [], _, _, _ => by simp
  | x :: xs, ys, h, hs => by
    have hx := List.nodup_cons.mp h
    have h1 := nodup_len (ys := ys.erase x) hx.2 fun y hy => (List.mem_erase_of_ne (fun e => hx.1 (by rw [← e]; exact hy))).mpr (hs y (by simp [hy]))
    have h2 := List.length_erase_of_mem (hs x (by simp))
    have h3 := List.length_pos_of_mem (hs x (by simp))
    simp only [List.length_cons]; omega
theorem vc_lot : Vc n__law_lot ["pen"] b__law_lot S__law_lot := by
  rintro ds μ Q Ex _ ⟨a, rfl, n, hp, hn, h⟩
  have hpw : CPow 10 9 := ⟨by omega, by omega, by decide⟩
  have fin : ∀ (b' : Addr) (M : Mem) (ns : List Int) (m : Nat), M b' = some (.lst (ns.map D.int)) → Pen a m M → m ≤ n + 20 → Ext a μ M → 0 < ns.length → ns.length ≤ 20 → (∀ x ∈ ns, 0 ≤ x ∧ x ≤ 1000000000) →
      ∃ ns' : List Int, look M (.ref b') = .lst (ns'.map D.int) ∧ ns'.length < 64 ∧ ∀ out : List Int, out.Pairwise (· < ·) → (∀ k, k ∈ out ↔ k ∈ ns') → ends Q (.lst (out.map D.int)) M := by
    intro b' M ns m h1 h2 h3 h4 h5 h6 h7
    refine ⟨ns, look_ref h1, by omega, fun out ho hm => ?_⟩
    have h9 : 0 < out.length := by
      obtain ⟨x, hx⟩ := List.exists_mem_of_length_pos h5
      exact List.length_pos_of_mem ((hm x).mpr hx)
    have h8 : out.length ≤ ns.length := by
      have nd : out.Nodup := ho.imp fun h => by omega
      exact nodup_len nd fun x hx => (hm x).mp hx
    exact drw_end (P := fun d => ∃ lot, d = lotD lot ∧ okLot lot) h ⟨out, rfl, by omega, ho, h9, fun x hx => h7 x ((hm x).mp hx)⟩ (h2.up h3) h4
  simp [b__law_lot, n__law_lot, hpw]
  refine ⟨a, 4, rfl, by omega, by omega, n, hp, by omega, fun d μ1 ⟨i, e, i0, i1⟩ p1 f1 => ?_⟩
  subst e
  obtain ⟨base, hb, hb0, hb1⟩ : ∃ x : Int, atI [D.int 0, D.int 0, D.int 7, D.int 999999986] i = some (.int x) ∧ 0 ≤ x ∧ x ≤ 999999986 := by
    have : i = 0 ∨ i = 1 ∨ i = 2 ∨ i = 3 := by omega
    rcases this with rfl | rfl | rfl | rfl <;> simp
  simp [hb]
  intro b hb'
  refine lc_drw 1 (n + 1) (fun d => ∃ s : Int, d = .int s ∧ (0 ≤ s ∧ s ≤ 1000000000)) _ p1 hb' (fun _ => trivial) (by rw [rngD_length]; decide) (by rw [rngD_length]; omega) ?_ ?_
  · intro x _ M m P hpen hm hP
    simp
    refine ⟨a, 15, rfl, by omega, by omega, m, hpen, hm, fun d M' ⟨s, hd, h1, h2⟩ p f => ?_⟩
    subst hd
    simp
    exact hP _ M' ⟨base + s, rfl, by omega, by omega⟩ p f
  · intro acc μ2 hy hal hpen hf hb2
    obtain ⟨ns, rfl, hr⟩ := all_ex hy
    simp only [List.length_map] at hal
    have hl5 : (rngD 0 5).length = 5 := rngD_length _ _
    rw [hl5] at hal hpen
    have hba := hpen.ne hb2
    have e2 : Ext a μ (μ2.set b (.lst (ns.map D.int))) := (f1.ext.trans hf.ext).set0 hb2
    simp
    refine ⟨a, 3, rfl, by omega, by omega, _, hpen.set hba, by omega, fun d μ3 ⟨j, e, j0, j1⟩ p3 f3 => ?_⟩
    subst e
    have hb3 : μ3 b = some (.lst (ns.map D.int)) := by rw [f3 b hba]; exact Mem.set_same ..
    have e3 : Ext a μ μ3 := e2.trans f3.ext
    simp
    have step : ∀ (b' : Addr) (M : Mem) (ns : List Int) (m : Nat), M b' = some (.lst (ns.map D.int)) → b' ≠ a → μ b' = none → Pen a m M → m ≤ n + 10 → Ext a μ M → 0 < ns.length → ns.length ≤ 10 → (∀ x ∈ ns, 0 ≤ x ∧ x ≤ 1000000000) →
        S__law_draw [.ref a, .int 3] M (fun (x : D) (μ2 : Mem) => plainN 32 (look μ2 x) = true ∧ ((DL.same (look μ2 x) (D.int 0) = false ∧ (∃ ns' : List Int, look μ2 (.ref b') = .lst (ns'.map D.int) ∧ ns'.length < 64 ∧ ∀ out : List Int, out.Pairwise (· < ·) → (∀ k, k ∈ out ↔ k ∈ ns') → ends Q (.lst (out.map D.int)) μ2)) ∨
          (DL.same (look μ2 x) (D.int 0) = true ∧ (∃ xs, μ2 b' = some (.lst xs)) ∧ S__law_draw [.ref a, .int 1000000001] μ2 (fun (y : D) (μ3 : Mem) => ∃ xs, μ3 b' = some (.lst xs) ∧ xs.length < 16777216 ∧ (∃ ns' : List Int, look (μ3.set b' (.lst (xs ++ [y]))) (.ref b') = .lst (ns'.map D.int) ∧ ns'.length < 64 ∧ ∀ out : List Int, out.Pairwise (· < ·) → (∀ k, k ∈ out ↔ k ∈ ns') → ends Q (.lst (out.map D.int)) (μ3.set b' (.lst (xs ++ [y]))))) Ex))) Ex := by
      intro b' M ns m h1 h2 hfr h3 h4 h5 h6 h7 h8
      refine ⟨a, 3, rfl, by omega, by omega, m, h3, by omega, fun d μ4 ⟨j, e, j0, j1⟩ p4 f4 => ?_⟩
      subst e
      have hb4 : μ4 b' = some (.lst (ns.map D.int)) := by rw [f4 b' h2]; exact h1
      by_cases hj : j = 0
      · subst hj
        refine ⟨rfl, .inr ⟨by simp, ⟨_, hb4⟩, a, _, rfl, by omega, by omega, m + 1, p4, by omega, fun d μ5 ⟨k, e, k0, k1⟩ p5 f5 => ?_⟩⟩
        subst e
        have hb5 : μ5 b' = some (.lst (ns.map D.int)) := by rw [f5 b' h2]; exact hb4
        refine ⟨_, hb5, by simp; omega, ?_⟩
        refine fin b' _ (ns ++ [k]) (m + 1 + 1) (by rw [set_same']; simp) (p5.set h2) (by omega) (((h5.trans f4.ext).trans f5.ext).set hfr) (by simp) (by simp; omega) ?_
        intro x hx
        rcases List.mem_append.mp hx with hx | hx
        · exact h8 x hx
        · have : x = k := by simpa using hx
          subst this; exact ⟨k0, by omega⟩
      · refine ⟨rfl, .inl ⟨by simp [hj], fin b' μ4 ns (m + 1) hb4 p4 (by omega) (h5.trans f4.ext) h6 (by omega) h8⟩⟩
    have hμb : μ b = none := by
      cases q : μ b with
      | none => rfl
      | some z => have := f1.ext b hba z q; rw [hb'] at this; cases this
    by_cases hj : j = 0
    · subst hj
      refine .inr ⟨rfl, ?_⟩
      refine ⟨ns.map D.int, [.int 0, .int 1000000000], look_ref hb3, rfl, by simp; omega, fun b2 hb2' => ?_⟩
      have hb2a := p3.ne hb2'
      have hμb2 : μ b2 = none := by
        cases q : μ b2 with
        | none => rfl
        | some z => have := e3 b2 hb2a z q; rw [hb2'] at this; cases this
      have := step b2 (μ3.set b2 (.lst (ns.map D.int ++ [.int 0, .int 1000000000]))) (ns ++ [0, 1000000000]) _ (by rw [set_same']; simp) hb2a hμb2 (p3.set hb2a) (by omega) (e3.set hμb2) (by simp) (by simp; omega) (by
        intro x hx
        rcases List.mem_append.mp hx with hx | hx
        · exact hr x hx
        · simp only [List.mem_cons, List.not_mem_nil, or_false] at hx
          rcases hx with rfl | rfl <;> omega)
      simpa using this
    · refine .inl ⟨hj, ?_⟩
      have := step b μ3 ns _ hb3 hba hμb p3 (by omega) e3 (by omega) (by omega) hr
      simpa using this
theorem hues_cut : ∀ k, k < 4 → ∀ j : Int, j = 0 ∨ j = 1 → okHues (cutD (hueL.eraseIdx k) none (some (2 + j))) := by
  intro k hk j hj
  have : k = 0 ∨ k = 1 ∨ k = 2 ∨ k = 3 := by omega
  rcases this with rfl | rfl | rfl | rfl <;> rcases hj with rfl | rfl <;> exact ⟨by decide +kernel, by decide +kernel, by decide +kernel, by decide +kernel⟩
theorem vc_hues : Vc n__law_hues ["pen"] b__law_hues S__law_hues := by
  rintro ds μ Q Ex _ ⟨a, rfl, n, hp, hn, h⟩
  simp [b__law_hues, n__law_hues]
  intro b hb
  have hba := hp.ne hb
  refine ⟨a, 4, rfl, by omega, by omega, n, hp.set hba, by omega, fun d μ1 ⟨i, e, i0, i1⟩ p1 f1 => ?_⟩
  subst e
  have hb1 : μ1 b = some (.lst (hueL.map D.str)) := by rw [f1 b hba]; exact Mem.set_same ..
  have e1 : Ext a μ μ1 := ((Ext.refl a μ).set0 hb).trans f1.ext
  simp
  have hk : i.toNat < 4 := by omega
  have hix : seqIndex? i 4 = some i.toNat := by
    have : i = 0 ∨ i = 1 ∨ i = 2 ∨ i = 3 := by omega
    rcases this with rfl | rfl | rfl | rfl <;> rfl
  have hgt : ∃ y, (hueL.map D.str)[i.toNat]? = some y := ⟨_, List.getElem?_eq_getElem (by simpa [hueL] using hk)⟩
  obtain ⟨y, hy⟩ := hgt
  refine ⟨_, hb1, by omega, by omega, i.toNat, by simpa [hueL] using hix, ⟨y, hy⟩, a, 2, rfl, by omega, by omega, n + 1, p1.set hba, by omega, fun d μ2 ⟨j, e, j0, j1⟩ p2 f2 => ?_⟩
  subst e
  have hb2 : μ2 b = some (.lst ((hueL.map D.str).eraseIdx i.toNat)) := by rw [f2 b hba]; exact Mem.set_same ..
  simp
  rw [s_oSlM2 _ _ _ hb2]
  have he : (hueL.map D.str).eraseIdx i.toNat = (hueL.eraseIdx i.toNat).map D.str := by
    have : i.toNat = 0 ∨ i.toNat = 1 ∨ i.toNat = 2 ∨ i.toNat = 3 := by omega
    rcases this with q | q | q | q <;> rw [q] <;> rfl
  rw [he, cutD_map]
  have hμb : μ b = none := hb
  refine drw_end (P := fun d => ∃ hs, d = huesD hs ∧ okHues hs) h ⟨_, rfl, hues_cut _ hk j (by omega)⟩ (p2.up (by omega)) ((e1.set hμb).trans f2.ext)
theorem vc_looks : Vc n__law_looks ["pen", "lot", "size", "limit"] b__law_looks S__law_looks := by
  rintro ds μ Q Ex _ ⟨a, lot, sz, l, rfl, hlot, hsz, hl, n, hp, hn, h⟩
  have l1 := hlot.len
  have l2 := hlot.some
  have at_lot : ∀ i : Int, 0 ≤ i → i < (lot.length : Int) → ∃ x, atI (lot.map D.int) i = some (.int x) ∧ 0 ≤ x ∧ x ≤ 1000000000 := by
    intro i h0 h1
    have e : i = ((i.toNat : Nat) : Int) := by omega
    have hi : i.toNat < lot.length := by omega
    refine ⟨lot.getD i.toNat 0, by rw [e]; exact at_map (d0 := 0) hi, ?_⟩
    rw [List.getD_eq_getElem?_getD, List.getElem?_eq_getElem hi]
    exact hlot.ok _ (List.getElem_mem _)
  simp [b__law_looks, n__law_looks]
  intro b hb
  have hba := hp.ne hb
  refine ⟨a, (l : Int) + 1, rfl, by omega, by omega, n, hp.set hba, by omega, fun d μ1 ⟨i, e, i0, i1⟩ p1 f1 => ?_⟩
  subst e
  simp
  refine ⟨by omega, by omega, ?_⟩
  have hb1 : μ1 b = some (.lst []) := by rw [f1 b hba]; exact Mem.set_same ..
  have hlen : (rngD 0 i.toNat).length ≤ l := by rw [rngD_length]; omega
  refine for_go (fun t env μ' => ∃ s e, env = [some (.ref a), some (lotD lot), some (.int sz), some (.int l), some (.ref b), s, e] ∧ Pen a (n + 1 + 3 * t) μ' ∧ Ext a μ μ' ∧ ∃ ks : List Lk, μ' b = some (.lst (ks.map Lk.d)) ∧ ks.length ≤ t ∧ ∀ k ∈ ks, k.ok sz)
    ⟨none, none, rfl, p1, ((Ext.refl a μ).set0 hb).trans f1.ext, [], by simpa using hb1, by simp, by simp⟩ ?_ ?_
  · rintro t x hx env μ' ⟨s, e, rfl, p', e', ks, hks, hkl, hok⟩
    obtain ⟨ht, rfl⟩ := rng_get hx
    refine ⟨trivial, fun N hN => ?_⟩
    simp [lotD]
    refine ⟨a, lot.length, rfl, by omega, by omega, _, p', by omega, fun d μ2 ⟨i2, e, a0, a1⟩ p2 f2 => ?_⟩
    subst e
    obtain ⟨x, hx, x0, x1⟩ := at_lot i2 a0 a1
    simp [hx]
    refine ⟨a, lot.length, rfl, by omega, by omega, _, p2, by omega, fun d μ3 ⟨i3, e, b0, b1⟩ p3 f3 => ?_⟩
    subst e
    obtain ⟨y, hy, y0, y1⟩ := at_lot i3 b0 b1
    simp [hy]
    refine ⟨[x, y], rfl, ?_⟩
    obtain ⟨u, v, huv, hle, hmem⟩ : ∃ u v, isort [x, y] = [u, v] ∧ u ≤ v ∧ (∀ z ∈ [u, v], 0 ≤ z ∧ z ≤ 1000000000) := by
      have hl := (isort_perm [x, y]).length_eq
      have hs := isort_sorted [x, y]
      have hm := fun z => (isort_perm [x, y]).mem_iff (a := z)
      generalize isort [x, y] = l at *
      match l, hl with
      | [u, v], _ =>
        refine ⟨u, v, rfl, by simpa using hs, fun z hz => ?_⟩
        have := (hm z).mp hz
        simp only [List.mem_cons, List.not_mem_nil, or_false] at this
        rcases this with rfl | rfl
        · exact ⟨x0, x1⟩
        · exact ⟨y0, y1⟩
    rw [huv]
    have hb3 : μ3 b = some (.lst (ks.map Lk.d)) := by rw [f3 b hba, f2 b hba]; exact hks
    simp [hb3]
    refine ⟨a, (sz : Int) + 1, rfl, by omega, by omega, _, p3, by omega, fun d μ4 ⟨m, e, m0, m1⟩ p4 f4 => ?_⟩
    subst e
    have hb4 : μ4 b = some (.lst (ks.map Lk.d)) := by rw [f4 b hba]; exact hb3
    simp [hb4]
    refine ⟨by omega, ?_⟩
    refine hN _ _ ⟨_, _, rfl, (p4.set hba).up (by omega), (((e'.trans f2.ext).trans f3.ext).trans f4.ext).set hb, ks ++ [⟨m.toNat, u, v⟩], by rw [set_same']; simp [Lk.d, Int.toNat_of_nonneg m0], by simp; omega, fun k hk => ?_⟩
    rcases List.mem_append.mp hk with hk | hk
    · exact hok k hk
    · have : k = ⟨m.toNat, u, v⟩ := by simpa using hk
      subst this
      exact ⟨by show m.toNat ≤ sz; omega, (hmem u (by simp)).1, hle, (hmem v (by simp)).2⟩
  · rintro env μ' ⟨s, e, rfl, p', e', ks, hks, hkl, hok⟩
    refine ⟨trivial, ?_⟩
    simp
    rw [s_oTupleM _ _ _ hks]
    rw [rngD_length] at hkl
    exact drw_end (P := fun d => ∃ ks : List Lk, d = looksD ks ∧ okLooks sz ks ∧ ks.length ≤ l) h ⟨ks, rfl, ⟨by omega, hok⟩, by omega⟩ (p'.up (by omega)) e'
end K
end
section
set_option Elab.async false
set_option linter.all false
set_option maxRecDepth 100000
set_option maxHeartbeats 2000000
namespace PL
open PySem PySem.Spec DL PM
structure okCells (cs : List Seg) : Prop where
  len : cs.length ≤ 60
  ok : ∀ p ∈ cs, 0 ≤ p.1 ∧ p.1 ≤ p.2 ∧ p.2 ≤ 1000000000
  up : cs.Pairwise fun p q => p.2 < q.1
abbrev S__law_cells : DSpec := fun ds μ Q _ => ∃ lot, ds = [lotD lot] ∧ okLot lot ∧ ∀ cs : List Seg, okCells cs → Q (.lst (cs.map segD)) μ
abbrev S__law_top : DSpec := fun ds μ Q _ => ∃ row : List Sk, ∃ x : Int, ds = [.lst (row.map Sk.d), .int x] ∧ row.length ≤ 2000 ∧ Q (optD (topM row x)) μ
def weD (q : Sk × Int) : D := .tup [q.1.d, .int q.2]
abbrev S__law_weave : DSpec := fun ds μ Q _ => ∃ row L, ds = [.lst (row.map Sk.d), layD L] ∧ okRow row ∧ okLay row.length L ∧ ∀ ws : List (Sk × Int), (∀ q ∈ ws, q.1.ok) → ws.length ≤ 2000 → Q (.lst (ws.map weD)) μ
abbrev S__law_fit : DSpec := fun ds μ Q _ => ∃ a cs row L hs, ds = [.ref a, .lst (cs.map segD), .lst (row.map Sk.d), layD L, huesD hs] ∧ okCells cs ∧ okRow row ∧ okLay row.length L ∧ okHues hs ∧ Drw 5 a μ Q fun d => ∃ w, d = wishD w ∧ okWish w
abbrev S__law_wish : DSpec := fun ds μ Q _ => ∃ a lot hs, ds = [.ref a, lotD lot, huesD hs] ∧ okLot lot ∧ okHues hs ∧ Drw 20 a μ Q fun d => ∃ w, d = wishD w ∧ okWish w
end PL
namespace K
open PySem PySem.Spec DL C8 L2 PL PM
noncomputable section
def n__law_cells : List Str := ["lot", "cuts", "k", "place"]
noncomputable def b__law_cells : DSs := (.cons (.asg (.name 1) (.std oSortSet (.cons (.std oAdd (.cons (.std oAdd (.cons (.std oLst (.cons (.con (.int 0)) .nil)) (.cons (.var 0) .nil))) (.cons (.lc false iSeq (.cons (.var 0) .nil) (.name 3) (.cons (.std oLt (.cons (.var 3) (.cons (.std oPow (.cons (.con (.int 10)) (.cons (.con (.int 9)) .nil))) .nil))) .nil) (.std oAdd (.cons (.var 3) (.cons (.con (.int 1)) .nil))) [("place", 3)]) .nil))) .nil)))
  (.cons (.ret (.lc false iRng1 (.cons (.std oLen (.cons (.var 1) .nil)) .nil) (.name 2) .nil (.std oTup (.cons (.std oIx (.cons (.var 1) (.cons (.var 2) .nil))) (.cons (.std oSub (.cons (.std oIx (.cons (.std oAdd (.cons (.var 1) (.cons (.std oLst (.cons (.std oAdd (.cons (.std oPow (.cons (.con (.int 10)) (.cons (.con (.int 9)) .nil))) (.cons (.con (.int 1)) .nil))) .nil)) .nil))) (.cons (.std oAdd (.cons (.var 2) (.cons (.con (.int 1)) .nil))) .nil))) (.cons (.con (.int 1)) .nil))) .nil))) [("k", 2)]))
  .nil))
def n__law_top : List Str := ["some", "place", "found", "k"]
noncomputable def b__law_top : DSs := (.cons (.asg (.name 2) (.lc false iRng1 (.cons (.std oLen (.cons (.var 0) .nil)) .nil) (.name 3) (.cons (.chain true true (.std oIx (.cons (.std oIx (.cons (.var 0) (.cons (.var 3) .nil))) (.cons (.con (.int 0)) .nil))) (.var 1) (.std oIx (.cons (.std oIx (.cons (.var 0) (.cons (.var 3) .nil))) (.cons (.con (.int 1)) .nil)))) .nil) (.var 3) [("k", 3)]))
  (.cons (.ret (.ife (.std oNe (.cons (.var 2) (.cons (.std oLst .nil) .nil))) (.std oIx (.cons (.var 2) (.cons (.std oNeg (.cons (.con (.int 1)) .nil)) .nil))) (.con .non)))
  .nil))
def n__law_weave : List Str := ["some", "laying", "slot", "found", "late"]
noncomputable def b__law_weave : DSs := (.cons (.par [3, 4] (.cons (.std oLstM .nil) (.cons (.con (.int 0)) .nil)))
  (.cons (.for_ iRng1 (.cons (.std oAdd (.cons (.std oLen (.cons (.var 0) .nil)) (.cons (.con (.int 1)) .nil))) .nil) (.name 2)
  (.cons (.while_ (.bop true (.cons (.std oLt (.cons (.var 4) (.cons (.std oLen (.cons (.var 1) .nil)) .nil))) (.cons (.std oEq (.cons (.std oIx (.cons (.std oIx (.cons (.var 1) (.cons (.var 4) .nil))) (.cons (.con (.int 0)) .nil))) (.cons (.var 2) .nil))) .nil)))
  (.cons (.expr (.std oAppend (.cons (.var 3) (.cons (.std oTup (.cons (.std (oSl true false) (.cons (.std oIx (.cons (.var 1) (.cons (.var 4) .nil))) (.cons (.con (.int 1)) .nil))) (.cons (.std oSub (.cons (.std oNeg (.cons (.con (.int 1)) .nil)) (.cons (.var 4) .nil))) .nil))) .nil))))
  (.cons (.asg (.name 4) (.std oAdd (.cons (.var 4) (.cons (.con (.int 1)) .nil))))
  .nil)))
  (.cons (.if_ (.std oLt (.cons (.var 2) (.cons (.std oLen (.cons (.var 0) .nil)) .nil)))
  (.cons (.expr (.std oAppend (.cons (.var 3) (.cons (.std oTup (.cons (.std oIx (.cons (.var 0) (.cons (.var 2) .nil))) (.cons (.var 2) .nil))) .nil))))
  .nil)
  .nil)
  .nil)))
  (.cons (.ret (.frz (.var 3)))
  .nil)))
def n__law_fit : List Str := ["pen", "cells", "some", "laying", "hues", "order", "found", "road", "low", "high", "top", "spot", "hue", "one"]
noncomputable def b__law_fit : DSs := (.cons (.asg (.name 5) (.app (oFn "_law_weave" 2 [] S__law_weave) (.cons (.var 2) (.cons (.var 3) .nil))))
  (.cons (.asg (.name 6) (.std oLstM .nil))
  (.cons (.for_ iSeq (.cons (.var 1) .nil) (.tup (.cons (.name 8) (.cons (.name 9) .nil)))
  (.cons (.asg (.name 10) (.app (oFn "_law_top" 2 [] S__law_top) (.cons (.lc false iSeq (.cons (.var 5) .nil) (.name 13) .nil (.std oIx (.cons (.var 13) (.cons (.con (.int 0)) .nil))) [("one", 13)]) (.cons (.var 8) .nil))))
  (.cons (.if_ (.bop true (.cons (.std oNotN (.cons (.var 10) (.cons (.con .non) .nil))) (.cons (.std oLt (.cons (.std oIx (.cons (.std oIx (.cons (.var 5) (.cons (.var 10) .nil))) (.cons (.con (.int 1)) .nil))) (.cons (.con (.int 0)) .nil))) .nil)))
  (.cons (.asg (.name 12) (.std oIx (.cons (.std oIx (.cons (.std oIx (.cons (.var 5) (.cons (.var 10) .nil))) (.cons (.con (.int 0)) .nil))) (.cons (.con (.int 2)) .nil))))
  (.cons (.if_ (.bop true (.cons (.std oNe (.cons (.var 6) (.cons (.std oLst .nil) .nil))) (.cons (.std oEq (.cons (.std oAdd (.cons (.std oIx (.cons (.std oIx (.cons (.var 6) (.cons (.std oNeg (.cons (.con (.int 1)) .nil)) .nil))) (.cons (.con (.int 1)) .nil))) (.cons (.con (.int 1)) .nil))) (.cons (.var 8) .nil))) (.cons (.std oEq (.cons (.std oIx (.cons (.std oIx (.cons (.var 6) (.cons (.std oNeg (.cons (.con (.int 1)) .nil)) .nil))) (.cons (.con (.int 2)) .nil))) (.cons (.var 12) .nil))) .nil))))
  (.cons (.std stSetIx (.cons (.std oTup (.cons (.std oIx (.cons (.std oIx (.cons (.var 6) (.cons (.std oNeg (.cons (.con (.int 1)) .nil)) .nil))) (.cons (.con (.int 0)) .nil))) (.cons (.var 9) (.cons (.var 12) .nil)))) (.cons (.var 6) (.cons (.std oNeg (.cons (.con (.int 1)) .nil)) .nil))))
  .nil)
  (.cons (.expr (.std oAppend (.cons (.var 6) (.cons (.std oTup (.cons (.var 8) (.cons (.var 9) (.cons (.var 12) .nil)))) .nil))))
  .nil))
  .nil))
  .nil)
  .nil)))
  (.cons (.asg (.name 7) (.app (oFn "_law_draw" 2 [] S__law_draw) (.cons (.var 0) (.cons (.con (.int 6)) .nil))))
  (.cons (.if_ (.bop true (.cons (.std oEq (.cons (.var 7) (.cons (.con (.int 0)) .nil))) (.cons (.std oNe (.cons (.var 6) (.cons (.std oLst .nil) .nil))) .nil)))
  (.cons (.expr (.std oPop (.cons (.var 6) (.cons (.app (oFn "_law_draw" 2 [] S__law_draw) (.cons (.var 0) (.cons (.std oLen (.cons (.var 6) .nil)) .nil))) .nil))))
  .nil)
  .nil)
  (.cons (.if_ (.bop true (.cons (.std oEq (.cons (.var 7) (.cons (.con (.int 1)) .nil))) (.cons (.std oNe (.cons (.var 6) (.cons (.std oLst .nil) .nil))) .nil)))
  (.cons (.asg (.name 11) (.app (oFn "_law_draw" 2 [] S__law_draw) (.cons (.var 0) (.cons (.std oLen (.cons (.var 6) .nil)) .nil))))
  (.cons (.std stSetIx (.cons (.std oAdd (.cons (.std (oSl false true) (.cons (.std oIx (.cons (.var 6) (.cons (.var 11) .nil))) (.cons (.con (.int 2)) .nil))) (.cons (.std oTup (.cons (.std oIx (.cons (.std oAdd (.cons (.var 4) (.cons (.std oLst (.cons (.con .non) .nil)) .nil))) (.cons (.app (oFn "_law_draw" 2 [] S__law_draw) (.cons (.var 0) (.cons (.std oAdd (.cons (.std oLen (.cons (.var 4) .nil)) (.cons (.con (.int 1)) .nil))) .nil))) .nil))) .nil)) .nil))) (.cons (.var 6) (.cons (.var 11) .nil))))
  .nil))
  .nil)
  (.cons (.ret (.std oTuple (.cons (.std (oSl false true) (.cons (.var 6) (.cons (.con (.int 12)) .nil))) .nil)))
  .nil)))))))
def n__law_wish : List Str := ["pen", "lot", "hues", "turn", "found", "start", "rest", "spot", "high", "hue", "place"]
noncomputable def b__law_wish : DSs := (.cons (.asg (.tup (.cons (.name 4) (.cons (.name 5) .nil))) (.std oTup (.cons (.std oLstM .nil) (.cons (.con (.int 0)) .nil))))
  (.cons (.for_ iRng1 (.cons (.app (oFn "_law_draw" 2 [] S__law_draw) (.cons (.var 0) (.cons (.con (.int 4)) .nil))) .nil) (.name 3)
  (.cons (.asg (.name 6) (.lc false iSeq (.cons (.var 1) .nil) (.name 10) (.cons (.std oGe (.cons (.var 10) (.cons (.var 5) .nil))) .nil) (.var 10) [("place", 10)]))
  (.cons (.if_ (.std oNe (.cons (.var 6) (.cons (.std oLst .nil) .nil)))
  (.cons (.asg (.name 7) (.app (oFn "_law_draw" 2 [] S__law_draw) (.cons (.var 0) (.cons (.std oLen (.cons (.var 6) .nil)) .nil))))
  (.cons (.asg (.name 8) (.std oIx (.cons (.var 6) (.cons (.std oMin2 (.cons (.std oSub (.cons (.std oLen (.cons (.var 6) .nil)) (.cons (.con (.int 1)) .nil))) (.cons (.std oAdd (.cons (.var 7) (.cons (.app (oFn "_law_draw" 2 [] S__law_draw) (.cons (.var 0) (.cons (.con (.int 3)) .nil))) .nil))) .nil))) .nil))))
  (.cons (.asg (.name 9) (.std oIx (.cons (.std oAdd (.cons (.var 2) (.cons (.std oLst (.cons (.con .non) .nil)) .nil))) (.cons (.app (oFn "_law_draw" 2 [] S__law_draw) (.cons (.var 0) (.cons (.std oAdd (.cons (.std oLen (.cons (.var 2) .nil)) (.cons (.con (.int 1)) .nil))) .nil))) .nil))))
  (.cons (.expr (.std oAppend (.cons (.var 4) (.cons (.std oTup (.cons (.std oIx (.cons (.var 6) (.cons (.var 7) .nil))) (.cons (.var 8) (.cons (.var 9) .nil)))) .nil))))
  (.cons (.asg (.name 5) (.std oAdd (.cons (.var 8) (.cons (.con (.int 1)) .nil))))
  .nil)))))
  .nil)
  .nil)))
  (.cons (.ret (.std oTuple (.cons (.var 4) .nil)))
  .nil)))
end
theorem rngD_map (n : Nat) : rngD 0 n = (List.range n).map fun i => D.int (i : Nat) := by simp [rngD]
theorem last_filter (c : Nat → Bool) : ∀ (row : List Sk) (x : Int), (∀ i, i < row.length → c i = cov x (row.getD i sk0)) → ((List.range row.length).filter c).getLast? = topM row x := by
  intro row x
  refine snoc_ind (P := fun row => (∀ i, i < row.length → c i = cov x (row.getD i sk0)) → ((List.range row.length).filter c).getLast? = topM row x) (fun _ => rfl) (fun row s ih hc => ?_) row
  have h1 : c row.length = cov x s := by
    rw [hc row.length (by simp), List.getD_eq_getElem?_getD]; simp
  rw [List.length_append, List.length_cons, List.length_nil, List.range_succ, List.filter_append, topM_snoc]
  by_cases e : cov x s = true
  · rw [if_pos e, List.filter_cons, if_pos (by rw [h1]; exact e)]
    simp
  · rw [if_neg e, List.filter_cons, if_neg (by rw [h1]; exact e), List.filter_nil, List.append_nil]
    refine ih fun i hi => ?_
    rw [hc i (by simp; omega), getD_app hi]
theorem vc_top : Vc n__law_top ["some", "place"] b__law_top S__law_top := by
  rintro ds μ Q Ex _ ⟨row, x, rfl, hl, h⟩
  simp [b__law_top, n__law_top]
  rw [rngD_map]
  refine ⟨by omega, fun a ha => ?_⟩
  refine lc_f (fun i : Nat => D.int (i : Nat)) (fun i => cov x (row.getD i sk0)) (fun i : Nat => D.int (i : Nat)) ha (fun _ => trivial) _ [] (fun i hi ys P hP => ?_) (by simp; omega) ?_
  · have hi' : i < row.length := by simpa using hi
    obtain ⟨s, hs⟩ : ∃ s, s = row.getD i sk0 := ⟨_, rfl⟩
    have hat : atI (row.map Sk.d) (i : Int) = some s.d := by rw [hs]; exact at_map (d0 := sk0) hi'
    rw [← hs] at hP
    simp [dTst, hat, Sk.d]
    by_cases c1 : s.lo ≤ x
    · by_cases c2 : x ≤ s.hi
      · have e : cov x s = true := by simp [cov, c1, c2]
        rw [e] at hP
        have := hP [some (.lst (row.map Sk.d)), some (.int x), none, some (.int (i : Nat))] fun _ P' hP' => by simpa using hP'
        simpa [cmpOf, c1, c2, hat, Sk.d] using this
      · have e : cov x s = false := by simp [cov, c1]; omega
        rw [e] at hP
        have := hP [some (.lst (row.map Sk.d)), some (.int x), none, some (.int (i : Nat))] fun z => by cases z
        have c2' : s.hi < x := by omega
        simpa [cmpOf, c1, c2, c2', hat, Sk.d] using this
    · have e : cov x s = false := by simp [cov, c1]
      rw [e] at hP
      have := hP [some (.lst (row.map Sk.d)), some (.int x), none, some (.int (i : Nat))] fun z => by cases z
      have c1' : x < s.lo := by omega
      simpa [cmpOf, c1, c1', hat, Sk.d] using this
  · have hlf := last_filter (fun i => cov x (row.getD i sk0)) row x fun _ _ => rfl
    generalize (List.range row.length).filter (fun i => cov x (row.getD i sk0)) = f at *
    have hpl : plainN 32 (.lst (f.map fun i : Nat => D.int (i : Nat))) = true := by simp [plainN]
    cases q : f.getLast? with
    | none =>
      have : f = [] := by simpa using q
      subst this
      rw [q] at hlf
      rw [← hlf] at h
      simp
      exact ends_of h
    | some k =>
      have e := PM.last_split q
      generalize f.dropLast = init at *
      subst e
      rw [q] at hlf
      rw [← hlf] at h
      simp only [List.map_append, List.map_cons, List.map_nil] at hpl
      simp [hpl]
      exact ends_of h
def cellAt (cuts : List Int) (k : Nat) : Seg := (cuts.getD k 0, (cuts ++ [1000000001]).getD (k + 1) 0 - 1)
theorem up_get {xs : List Int} (h : xs.Pairwise (· < ·)) {i j : Nat} (hij : i < j) (hj : j < xs.length) : xs.getD i 0 < xs.getD j 0 := by
  rw [List.getD_eq_getElem?_getD, List.getD_eq_getElem?_getD, List.getElem?_eq_getElem hj, List.getElem?_eq_getElem (by omega)]
  exact List.pairwise_iff_getElem.mp h i j (by omega) hj hij
theorem cells_ok {cuts : List Int} (h : cuts.Pairwise (· < ·)) (hb : ∀ c ∈ cuts, 0 ≤ c ∧ c ≤ 1000000000) (hl : cuts.length ≤ 60) : okCells ((List.range cuts.length).map (cellAt cuts)) := by
  have hu : (cuts ++ [1000000001]).Pairwise (· < ·) := by
    rw [List.pairwise_append]
    refine ⟨h, by simp, fun a ha b hb' => ?_⟩
    have := hb a ha
    simp at hb'; omega
  have hlen : (cuts ++ [1000000001]).length = cuts.length + 1 := by simp
  have hg : ∀ k, k < cuts.length → (cuts ++ [1000000001]).getD k 0 = cuts.getD k 0 := fun k hk => getD_app hk
  have hin : ∀ k, k ≤ cuts.length → 0 ≤ (cuts ++ [1000000001]).getD k 0 ∧ (cuts ++ [1000000001]).getD k 0 ≤ 1000000001 := fun k hk => by
    by_cases c : k < cuts.length
    · rw [hg k c]
      have : cuts.getD k 0 ∈ cuts := by rw [List.getD_eq_getElem?_getD, List.getElem?_eq_getElem c]; exact List.getElem_mem c
      have := hb _ this; omega
    · have : k = cuts.length := by omega
      subst this
      rw [List.getD_eq_getElem?_getD]; simp
  refine ⟨by simpa using hl, fun p hp => ?_, ?_⟩
  · obtain ⟨k, hk, rfl⟩ := List.mem_map.mp hp
    have hk' : k < cuts.length := by simpa using hk
    have h1 := up_get hu (i := k) (j := k + 1) (by omega) (by omega)
    rw [hg k hk'] at h1
    have h2 := hin (k + 1) (by omega)
    have h3 := hin k (by omega)
    rw [hg k hk'] at h3
    unfold cellAt
    dsimp only
    omega
  · rw [List.pairwise_map]
    refine List.Pairwise.imp_of_mem (R := (· < ·)) (fun {i j} hi hj hij => ?_) List.pairwise_lt_range
    have hj' : j < cuts.length := by simpa using hj
    unfold cellAt
    dsimp only
    rcases Nat.lt_or_ge (i + 1) j with c | c
    · have h1 := up_get hu (i := i + 1) (j := j) c (by omega)
      rw [hg j hj'] at h1; omega
    · have : j = i + 1 := by omega
      subst this
      rw [hg _ hj']; omega
theorem vc_cells : Vc n__law_cells ["lot"] b__law_cells S__law_cells := by
  rintro ds μ Q Ex _ ⟨lot, rfl, hlot, h⟩
  have hpw : CPow 10 9 := ⟨by omega, by omega, by decide⟩
  have h20 := hlot.len
  simp [b__law_cells, n__law_cells, lotD, hpw]
  refine ⟨by omega, fun a ha => ?_⟩
  refine lc_f D.int (fun p => decide (p < 1000000000)) (fun p => D.int (p + 1)) ha (fun _ => trivial) lot [] (fun p hp ys P hP => ?_) (by simp; omega) ?_
  · by_cases c : p < 1000000000
    · simp [dTst, c, hpw] at hP ⊢
      exact hP _ fun P' hP' => by simpa using hP'
    · simp [dTst, c, hpw] at hP ⊢
      exact hP _
  · have hfl := List.length_filter_le (fun p : Int => decide (p < 1000000000)) lot
    simp
    refine ⟨by omega, 0 :: (lot ++ (lot.filter fun p => decide (p < 1000000000)).map fun p => p + 1), by simp [Function.comp_def], by simp; omega, fun out ho hm => ?_⟩
    have hol : out.length ≤ 41 := by
      have nd : out.Nodup := ho.imp fun h => by omega
      have := nodup_len nd fun x hx => (hm x).mp hx
      simp at this; omega
    have hob : ∀ c ∈ out, 0 ≤ c ∧ c ≤ 1000000000 := fun c hc => by
      have := (hm c).mp hc
      simp only [List.mem_cons, List.mem_append, List.mem_map, List.mem_filter, decide_eq_true_eq] at this
      rcases this with rfl | this | ⟨p, ⟨hp, h1⟩, rfl⟩
      · omega
      · exact hlot.ok c this
      · have := hlot.ok p hp; omega
    refine ⟨by omega, fun b hb => ?_⟩
    rw [rngD_map]
    refine lc_m (fun i : Nat => D.int (i : Nat)) (fun k => segD (cellAt out k)) hb (fun _ => trivial) _ (fun k hk ys P hP => ?_) (by simp; omega) ?_
    · have hk' : k < out.length := by simpa using hk
      have e1 : atI (out.map D.int) (k : Int) = some (.int (out.getD k 0)) := at_map (d0 := 0) hk'
      have e2 : atI ((out ++ [1000000001]).map D.int) ((k + 1 : Nat) : Int) = some (.int ((out ++ [1000000001]).getD (k + 1) 0)) := at_map (d0 := 0) (by simp; omega)
      simp only [List.map_append, List.map_cons, List.map_nil] at e2
      have e3 : ((k + 1 : Nat) : Int) = (k : Int) + 1 := by omega
      rw [e3] at e2
      simp [e1, hpw, e2]
      refine ⟨by omega, ?_⟩
      simpa [segD, cellAt] using hP
    · have := h _ (cells_ok ho hob (by omega))
      rw [List.map_map] at this
      exact ends_of this
end K
end
section
set_option Elab.async false
set_option linter.all false
set_option maxRecDepth 100000
set_option maxHeartbeats 2000000
namespace K
open PySem PySem.Spec DL C8 L2 PL PM
theorem vc_weave : Vc n__law_weave ["some", "laying"] b__law_weave S__law_weave := by
  rintro ds μ Q Ex _ ⟨row, L, rfl, hr, hL, h⟩
  have hrl := hr.len
  have hLl := hL.len
  simp [b__law_weave, n__law_weave, setAll]
  intro a ha
  refine ⟨by omega, by omega, ?_⟩
  rw [rngD_map]
  refine for_map (fun pre env μ' => ∃ s, ∃ late : Nat, ∃ ws : List (Sk × Int), env = [some (.lst (row.map Sk.d)), some (layD L), s, some (.ref a), some (.int (late : Nat))] ∧ μ' = μ.set a (.lst (ws.map weD)) ∧ late ≤ L.length ∧ (∀ q ∈ ws, q.1.ok) ∧ ws.length ≤ min pre.length row.length + late) ⟨none, 0, [], rfl, rfl, by omega, by simp, by simp⟩ ?_ ?_
  · rintro pre slot post hp env μ' ⟨s, late, ws, rfl, rfl, hla, hok, hlen⟩
    refine ⟨trivial, fun N hN => ?_⟩
    have hsl : slot = pre.length := by
      have h1 : (List.range (row.length + 1))[pre.length]? = some slot := by rw [hp]; simp
      have h2 := (List.getElem?_eq_some_iff.mp h1).1
      rw [List.getElem?_range (by simpa using h2)] at h1
      simpa using h1.symm
    have hpl : pre.length < row.length + 1 := by
      have := congrArg List.length hp
      simp at this; omega
    simp
    refine ⟨fun n env μ' => ∃ late : Nat, ∃ ws : List (Sk × Int), n = L.length - late ∧ env = [some (.lst (row.map Sk.d)), some (layD L), some (.int (slot : Nat)), some (.ref a), some (.int (late : Nat))] ∧ μ' = μ.set a (.lst (ws.map weD)) ∧ late ≤ L.length ∧ (∀ q ∈ ws, q.1.ok) ∧ ws.length ≤ min pre.length row.length + late, ⟨L.length - late, late, ws, rfl, rfl, rfl, hla, hok, hlen⟩, ?_⟩
    rintro n env μ' ⟨late, ws, rfl, rfl, rfl, hla, hok, hlen⟩
    have cont : (row.length ≤ slot ∧ N [some (D.lst (List.map Sk.d row)), some (D.tup (List.map Pt.d L)), some (D.int ↑slot), some (D.ref a), some (D.int ↑late)] (μ.set a (MO.lst (List.map weD ws))) ∨
        slot < row.length ∧ ∃ d, atI (List.map Sk.d row) ↑slot = some d ∧ ws.length < 16777216 ∧
            N [some (D.lst (List.map Sk.d row)), some (D.tup (List.map Pt.d L)), some (D.int ↑slot), some (D.ref a), some (D.int ↑late)] (μ.set a (MO.lst (List.map weD ws ++ [D.tup [d, D.int ↑slot]])))) := by
      by_cases c3 : slot < row.length
      · refine .inr ⟨c3, _, at_map (d0 := sk0) c3, by omega, hN _ _ ⟨_, late, ws ++ [(row.getD slot sk0, (slot : Int))], rfl, by simp [weD], hla, fun q hq => ?_, ?_⟩⟩
        · rcases List.mem_append.mp hq with hq | hq
          · exact hok q hq
          · simp at hq; subst hq
            refine hr.ok _ ?_
            show row.getD slot sk0 ∈ row
            rw [List.getD_eq_getElem?_getD, List.getElem?_eq_getElem c3]; exact List.getElem_mem c3
        · simp only [List.length_append, List.length_cons, List.length_nil]; omega
      · exact .inl ⟨by omega, hN _ _ ⟨_, late, ws, rfl, rfl, hla, hok, by simp only [List.length_append, List.length_cons, List.length_nil]; omega⟩⟩
    by_cases c1 : late < L.length
    · obtain ⟨p, hpd⟩ : ∃ p, p = L.getD late pt0 := ⟨_, rfl⟩
      have hat : atI (L.map Pt.d) (late : Int) = some p.d := by rw [hpd]; exact at_map (d0 := pt0) c1
      have hpm : p ∈ L := by rw [hpd, List.getD_eq_getElem?_getD, List.getElem?_eq_getElem c1]; exact List.getElem_mem c1
      have hpo := (hL.ok p hpm).2.2
      by_cases c2 : p.slot = (slot : Int)
      · simp [layD, c1, hat, Pt.d, c2]
        refine ⟨by omega, L.length - (late + 1), by omega, late + 1, rfl, by omega, ws ++ [(p.s, -1 - (late : Int))], by simp [weD, Sk.d], by omega, fun s b hq => ?_, by simp only [List.length_append, List.length_cons, List.length_nil]; omega⟩
        rcases List.mem_append.mp hq with hq | hq
        · exact hok _ hq
        · simp at hq; rw [hq.1]; exact hpo
      · simp [layD, c1, hat, Pt.d, c2]
        exact cont
    · simp [layD, c1]
      first | exact cont | exact ⟨by omega, cont⟩
  · rintro env μ' ⟨s, late, ws, rfl, rfl, hla, hok, hlen⟩
    refine ⟨trivial, ?_⟩
    simp at hlen
    simp
    refine ⟨μ, Mem.Sub.set ha, ha, ends_of (h ws hok (by omega))⟩
end K
end
section
set_option Elab.async false
set_option linter.all false
set_option maxRecDepth 100000
set_option maxHeartbeats 2000000
namespace K
open PySem PySem.Spec DL C8 L2 PL PM
structure fsOk (fs : List Wi) : Prop where
  ok : ∀ p ∈ fs, 0 ≤ p.lo ∧ p.lo ≤ p.hi ∧ p.hi ≤ 1000000000 ∧ ∀ c, p.v = some c → colOk c
  up : fs.Pairwise fun p q => p.hi < q.lo
  len : fs.length ≤ 60
theorem plain_pcs {fs : List Wi} (h : ∀ p ∈ fs, ∀ c, p.v = some c → colOk c) : plainN 32 (.lst (fs.map pcD)) = true := by
  have : ∀ p ∈ fs, plainN 31 (pcD p) = true := fun p hp => plain_pa (p := p.map colD) (plain_colD (fun s hs => (h p hp s hs).fine) 30)
  simpa [plainN] using this
theorem wish_cut {fs : List Wi} (h : fsOk fs) : okWish (fs.take 12) :=
  ⟨by simp; omega, fun p hp => h.ok p (List.mem_of_mem_take hp), h.up.sublist (List.take_sublist _ _)⟩
theorem cut12 (fs : List Wi) : cutD (fs.map pcD) none (some 12) = (fs.take 12).map pcD := by
  unfold cutD
  have : HT.sIx (fs.map pcD).length (fs.map pcD).length (some ((12 : Nat) : Int)) = min 12 (fs.map pcD).length := HT.sIx_nat _ _ 12
  have e : ((12 : Nat) : Int) = 12 := rfl
  rw [e] at this
  rw [this, HT.sIx_none]
  simp [List.map_take]
theorem map_erase {α β : Type} (f : α → β) : ∀ (xs : List α) (i : Nat), (xs.map f).eraseIdx i = (xs.eraseIdx i).map f
  | [], _ => rfl
  | x :: xs, 0 => rfl
  | x :: xs, i + 1 => by simp only [List.map_cons, List.eraseIdx_cons_succ, map_erase f xs i]
theorem vc_fit : Vc n__law_fit ["pen", "cells", "some", "laying", "hues"] b__law_fit S__law_fit := by
  rintro ds μ Q Ex _ ⟨a, cs, row, L, hs, rfl, hcs, hr, hL, hhs, n, hp, hn, h⟩
  have hcl := hcs.len
  have hh4 := hhs.len
  have hh2 := hhs.some
  simp [b__law_fit, n__law_fit]
  refine ⟨row, L, rfl, hr, hL, fun ws hws hwl => ?_⟩
  simp
  intro b hb
  have hba := hp.ne hb
  have fin : ∀ fs M, M b = some (.lst (fs.map pcD)) → Pen a (n + 5) M → Ext a μ M → fsOk fs → ends Q (.tup (cutD (fs.map pcD) none (some 12))) M := fun fs M hM hpen he hf => by
    rw [cut12]
    exact drw_end (P := fun d => ∃ w, d = wishD w ∧ okWish w) h ⟨_, rfl, wish_cut hf⟩ hpen he
  refine for_map (fun pre env μ' => ∃ s7 s8 s9 s10 s11 s12, ∃ fs : List Wi, env = [some (.ref a), some (.lst (cs.map segD)), some (.lst (row.map Sk.d)), some (layD L), some (huesD hs), some (.lst (ws.map weD)), some (.ref b), s7, s8, s9, s10, s11, s12, none] ∧ μ' = μ.set b (.lst (fs.map pcD)) ∧
    (∀ p ∈ fs, 0 ≤ p.lo ∧ p.lo ≤ p.hi ∧ p.hi ≤ 1000000000 ∧ ∀ c, p.v = some c → colOk c) ∧ (fs.Pairwise fun p q => p.hi < q.lo) ∧ fs.length ≤ pre.length ∧ ∀ p ∈ fs, ∀ q ∈ cs.drop pre.length, p.hi < q.1) ⟨none, none, none, none, none, none, [], rfl, rfl, by simp, by simp, by simp, by simp⟩ ?_ ?_
  · rintro pre c post hpc env μ' ⟨s7, s8, s9, s10, s11, s12, fs, rfl, rfl, f1, f2, f3, f4⟩
    refine ⟨trivial, fun N hN => ?_⟩
    have hcm : c ∈ cs := by rw [hpc]; simp
    have hco := hcs.ok c hcm
    have hdrop : cs.drop pre.length = c :: post := by rw [hpc]; simp
    have hdrop1 : cs.drop (pre ++ [c]).length = post := by rw [hpc]; simp
    have hcup : ∀ q ∈ post, c.2 < q.1 := by
      have := hcs.up
      rw [hpc, List.pairwise_append] at this
      exact (List.pairwise_cons.mp this.2.1).1
    have hprl : pre.length < cs.length := by rw [hpc]; simp
    simp [segD]
    intro e he
    refine lc_m weD (fun q => q.1.d) he (fun _ => trivial) ws (fun q hq ys P hP => ?_) (by simp; omega) ?_
    · simp [weD]
      exact hP
    · refine ⟨ws.map (·.1), c.1, by simp [List.map_map, Function.comp_def], by simp; omega, ?_⟩
      have hpf : plainN 32 (.lst (fs.map pcD)) = true := plain_pcs fun p hp => (f1 p hp).2.2.2
      have same : ∀ s7 s8 s9 s10 s11 s12, N [some (.ref a), some (.lst (cs.map segD)), some (.lst (row.map Sk.d)), some (layD L), some (huesD hs), some (.lst (ws.map weD)), some (.ref b), s7, s8, s9, s10, s11, s12, none] (μ.set b (.lst (fs.map pcD))) := fun s7 s8 s9 s10 s11 s12 =>
        hN _ _ ⟨s7, s8, s9, s10, s11, s12, fs, rfl, rfl, f1, f2, by simp; omega, fun p hp q hq => f4 p hp q (by rw [hdrop]; rw [hdrop1] at hq; simp [hq])⟩
      cases ht : topM (ws.map (·.1)) c.1 with
      | none =>
        simp [optD, DL.isNon]
        exact same _ _ _ _ _ _
      | some t =>
        have htl := top_lt ht
        simp at htl
        obtain ⟨q, hq⟩ : ∃ q, q = ws.getD t (sk0, 0) := ⟨_, rfl⟩
        have hat : atI (ws.map weD) (t : Int) = some (weD q) := by rw [hq]; exact at_map (d0 := (sk0, 0)) htl
        have hqo : q.1.ok := by
          refine hws q ?_
          rw [hq, List.getD_eq_getElem?_getD, List.getElem?_eq_getElem htl]; exact List.getElem_mem htl
        have hcol : colOk q.1.col := hqo.2.2.2
        have hpc : plainN 32 (.str q.1.col) = true := by simpa [plainN] using hcol.fine
        have more : ∀ s7 s8 s9 s10 s11 s12, N [some (.ref a), some (.lst (cs.map segD)), some (.lst (row.map Sk.d)), some (layD L), some (huesD hs), some (.lst (ws.map weD)), some (.ref b), s7, s8, s9, s10, s11, s12, none] (μ.set b (.lst (fs.map pcD ++ [.tup [.int c.1, .int c.2, .str q.1.col]]))) := fun s7 s8 s9 s10 s11 s12 =>
          hN _ _ ⟨s7, s8, s9, s10, s11, s12, fs ++ [⟨c.1, c.2, some q.1.col⟩], rfl, by simp [pcD, Pa.d, Pa.map, colD], fun p hp => by
            rcases List.mem_append.mp hp with hp | hp
            · exact f1 p hp
            · simp at hp; subst hp
              exact ⟨hco.1, hco.2.1, hco.2.2, fun z hz => by cases hz; exact hcol⟩, by
            rw [List.pairwise_append]
            exact ⟨f2, by simp, fun p hp r hr => by simp at hr; subst hr; exact f4 p hp c (by rw [hdrop]; simp)⟩, by simp; omega, fun p hp r hr => by
            rw [hdrop1] at hr
            rcases List.mem_append.mp hp with hp | hp
            · exact f4 p hp r (by rw [hdrop]; simp [hr])
            · simp at hp; subst hp; exact hcup r hr⟩
        by_cases c1 : q.2 < 0
        · simp [optD, DL.isNon, hat, weD, c1, Sk.d, hpf]
          cases hl : fs.getLast? with
          | none =>
            have : fs = [] := by simpa using hl
            subst this
            exact .inl ⟨rfl, by simp, more _ _ _ _ _ _⟩
          | some r =>
            have er := PM.last_split hl
            have hfl : fs.length ≤ 60 := by omega
            refine .inr ⟨by intro z; subst z; simp at hl, pcD r, by rw [er, List.map_append]; simp, ?_⟩
            have hat2 : atI (fs.map pcD) (-1) = some (pcD r) := by rw [er, List.map_append]; simp
            have hrf := f1 r (by rw [er]; simp)
            have hpr : plainN 32 (colD r.v) = true := plain_colD (fun s hs => (hrf.2.2.2 s hs).fine) 32
            by_cases c2 : r.hi + 1 = c.1
            · by_cases c3 : r.v = some q.1.col
              · have c3' : DL.same (colD r.v) (.str q.1.col) = true := by rw [c3]; exact DL.same_self _
                simp [pcD, Pa.d, Pa.map, c2, hat2, hpr, look_plain hpr, hpc, c3']
                generalize fs.dropLast = init at *
                subst er
                refine ⟨init.length, by rw [List.length_append]; exact ix_last _, ?_⟩
                have e3 : (((init ++ [r]).map pcD).set init.length (D.tup [.int r.lo, .int c.2, .str q.1.col])) = (init ++ [(⟨r.lo, c.2, some q.1.col⟩ : Wi)]).map pcD := by
                  rw [List.map_append, List.map_append, List.set_append_right _ _ (by simp)]; simp [pcD, Pa.d, Pa.map, colD]
                rw [e3]
                have hup := List.pairwise_append.mp f2
                simp only [List.length_append, List.length_cons, List.length_nil] at f3
                refine hN _ _ ⟨_, _, _, _, _, _, init ++ [⟨r.lo, c.2, some q.1.col⟩], rfl, rfl, fun p hp => ?_, ?_, by simp only [List.length_append, List.length_cons, List.length_nil]; omega, fun p hp u hu => ?_⟩
                · rcases List.mem_append.mp hp with hp | hp
                  · exact f1 p (by simp [hp])
                  · simp at hp; subst hp
                    exact ⟨hrf.1, by dsimp only; have := hco.2.1; have := hrf.2.1; omega, hco.2.2, fun z hz => by cases hz; exact hcol⟩
                · rw [List.pairwise_append]
                  exact ⟨hup.1, by simp, fun p hp u hu => by simp at hu; subst hu; exact hup.2.2 p hp r (by simp)⟩
                · rw [hdrop1] at hu
                  rcases List.mem_append.mp hp with hp | hp
                  · exact f4 p (by simp [hp]) u (by rw [hdrop]; simp [hu])
                  · simp at hp; subst hp; exact hcup u hu
              · have c3' : DL.same (colD r.v) (.str q.1.col) = false := DL.same_of_ne (fun z => c3 (colD_inj (b := some q.1.col) z))
                simp [pcD, Pa.d, Pa.map, c2, hat2, hpr, look_plain hpr, hpc, c3']
                exact ⟨by omega, more _ _ _ _ _ _⟩
            · simp [pcD, Pa.d, Pa.map, c2]
              exact ⟨by omega, more _ _ _ _ _ _⟩
        · simp [optD, DL.isNon, hat, weD, c1]
          first | exact same _ _ _ _ _ _ | exact ⟨by omega, same _ _ _ _ _ _⟩
  · rintro env μ' ⟨s7, s8, s9, s10, s11, s12, fs, rfl, rfl, f1, f2, f3, f4⟩
    refine ⟨trivial, ?_⟩
    have hf : fsOk fs := ⟨f1, f2, by omega⟩
    simp
    refine ⟨a, 6, rfl, by omega, by omega, n, hp.set hba, by omega, fun d M ⟨i, ei, i0, i1⟩ p1 fr1 => ?_⟩
    subst ei
    have hM : M b = some (.lst (fs.map pcD)) := by rw [fr1 b hba]; exact Mem.set_same ..
    have eM : Ext a μ M := ((Ext.refl a μ).set0 hb).trans fr1.ext
    have hpf : plainN 32 (.lst (fs.map pcD)) = true := plain_pcs fun p hp => (f1 p hp).2.2.2
    have hlk : look M (.ref b) = .lst (fs.map pcD) := look_ref hM
    have hlast : ends Q (.tup (cutD (fs.map pcD) none (some 12))) M := fin fs M hM (p1.up (by omega)) eM hf
    have e12 : ∀ (fs : List Wi) (M : Mem), M b = some (.lst (fs.map pcD)) → ends Q (.tup (cutD (fs.map pcD) none (some 12))) M → (oSl false true).o.sem [.ref b, .int 12] M (fun x μ1 => oTuple.o.sem [x] μ1 (ends Q) Ex) Ex := fun fs M hM h => by
      rw [s_oSlM2 _ _ _ hM]; simpa using h
    have hlen0 : fs ≠ [] → 0 < fs.length := fun h => by cases fs with
      | nil => exact absurd rfl h
      | cons => simp
    have fl60 := hf.len
    by_cases hi0 : i = 0
    · subst hi0
      by_cases hnil : fs = []
      · subst hnil
        simp [hlk, hpf]
        exact e12 [] M hM hlast
      · simp [hlk, hpf, hnil]
        rw [s_oLenM _ _ _ hM]
        have := hlen0 hnil
        refine ⟨⟨_, hM⟩, a, fs.length, by simp, by omega, by omega, n + 1, p1, by omega, fun d M2 ⟨j, ej, j0, j1⟩ p2 fr2 => ?_⟩
        subst ej
        have hM2 : M2 b = some (.lst (fs.map pcD)) := by rw [fr2 b hba]; exact hM
        have hj : j.toNat < fs.length := by omega
        simp
        refine ⟨_, hM2, by omega, by omega, j.toNat, ?_, ⟨_, List.getElem?_eq_getElem (by simpa using hj)⟩, ?_⟩
        · have : seqIndex? j (fs.map pcD).length = some j.toNat := by
            have hjl : j < ((fs.map pcD).length : Int) := by simp; omega
            have hj0 : ¬ j < 0 := by omega
            simp [seqIndex?, hj0, hjl, j0]
            omega
          exact this
        · rw [map_erase]
          have hf2 : fsOk (fs.eraseIdx j.toNat) := ⟨fun p hp => f1 p (List.mem_of_mem_eraseIdx hp), f2.sublist (List.eraseIdx_sublist ..), Nat.le_trans (List.eraseIdx_sublist ..).length_le fl60⟩
          exact e12 _ _ (Mem.set_same ..) (fin _ _ (Mem.set_same ..) ((p2.set hba).up (by omega)) ((eM.trans fr2.ext).set hb) hf2)
    · by_cases hi1 : i = 1
      · subst hi1
        by_cases hnil : fs = []
        · subst hnil
          simp [hlk, hpf]
          exact e12 [] M hM hlast
        · simp [hlk, hpf, hnil]
          rw [s_oLenM _ _ _ hM]
          have := hlen0 hnil
          refine ⟨a, fs.length, by simp, by omega, by omega, n + 1, p1, by omega, fun d M2 ⟨j, ej, j0, j1⟩ p2 fr2 => ?_⟩
          subst ej
          have hM2 : M2 b = some (.lst (fs.map pcD)) := by rw [fr2 b hba]; exact hM
          have hj : j.toNat < fs.length := by omega
          have hjn : ((j.toNat : Nat) : Int) = j := by omega
          have hat : atI (fs.map pcD) j = some (pcD (fs.getD j.toNat ⟨0, 0, none⟩)) := by
            have := at_map (f := pcD) (d0 := (⟨0, 0, none⟩ : Wi)) hj
            rw [hjn] at this; exact this
          obtain ⟨r, hr2⟩ : ∃ r, r = fs.getD j.toNat ⟨0, 0, none⟩ := ⟨_, rfl⟩
          have hrm : r ∈ fs := by rw [hr2, List.getD_eq_getElem?_getD, List.getElem?_eq_getElem hj]; exact List.getElem_mem hj
          rw [← hr2] at hat
          rw [ixR hM2]
          refine ⟨_, hat, ?_⟩
          simp [pcD, Pa.d, Pa.map, huesD]
          refine ⟨by omega, a, (hs.length : Int) + 1, rfl, by omega, by omega, n + 1 + 1, p2, by omega, fun d M3 ⟨k, ek, k0, k1⟩ p3 fr3 => ?_⟩
          subst ek
          have hM3 : M3 b = some (.lst (fs.map pcD)) := by rw [fr3 b hba]; exact hM2
          obtain ⟨v, hv, hvc⟩ : ∃ v : Option Str, atI (hs.map D.str ++ [D.non]) k = some (colD v) ∧ ∀ c, v = some c → colOk c := by
            have hkn : ((k.toNat : Nat) : Int) = k := by omega
            by_cases ck : k.toNat < hs.length
            · refine ⟨some hs[k.toNat], ?_, fun c hc => ?_⟩
              · have key : atI (hs.map D.str ++ [D.non]) ((k.toNat : Nat) : Int) = some (colD (some hs[k.toNat])) := by
                  refine DL.atI_nat ?_
                  rw [List.getElem?_append_left (by simpa using ck), List.getElem?_map, List.getElem?_eq_getElem ck]
                  rfl
                rw [hkn] at key; exact key
              · cases hc
                exact hue_col (hhs.ok _ (List.getElem_mem ck))
            · refine ⟨none, ?_, by simp⟩
              have e : k.toNat = hs.length := by omega
              have key : atI (hs.map D.str ++ [D.non]) ((k.toNat : Nat) : Int) = some (colD none) := by
                refine DL.atI_nat ?_
                rw [e, List.getElem?_append_right (by simp)]
                simp [colD]
              rw [hkn] at key; exact key
          simp [hv]
          refine .inl ⟨_, hM3, j.toNat, ?_, ?_⟩
          · simp [ixN, j0]
            omega
          · have e4 : (fs.map pcD).set j.toNat (D.tup [.int r.lo, .int r.hi, colD v]) = (fs.set j.toNat ⟨r.lo, r.hi, v⟩).map pcD := by
              rw [List.map_set]; rfl
            rw [e4]
            have hgr : fs[j.toNat]? = some r := by
              rw [hr2, List.getD_eq_getElem?_getD, List.getElem?_eq_getElem hj]; rfl
            have hf2 : fsOk (fs.set j.toNat ⟨r.lo, r.hi, v⟩) := by
              refine ⟨fun p hp => ?_, ?_, by simpa using fl60⟩
              · rcases List.mem_or_eq_of_mem_set hp with hp | rfl
                · exact f1 p hp
                · have := f1 r hrm
                  exact ⟨this.1, this.2.1, this.2.2.1, hvc⟩
              · have : (fs.set j.toNat (⟨r.lo, r.hi, v⟩ : Wi)).map Pa.sp = fs.map Pa.sp := by
                  rw [List.map_set]
                  apply List.ext_getElem?
                  intro i
                  rw [List.getElem?_set]
                  split
                  · rename_i e; subst e
                    split
                    · rw [List.getElem?_map, hgr]; rfl
                    · rename_i c; exact absurd (by simpa using hj) c
                  · rfl
                have h1 : (fs.map Pa.sp).Pairwise fun p q => p.2 < q.1 := by rw [List.pairwise_map]; exact f2
                rw [← this, List.pairwise_map] at h1
                exact h1
            exact e12 _ _ (Mem.set_same ..) (fin _ _ (Mem.set_same ..) ((p3.set hba).up (by omega)) (((eM.trans fr2.ext).trans fr3.ext).set hb) hf2)
      · simp [hi0, hi1, hlk, hpf]
        exact e12 fs M hM hlast
end K
end
section
set_option Elab.async false
set_option linter.all false
set_option maxRecDepth 100000
set_option maxHeartbeats 2000000
namespace K
open PySem PySem.Spec DL C8 L2 PL PM
theorem hue_at {hs : List Str} (hhs : okHues hs) {k : Int} (k0 : 0 ≤ k) (k1 : k < (hs.length : Int) + 1) : ∃ v : Option Str, atI (hs.map D.str ++ [D.non]) k = some (colD v) ∧ ∀ c, v = some c → colOk c := by
  have hkn : ((k.toNat : Nat) : Int) = k := by omega
  by_cases ck : k.toNat < hs.length
  · refine ⟨some hs[k.toNat], ?_, fun c hc => ?_⟩
    · have key : atI (hs.map D.str ++ [D.non]) ((k.toNat : Nat) : Int) = some (colD (some hs[k.toNat])) := by
        refine DL.atI_nat ?_
        rw [List.getElem?_append_left (by simpa using ck), List.getElem?_map, List.getElem?_eq_getElem ck]
        rfl
      rw [hkn] at key; exact key
    · cases hc
      exact hue_col (hhs.ok _ (List.getElem_mem ck))
  · refine ⟨none, ?_, by simp⟩
    have e : k.toNat = hs.length := by omega
    have key : atI (hs.map D.str ++ [D.non]) ((k.toNat : Nat) : Int) = some (colD none) := by
      refine DL.atI_nat ?_
      rw [e, List.getElem?_append_right (by simp)]
      simp [colD]
    rw [hkn] at key; exact key
theorem vc_wish : Vc n__law_wish ["pen", "lot", "hues"] b__law_wish S__law_wish := by
  rintro ds μ Q Ex _ ⟨a, lot, hs, rfl, hlot, hhs, n, hp, hn, h⟩
  have hh4 := hhs.len
  have hh2 := hhs.some
  have hl20 := hlot.len
  simp [b__law_wish, n__law_wish]
  intro b hb
  have hba := hp.ne hb
  refine ⟨a, 4, rfl, by omega, by omega, n, hp.set hba, by omega, fun d μ1 ⟨i, e, i0, i1⟩ p1 f1 => ?_⟩
  subst e
  simp
  refine ⟨by omega, by omega, ?_⟩
  have hb1 : μ1 b = some (.lst []) := by rw [f1 b hba]; exact Mem.set_same ..
  rw [rngD_map]
  refine for_map (fun pre env μ' => ∃ s3 s6 s7 s8 s9, ∃ start : Int, ∃ fs : List Wi, env = [some (.ref a), some (lotD lot), some (huesD hs), s3, some (.ref b), some (.int start), s6, s7, s8, s9, none] ∧ Pen a (n + 1 + 3 * pre.length) μ' ∧ Ext a μ μ' ∧ μ' b = some (.lst (fs.map pcD)) ∧
    (∀ p ∈ fs, 0 ≤ p.lo ∧ p.lo ≤ p.hi ∧ p.hi ≤ 1000000000 ∧ ∀ c, p.v = some c → colOk c) ∧ (fs.Pairwise fun p q => p.hi < q.lo) ∧ fs.length ≤ pre.length ∧ ∀ p ∈ fs, p.hi < start) ⟨none, none, none, none, none, 0, [], rfl, by simpa using p1, ((Ext.refl a μ).set0 hb).trans f1.ext, by simpa using hb1, by simp, by simp, by simp, by simp⟩ ?_ ?_
  · rintro pre t post hpp env μ' ⟨s3, s6, s7, s8, s9, start, fs, rfl, p', e', hM, g1, g2, g3, g4⟩
    refine ⟨trivial, fun N hN => ?_⟩
    have hpl : pre.length < 4 := by
      have := congrArg List.length hpp
      simp at this; omega
    simp [lotD]
    intro c hc
    refine lc_f D.int (fun x => decide (start ≤ x)) D.int hc (fun _ => trivial) lot [] (fun x hx ys P hP => ?_) (by simp; omega) ?_
    · by_cases c1 : start ≤ x
      · simp [dTst, c1] at hP ⊢
        exact hP _ fun P' hP' => by simpa using hP'
      · simp [dTst, c1] at hP ⊢
        exact hP _
    · have hr1 : ∀ x ∈ lot.filter (fun x => decide (start ≤ x)), 0 ≤ x ∧ x ≤ 1000000000 ∧ start ≤ x := fun x hx => by
        rw [List.mem_filter] at hx
        have := hlot.ok x hx.1
        have h2 : start ≤ x := by simpa using hx.2
        omega
      have hr2 : (lot.filter fun x => decide (start ≤ x)).Pairwise (· < ·) := hlot.up.sublist List.filter_sublist
      have hr3 : (lot.filter fun x => decide (start ≤ x)).length ≤ 20 := Nat.le_trans (List.length_filter_le _ _) hl20
      generalize lot.filter (fun x => decide (start ≤ x)) = rest at *
      have hpr : plainN 32 (.lst (rest.map D.int)) = true := plain_ints rest 31
      by_cases hnil : rest = []
      · subst hnil
        simp
        exact hN _ _ ⟨_, _, s7, s8, s9, start, fs, rfl, p'.up (by simp; omega), e', hM, g1, g2, by simp; omega, g4⟩
      · have hr4 : 0 < rest.length := by cases rest with
          | nil => exact absurd rfl hnil
          | cons => simp
        have at_rest : ∀ i : Nat, i < rest.length → atI (rest.map D.int) (i : Int) = some (.int (rest.getD i 0)) ∧ rest.getD i 0 ∈ rest := fun i hi =>
          ⟨at_map (d0 := 0) hi, by rw [List.getD_eq_getElem?_getD, List.getElem?_eq_getElem hi]; exact List.getElem_mem hi⟩
        simp [hpr, hnil]
        refine ⟨a, rest.length, rfl, by omega, by omega, _, p', by omega, fun d μ2 ⟨j, e, j0, j1⟩ p2 f2 => ?_⟩
        subst e
        simp
        refine ⟨a, 3, rfl, by omega, by omega, _, p2, by omega, fun d μ3 ⟨k, e, k0, k1⟩ p3 f3 => ?_⟩
        subst e
        obtain ⟨hi, hhi⟩ : ∃ hi : Nat, hi = (if (j + k) < (rest.length : Int) - 1 then j + k else (rest.length : Int) - 1).toNat := ⟨_, rfl⟩
        have hhi2 : (hi : Int) = (if (j + k) < (rest.length : Int) - 1 then j + k else (rest.length : Int) - 1) := by rw [hhi]; split <;> omega
        have hhil : hi < rest.length ∧ j.toNat ≤ hi := by split at hhi2 <;> omega
        obtain ⟨a1, a2⟩ := at_rest hi hhil.1
        obtain ⟨b1, b2⟩ := at_rest j.toNat (by omega)
        have hjn : ((j.toNat : Nat) : Int) = j := by omega
        rw [hjn] at b1
        have hb' := hr1 _ b2
        have ha' := hr1 _ a2
        have hle : rest.getD j.toNat 0 ≤ rest.getD hi 0 := by
          rcases Nat.lt_or_eq_of_le hhil.2 with c | c
          · have := up_get hr2 c hhil.1; omega
          · rw [c]; exact Int.le_refl _
        generalize rest.getD j.toNat 0 = u at *
        generalize rest.getD hi 0 = w at *
        simp
        rw [← hhi2]
        refine ⟨_, a1, ?_⟩
        simp [huesD]
        refine ⟨by omega, a, (hs.length : Int) + 1, rfl, by omega, by omega, _, p3, by omega, fun d μ4 ⟨l, e, l0, l1⟩ p4 f4 => ?_⟩
        subst e
        obtain ⟨v, hv, hvc⟩ := hue_at hhs l0 l1
        have hM4 : μ4 b = some (.lst (fs.map pcD)) := by rw [f4 b hba, f3 b hba, f2 b hba]; exact hM
        simp [hv, b1, hM4]
        refine ⟨by omega, ?_⟩
        refine hN _ _ ⟨_, _, _, _, _, w + 1, fs ++ [⟨u, w, v⟩], rfl, (p4.set hba).up (by simp; omega), (((e'.trans f2.ext).trans f3.ext).trans f4.ext).set hb, by rw [set_same', List.map_append]; rfl, fun p hp => ?_, ?_, by simp; omega, fun p hp => ?_⟩
        · rcases List.mem_append.mp hp with hp | hp
          · exact g1 p hp
          · simp at hp; subst hp; exact ⟨hb'.1, hle, ha'.2.1, hvc⟩
        · rw [List.pairwise_append]
          exact ⟨g2, by simp, fun p hp q hq => by simp at hq; subst hq; have := g4 p hp; show p.hi < u; omega⟩
        · rcases List.mem_append.mp hp with hp | hp
          · have := g4 p hp; have := g1 p hp; omega
          · simp at hp; subst hp; show w < w + 1; omega
  · rintro env μ' ⟨s3, s6, s7, s8, s9, start, fs, rfl, p', e', hM, g1, g2, g3, g4⟩
    refine ⟨trivial, ?_⟩
    simp at g3 p'
    simp
    rw [s_oTupleM _ _ _ hM]
    exact drw_end (P := fun d => ∃ w, d = wishD w ∧ okWish w) h ⟨fs, rfl, by omega, g1, g2⟩ (p'.up (by omega)) e'
end K
end
section
set_option Elab.async false
set_option linter.all false
set_option maxRecDepth 100000
set_option maxHeartbeats 2000000
namespace K
open PySem PySem.Spec DL C8 L2 PL PM
theorem merge_nd : ∀ (more acc : List (Key × D)), ((acc ++ more).map (·.1)).Nodup → mergeD acc more = acc ++ more
  | [], acc, _ => by simp [mergeD]
  | (k, v) :: more, acc, h => by
    have hk : ¬ (acc.any fun kv => decide (kv.1 = k)) = true := by
      intro hc
      obtain ⟨q, hq, e⟩ := List.any_eq_true.mp hc
      have e : q.1 = k := by simpa using e
      rw [List.map_append, List.nodup_append] at h
      exact h.2.2 q.1 (List.mem_map_of_mem hq) k (by simp) e
    have e1 : putKD acc k v = acc ++ [(k, v)] := by unfold putKD; rw [if_neg hk]
    show mergeD (putKD acc k v) more = _
    rw [e1, merge_nd more (acc ++ [(k, v)]) (by simpa using h)]
    simp
theorem merge_pr {kv : List (Str × Int)} (h : (kv.map (·.1)).Nodup) : mergeD [] (kv.map fun q => ((.inr q.1 : Key), D.int q.2)) = kv.map fun q => ((.inr q.1 : Key), D.int q.2) := by
  refine merge_nd _ [] ?_
  rw [List.nil_append, List.map_map]
  have : (kv.map fun q => (Sum.inr q.1 : Key)) = (kv.map (·.1)).map Sum.inr := by rw [List.map_map]; rfl
  show (kv.map fun q => (Sum.inr q.1 : Key)).Nodup
  rw [this]
  exact h.map (f := Sum.inr) fun x y hne e => hne (by cases e; rfl)
theorem lc_prices {a c : Addr} {keep : Mem → Prop} {g : DG} {te : DT} {env : DL.Env} {Q : QD} {μ : Mem} (n0 : Nat) (B : Int) (hs : List Str) (hB : B ≤ 999) (hp : Pen a n0 μ) (hc : μ c = none) (hk : ∀ μ', keep μ') (hhs : okHues hs) (hn0 : n0 + 10 ≤ 100000)
    (hs' : ∀ x ∈ hs, ∀ (M : Mem) (n : Nat) (P : QD), Pen a n M → n + 1 ≤ 100000 → (∀ w M', 0 ≤ w → w < B → Pen a (n + 1) M' → Fr a M M' → P (.tup [.str x, .int (1 + w)]) M') → dG g (.str x) env fun env' => te env' M P (fun _ _ => False))
    (hq : ∀ (kv : List (Str × Int)) μ', kv.map (·.1) = hs → okPr kv → mergeD [] (kv.map fun q => ((.inr q.1 : Key), D.int q.2)) = (kv.map fun q => ((.inr q.1 : Key), D.int q.2)) → Pen a (n0 + hs.length) μ' → Fr a μ μ' → μ' c = none →
      Q (.lst (kv.map fun q => D.tup [.str q.1, .int q.2])) μ') :
    lcGo c false keep g dYes te env Q (hs.map D.str) [] (μ.set c (.lst [])) := by
  have hca := hp.ne hc
  have hhl := hhs.len
  refine lc_draw (fun rest acc μ2 => ∃ kv : List (Str × Int), acc = kv.map (fun q => D.tup [.str q.1, .int q.2]) ∧ rest = (hs.drop kv.length).map D.str ∧ kv.length ≤ hs.length ∧ kv.map (·.1) = hs.take kv.length ∧ (∀ q ∈ kv, 1 ≤ q.2 ∧ q.2 ≤ 999) ∧ Pen a (n0 + kv.length) μ2 ∧ Fr a μ μ2) (fun _ _ _ _ => hk _) ?_ ?_ ?_ _ [] μ
    ⟨[], rfl, by simp, by simp, by simp, by simp, by simpa using hp, fun _ _ => rfl⟩ hc
  · rintro rest acc μ2 ⟨kv, rfl, rfl, hkl, _⟩
    simp; omega
  · rintro x rest acc μ2 ⟨kv, rfl, hrest, hkl, hkv, hq1, p9, f9⟩ hn2 P hP
    have hlt : kv.length < hs.length := by
      by_cases z : kv.length < hs.length
      · exact z
      · rw [List.drop_eq_nil_of_le (by omega)] at hrest; simp at hrest
    rw [List.drop_eq_getElem_cons hlt, List.map_cons, List.cons.injEq] at hrest
    obtain ⟨rfl, rfl⟩ := hrest
    refine hs' _ (List.getElem_mem hlt) _ _ _ (p9.set hca) (by omega) fun w M' w0 w1 p f => ?_
    obtain ⟨μ3, rfl, hb3, p3', f3'⟩ := pen_in p hn2 hca f
    refine hP _ μ3 ⟨kv ++ [(hs[kv.length], 1 + w)], by simp, by simp, by simp; omega, ?_, ?_, by simpa [Nat.add_assoc] using p3', fun z hz => (f3' z hz).trans (f9 z hz)⟩ hb3
    · rw [List.map_append, hkv, List.length_append, List.length_cons, List.length_nil, List.take_add_one, List.getElem?_eq_getElem hlt]
      rfl
    · intro q hq2
      rcases List.mem_append.mp hq2 with hq2 | hq2
      · exact hq1 q hq2
      · have : q = (hs[kv.length], 1 + w) := by simpa using hq2
        subst this; exact ⟨by omega, by omega⟩
  · rintro acc μ2 ⟨kv, rfl, hrest, hkl, hkv, hq1, p9, f9⟩ hn2
    have hfull : kv.length = hs.length := by
      have := congrArg List.length hrest
      simp at this; omega
    have hkeys : kv.map (·.1) = hs := by rw [hkv, hfull, List.take_length]
    have hpr : okPr kv := ⟨by omega, fun q hq2 => ⟨hue_col (hhs.ok _ (by rw [← hkeys]; exact List.mem_map_of_mem hq2)), hq1 q hq2⟩⟩
    simp only [Bool.false_eq_true, if_false]
    exact hq kv μ2 hkeys hpr (merge_pr (by rw [hkeys]; exact hhs.nd)) (by rw [← hfull]; exact p9) f9 hn2
end K
end
section
set_option Elab.async false
set_option linter.all false
set_option maxRecDepth 100000
set_option maxHeartbeats 2000000
namespace PL
open PySem PySem.Spec DL PM
def nmD : Option Int → D
  | none => .non
  | some i => .int i
def neD (p : Pa (Option Int)) : D := (p.map nmD).d
abbrev S__law_nested : DSpec := fun ds μ Q _ => ∃ L, ds = [layD L] ∧ L.length ≤ 1000 ∧
  (∀ (i i' : Nat) (p q : Pt), L[i]? = some p → L[i']? = some q → i < i' → ¬ (p.s.lo ≤ q.s.lo ∧ q.s.hi ≤ p.s.hi) → ¬ (q.s.lo ≤ p.s.hi ∧ p.s.lo ≤ q.s.hi)) ∧ Q (.bl true) μ
abbrev S__law_elders : DSpec := fun ds μ Q _ => ∃ bk row L, ds = [bk, layD L] ∧ isBk μ bk row ∧ okRow row ∧ row.length + L.length ≤ 100 ∧ okLay row.length L ∧ Q (.lst ((eldersM row L).map neD)) μ
abbrev S_law : DSpec := fun ds μ Q _ => ∃ cells : List Int, ds = [.rol (cells.map D.int)] ∧ cells.length ≤ 1000 ∧ ∀ μ', Q (.bl true) μ'
end PL
namespace K
open PySem PySem.Spec DL C8 L2 PL PM
noncomputable section
def n__law_nested : List Str := ["laying", "k", "slot", "low", "high", "hue", "later", "inside"]
noncomputable def b__law_nested : DSs := (.cons (.for_ iRng1 (.cons (.std oLen (.cons (.var 0) .nil)) .nil) (.name 1)
  (.cons (.for_ iSeq (.cons (.std (oSl false true) (.cons (.var 0) (.cons (.var 1) .nil))) .nil) (.tup (.cons (.name 2) (.cons (.name 3) (.cons (.name 4) (.cons (.name 5) .nil)))))
  (.cons (.asg (.name 6) (.std oIx (.cons (.var 0) (.cons (.var 1) .nil))))
  (.cons (.asg (.name 7) (.bop true (.cons (.std oLe (.cons (.var 3) (.cons (.std oIx (.cons (.var 6) (.cons (.con (.int 1)) .nil))) .nil))) (.cons (.std oLe (.cons (.std oIx (.cons (.var 6) (.cons (.con (.int 2)) .nil))) (.cons (.var 4) .nil))) .nil))))
  (.cons (.if_ (.bop true (.cons (.not (.var 7)) (.cons (.std oLe (.cons (.std oIx (.cons (.var 6) (.cons (.con (.int 1)) .nil))) (.cons (.var 4) .nil))) (.cons (.std oLe (.cons (.var 3) (.cons (.std oIx (.cons (.var 6) (.cons (.con (.int 2)) .nil))) .nil))) .nil))))
  (.cons (.ret (.con (.bl false)))
  .nil)
  .nil)
  .nil))))
  .nil))
  (.cons (.ret (.con (.bl true)))
  .nil))
def n__law_elders : List Str := ["book", "laying", "elder", "found", "low", "high", "one", "name"]
noncomputable def b__law_elders : DSs := (.cons (.asg (.name 2) (.std oIx (.cons (.app (oFn "numbers" 2 [] S_numbers) (.cons (.var 0) (.cons (.var 1) .nil))) (.cons (.con (.int 0)) .nil))))
  (.cons (.asg (.name 3) (.std oLstM .nil))
  (.cons (.for_ iSeq (.cons (.app (oFn "picture" 1 [.non] S_picture) (.cons (.app (oFn "laid" 2 [] S_laid) (.cons (.var 0) (.cons (.var 1) .nil))) .nil)) .nil) (.tup (.cons (.name 4) (.cons (.name 5) (.cons (.name 6) .nil))))
  (.cons (.asg (.name 7) (.ife (.std oIsN (.cons (.var 6) (.cons (.con .non) .nil))) (.con .non) (.ife (.std oNotInL (.cons (.var 6) (.cons (.var 2) .nil))) (.std oNeg (.cons (.con (.int 1)) .nil)) (.std oIndex (.cons (.var 2) (.cons (.var 6) .nil))))))
  (.cons (.if_ (.bop true (.cons (.std oNe (.cons (.var 3) (.cons (.std oLst .nil) .nil))) (.cons (.std oEq (.cons (.std oIx (.cons (.std oIx (.cons (.var 3) (.cons (.std oNeg (.cons (.con (.int 1)) .nil)) .nil))) (.cons (.con (.int 2)) .nil))) (.cons (.var 7) .nil))) .nil)))
  (.cons (.std stSetIx (.cons (.std oTup (.cons (.std oIx (.cons (.std oIx (.cons (.var 3) (.cons (.std oNeg (.cons (.con (.int 1)) .nil)) .nil))) (.cons (.con (.int 0)) .nil))) (.cons (.var 5) (.cons (.var 7) .nil)))) (.cons (.var 3) (.cons (.std oNeg (.cons (.con (.int 1)) .nil)) .nil))))
  .nil)
  (.cons (.expr (.std oAppend (.cons (.var 3) (.cons (.std oTup (.cons (.var 4) (.cons (.var 5) (.cons (.var 7) .nil)))) .nil))))
  .nil))
  .nil)))
  (.cons (.ret (.frz (.var 3)))
  .nil))))
def n_law : List Str := ["script", "pen", "turn", "some", "book", "laying", "wish", "seen", "made", "prices", "lot", "hues", "one", "hue"]
noncomputable def b_law_0 : DSs := (.cons (.if_ (.bop true (.cons (.app (oFnK "is_right" 3 ["looks"] [.nth 0, .nth 1, .nth 2, .nth 3] S_is_right) (.cons (.var 4) (.cons (.var 6) (.cons (.var 5) (.cons (.var 7) .nil))))) (.cons (.not (.app (oFnK "is_right" 3 ["looks"] [.nth 0, .nth 1, .nth 2, .nth 3] S_is_right) (.cons (.var 4) (.cons (.var 6) (.cons (.var 8) (.cons (.var 7) .nil)))))) .nil)))
  (.cons (.ret (.con (.bl false)))
  .nil)
  .nil)
  .nil)
noncomputable def b_law_1 : DSs := (.cons (.if_ (.std oNe (.cons (.app (oFnK "broken" 3 ["looks"] [.nth 0, .nth 1, .nth 2, .nth 3] S_broken) (.cons (.var 4) (.cons (.var 6) (.cons (.var 8) (.cons (.var 7) .nil))))) (.cons (.app (oFnK "broken" 3 ["looks"] [.nth 0, .nth 1, .nth 2, .nth 3] S_broken) (.cons (.var 4) (.cons (.var 6) (.cons (.var 5) (.cons (.var 7) .nil))))) .nil)))
  (.cons (.ret (.con (.bl false)))
  .nil)
  .nil)
  b_law_0)
noncomputable def b_law_2 : DSs := (.cons (.if_ (.std oGt (.cons (.app (oFn "price_of" 3 [] S_price_of) (.cons (.var 4) (.cons (.var 8) (.cons (.var 9) .nil)))) (.cons (.app (oFn "price_of" 3 [] S_price_of) (.cons (.var 4) (.cons (.var 5) (.cons (.var 9) .nil)))) .nil)))
  (.cons (.ret (.con (.bl false)))
  .nil)
  .nil)
  b_law_1)
noncomputable def b_law_3 : DSs := (.cons (.asg (.name 9) (.std oDictP (.cons (.lc false iSeq (.cons (.var 11) .nil) (.name 13) .nil (.std oTup (.cons (.var 13) (.cons (.std oAdd (.cons (.con (.int 1)) (.cons (.app (oFn "_law_draw" 2 [] S__law_draw) (.cons (.var 1) (.cons (.con (.int 99)) .nil))) .nil))) .nil))) [("hue", 13)]) .nil)))
  b_law_2)
noncomputable def b_law_4 : DSs := (.cons (.if_ (.std oNe (.cons (.app (oFn "colours" 1 [.non] S_colours) (.cons (.app (oFn "laid" 2 [] S_laid) (.cons (.var 4) (.cons (.var 8) .nil))) .nil)) (.cons (.app (oFn "colours" 1 [.non] S_colours) (.cons (.app (oFn "laid" 2 [] S_laid) (.cons (.var 4) (.cons (.var 5) .nil))) .nil)) .nil)))
  (.cons (.ret (.con (.bl false)))
  .nil)
  .nil)
  b_law_3)
noncomputable def b_law_5 : DSs := (.cons (.if_ (.std oNe (.cons (.app (oFn "_law_elders" 2 [] S__law_elders) (.cons (.var 4) (.cons (.var 8) .nil))) (.cons (.app (oFn "_law_elders" 2 [] S__law_elders) (.cons (.var 4) (.cons (.var 5) .nil))) .nil)))
  (.cons (.ret (.con (.bl false)))
  .nil)
  .nil)
  b_law_4)
noncomputable def b_law_6 : DSs := (.cons (.if_ (.bop false (.cons (.not (.app (oFn "_law_nested" 1 [] S__law_nested) (.cons (.var 8) .nil))) (.cons (.std oNe (.cons (.app (oFn "cut_back" 2 [] S_cut_back) (.cons (.var 4) (.cons (.var 8) .nil))) (.cons (.var 8) .nil))) .nil)))
  (.cons (.ret (.con (.bl false)))
  .nil)
  .nil)
  b_law_5)
noncomputable def b_law_7 : DSs := (.cons (.asg (.name 8) (.app (oFn "cut_back" 2 [] S_cut_back) (.cons (.var 4) (.cons (.var 5) .nil))))
  b_law_6)
noncomputable def b_law_8 : DSs := (.cons (.asg (.name 7) (.std oTuple (.cons (.lc false iSeq (.cons (.var 7) .nil) (.name 12) (.cons (.std oEq (.cons (.app (oFnK "broken" 3 ["looks"] [.nth 0, .nth 1, .nth 2, .nth 3] S_broken) (.cons (.var 4) (.cons (.var 6) (.cons (.var 5) (.cons (.std oTup (.cons (.var 12) .nil)) .nil))))) (.cons (.app (oFn "broken" 3 [(.tup [])] S_broken) (.cons (.var 4) (.cons (.var 6) (.cons (.var 5) .nil)))) .nil))) .nil) (.var 12) [("one", 12)]) .nil)))
  b_law_7)
noncomputable def b_law_9 : DSs := (.cons (.asg (.name 7) (.app (oFn "_law_looks" 4 [] S__law_looks) (.cons (.var 1) (.cons (.var 10) (.cons (.std oLen (.cons (.var 3) .nil)) (.cons (.con (.int 3)) .nil))))))
  b_law_8)
noncomputable def b_law_10 : DSs := (.cons (.asg (.name 6) (.app (oFn "_law_fit" 5 [] S__law_fit) (.cons (.var 1) (.cons (.app (oFn "_law_cells" 1 [] S__law_cells) (.cons (.var 10) .nil)) (.cons (.var 3) (.cons (.var 5) (.cons (.var 11) .nil)))))))
  b_law_9)
noncomputable def b_law_11 : DSs := (.cons (.asg (.name 5) (.app (oFn "_law_laying" 5 [] S__law_laying) (.cons (.var 1) (.cons (.var 10) (.cons (.var 11) (.cons (.std oLen (.cons (.var 3) .nil)) (.cons (.con (.int 6)) .nil)))))))
  b_law_10)
noncomputable def b_law_12 : DSs := (.cons (.asg (.name 4) (.app (oMakeF "Book" 1 [] S_Book___init__) (.cons (.var 3) .nil)))
  b_law_11)
noncomputable def b_law_13 : DSs := (.cons (.asg (.name 3) (.app (oFn "_law_strokes" 4 [] S__law_strokes) (.cons (.var 1) (.cons (.var 10) (.cons (.var 11) (.cons (.con (.int 4)) .nil))))))
  b_law_12)
noncomputable def b_law : DSs := (.cons (.asg (.name 1) (.app (oFn "_law_pen" 1 [] S__law_pen) (.cons (.var 0) .nil)))
  (.cons (.for_ iRng1 (.cons (.con (.int 4)) .nil) (.name 2)
  (.cons (.par [10, 11] (.cons (.app (oFn "_law_lot" 1 [] S__law_lot) (.cons (.var 1) .nil)) (.cons (.app (oFn "_law_hues" 1 [] S__law_hues) (.cons (.var 1) .nil)) .nil)))
  b_law_13))
  (.cons (.ret (.con (.bl true)))
  .nil)))
end
end K
end
section
set_option Elab.async false
set_option linter.all false
set_option maxRecDepth 100000
set_option maxHeartbeats 4000000
namespace K
open PySem PySem.Spec DL C8 L2 PL PM
theorem vc_nested : Vc n__law_nested ["laying"] b__law_nested S__law_nested := by
  rintro ds μ Q Ex _ ⟨L, rfl, hl, hn, h⟩
  simp [b__law_nested, n__law_nested, layD]
  rw [rngD_map]
  refine ⟨by omega, ?_⟩
  refine for_map (fun pre env μ' => (∃ s1 s2 s3 s4 s5 s6 s7, env = [some (.tup (L.map Pt.d)), s1, s2, s3, s4, s5, s6, s7]) ∧ μ' = μ) ⟨⟨none, none, none, none, none, none, none, rfl⟩, rfl⟩ ?_ ?_
  · rintro pre t post hpp env μ' ⟨⟨s1, s2, s3, s4, s5, s6, s7, rfl⟩, rfl⟩
    refine ⟨trivial, fun N hN => ?_⟩
    have ht : t = pre.length ∧ t < L.length := by
      have e1 : (List.range L.length)[pre.length]? = some t := by rw [hpp]; simp
      obtain ⟨a, b⟩ := List.getElem?_eq_some_iff.mp e1
      simp at a b
      omega
    have hLt : L[t]? = some (L.getD t pt0) := by
      rw [List.getD_eq_getElem?_getD, List.getElem?_eq_getElem ht.2]; rfl
    have hat : atI (L.map Pt.d) (t : Int) = some (L.getD t pt0).d := at_map (d0 := pt0) ht.2
    generalize L.getD t pt0 = q at *
    simp
    have hcut : cutD (L.map Pt.d) none (some ((t : Nat) : Int)) = (L.take t).map Pt.d := by
      unfold cutD
      have : HT.sIx (L.map Pt.d).length (L.map Pt.d).length (some (t : Int)) = min t (L.map Pt.d).length := HT.sIx_nat _ _ t
      rw [this, HT.sIx_none]
      simp
    rw [hcut]
    refine for_map (fun pre2 env μ'' => (∃ s2 s3 s4 s5 s6 s7, env = [some (.tup (L.map Pt.d)), some (.int (t : Nat)), s2, s3, s4, s5, s6, s7]) ∧ μ'' = μ') ⟨⟨s2, s3, s4, s5, s6, s7, rfl⟩, rfl⟩ ?_ ?_
    · rintro pre2 p post2 hp2 env μ'' ⟨⟨s2, s3, s4, s5, s6, s7, rfl⟩, rfl⟩
      refine ⟨trivial, fun M hM => ?_⟩
      have hpi : L[pre2.length]? = some p ∧ pre2.length < t := by
        have e1 : (L.take t)[pre2.length]? = some p := by rw [hp2]; simp
        obtain ⟨c, d⟩ := List.getElem?_eq_some_iff.mp e1
        rw [List.length_take] at c
        refine ⟨?_, by omega⟩
        rw [List.getElem?_take] at e1
        split at e1
        · exact e1
        · cases e1
      have key := hn _ _ p q hpi.1 hLt hpi.2
      have hM' := fun s2 s3 s4 s5 s6 s7 => hM _ μ'' ⟨⟨s2, s3, s4, s5, s6, s7, rfl⟩, rfl⟩
      simp [Pt.d]
      refine ⟨_, hat, ?_⟩
      simp [Pt.d]
      by_cases c1 : p.s.lo ≤ q.s.lo
      · have n1 : ¬ q.s.lo < p.s.lo := by omega
        by_cases c2 : q.s.hi ≤ p.s.hi
        · have n2 : ¬ p.s.hi < q.s.hi := by omega
          simp [c1, c2, n1, n2]
          exact hM' _ _ _ _ _ _
        · have n2 : p.s.hi < q.s.hi := by omega
          have := key fun z => c2 z.2
          by_cases c3 : q.s.lo ≤ p.s.hi
          · have n3 : ¬ p.s.hi < q.s.lo := by omega
            have c4 : ¬ p.s.lo ≤ q.s.hi := fun z => this ⟨c3, z⟩
            omega
          · have n3 : p.s.hi < q.s.lo := by omega
            simp [c1, c2, n1, n2, c3, n3]
            exact hM' _ _ _ _ _ _
      · have n1 : q.s.lo < p.s.lo := by omega
        have := key fun z => c1 z.1
        by_cases c3 : q.s.lo ≤ p.s.hi
        · have n3 : ¬ p.s.hi < q.s.lo := by omega
          have c4 : ¬ p.s.lo ≤ q.s.hi := fun z => this ⟨c3, z⟩
          have n4 : q.s.hi < p.s.lo := by omega
          simp [c1, n1, c3, n3, c4, n4]
          exact hM' _ _ _ _ _ _
        · have n3 : p.s.hi < q.s.lo := by omega
          simp [c1, n1, c3, n3]
          exact hM' _ _ _ _ _ _
    · rintro env μ'' ⟨⟨s2, s3, s4, s5, s6, s7, rfl⟩, rfl⟩
      exact ⟨trivial, hN _ _ ⟨⟨_, _, _, _, _, _, _, rfl⟩, rfl⟩⟩
  · rintro env μ' ⟨⟨s1, s2, s3, s4, s5, s6, s7, rfl⟩, rfl⟩
    refine ⟨trivial, ?_⟩
    simp
    exact ends_of h
theorem nm_plain (v : Option Int) (n : Nat) : plainN n (nmD v) = true := by cases v <;> cases n <;> rfl
theorem nm_inj {a b : Option Int} : nmD a = nmD b ↔ a = b := by cases a <;> cases b <;> simp [nmD]
theorem ne_plain (fs : List (Pa (Option Int))) : plainN 32 (.lst (fs.map neD)) = true := by
  simp [plainN, neD, Pa.map, Pa.d]
  intro p hp
  exact nm_plain _ _
theorem stepE_len : ∀ (ps found : List (Pa (Option Int))), (ps.foldl stepE found).length ≤ found.length + ps.length := by
  intro ps
  induction ps with
  | nil => intro found; simp
  | cons p ps ih =>
    intro found
    have h1 := ih (stepE found p)
    have h2 : (stepE found p).length ≤ found.length + 1 := by
      unfold stepE
      split
      · split
        · simp
        · simp
      · simp
    rw [List.foldl_cons, List.length_cons]
    omega
theorem any_same (E : List Nat) (k : Nat) : ((E.map fun i => D.int (i : Nat)).any fun z => DL.same z (.int (k : Nat))) = decide (k ∈ E) := by
  induction E with
  | nil => rfl
  | cons x E ih =>
    rw [List.map_cons, List.any_cons, ih]
    by_cases c : x = k
    · subst c; simp [DL.same_self]
    · have : DL.same (.int (x : Nat)) (.int (k : Nat)) = false := DL.same_of_ne fun z => c (by injection z with z; omega)
      have c' : ¬ k = x := fun z => c z.symm
      simp [this, c']
theorem natL_plain (E : List Nat) : plainN 32 (.lst (E.map fun i => D.int (i : Nat))) = true := by simp [plainN]
theorem notInL_nat (E : List Nat) (k : Nat) (μ : Mem) (Q : QD) (Ex : QX) : oNotInL.o.sem [.int (k : Nat), .lst (E.map fun i => .int (i : Nat))] μ Q Ex ↔ Q (.bl (!decide (k ∈ E))) μ := by
  rw [s_oNotInL]
  constructor
  · rintro ⟨ys, e, _, _, h⟩
    cases e
    rw [look_int, any_same] at h
    simpa using h
  · intro h
    refine ⟨_, rfl, rfl, natL_plain E, ?_⟩
    rw [look_int, any_same]
    simpa using h
theorem index_nat {E : List Nat} {k : Nat} (hk : k ∈ E) (μ : Mem) (Q : QD) (Ex : QX) (h : Q (.int (E.idxOf k : Nat)) μ) : oIndex.o.sem [.lst (E.map fun i => .int (i : Nat)), .int (k : Nat)] μ Q Ex := by
  rw [s_oIndex]
  have hi : E.idxOf k < E.length := List.idxOf_lt_length_of_mem hk
  refine ⟨_, E.idxOf k, rfl, natL_plain E, rfl, ?_, fun m z hm hz => ?_, h⟩
  · rw [List.getElem?_map, List.getElem?_eq_getElem hi]
    simp
  · rw [List.getElem?_map] at hz
    have hml : m < E.length := by omega
    rw [List.getElem?_eq_getElem hml] at hz
    simp only [Option.map_some, Option.some.injEq] at hz
    subst hz
    rw [look_int]
    intro e
    injection e with e
    have e' : E[m] = k := by omega
    have := List.not_of_lt_findIdx (p := fun x => x == k) (xs := E) (i := m) (by unfold List.idxOf at hm; exact hm)
    simp [e'] at this
theorem vc_elders : Vc n__law_elders ["book", "laying"] b__law_elders S__law_elders := by
  rintro ds μ Q Ex _ ⟨bk, row, L, rfl, hb, hr, hl, hL, h⟩
  have hrl := hr.len
  have hok := laidM_ok hr hL (by omega)
  have hll := (laid_row hr.ok hL).2
  have hpl := paint_len hok.ok
  simp [b__law_elders, n__law_elders]
  refine ⟨bk, row, L, rfl, hb, by omega, hL, ?_⟩
  simp
  intro a ha
  refine ⟨bk, row, L, rfl, isBk_set hb ha, hr, by omega, hL, ?_⟩
  refine ⟨bookD (laidM row L), laidM row L, none, rfl, isBk_obj _ _, hok, trivial, ?_⟩
  simp [takeM]
  refine for_map (fun pre env μ' => ∃ s4 s5 s6 s7, env = [some bk, some (layD L), some (.lst ((numE row.length L).map fun i => .int (i : Nat))), some (.ref a), s4, s5, s6, s7] ∧ μ' = μ.set a (.lst (((pre.map (Pa.map (nameOf (numE row.length L)))).foldl stepE []).map neD))) ⟨none, none, none, none, rfl, rfl⟩ ?_ ?_
  · rintro pre p post hp env μ' ⟨s4, s5, s6, s7, rfl, rfl⟩
    refine ⟨trivial, fun N hN => ?_⟩
    have hlen : pre.length < (paintM (laidM row L)).length := by rw [hp]; simp
    have hfl := stepE_len (pre.map (Pa.map (nameOf (numE row.length L)))) []
    simp only [List.length_nil, Nat.zero_add, List.length_map] at hfl
    have hN' := fun s4 s5 s6 s7 => hN _ _ ⟨s4, s5, s6, s7, rfl, rfl⟩
    simp only [List.map_append, List.map_cons, List.map_nil, List.foldl_append, List.foldl_cons, List.foldl_nil] at hN'
    clear hN
    generalize (pre.map (Pa.map (nameOf (numE row.length L)))).foldl stepE [] = found at *
    have hpf := ne_plain found
    rw [show paD p = .tup [.int p.lo, .int p.hi, optD p.v] from rfl]
    refine ⟨_, rfl, ?_⟩
    simp only [dGs_cons_cons, dG_name, dGs_nil_nil, List.set_cons_succ, List.set_cons_zero]
    rw [denSs_cons, denS_asg]
    have hname : ∀ (Qd : QD) (X : QX), Qd (nmD (nameOf (numE row.length L) p.v)) (μ.set a (.lst (found.map neD))) → den (.ife (.std oIsN (.cons (.var 6) (.cons (.con .non) .nil))) (.con .non) (.ife (.std oNotInL (.cons (.var 6) (.cons (.var 2) .nil))) (.std oNeg (.cons (.con (.int 1)) .nil)) (.std oIndex (.cons (.var 2) (.cons (.var 6) .nil)))))
        [some bk, some (layD L), some (.lst ((numE row.length L).map fun i => .int (i : Nat))), some (.ref a), some (.int p.lo), some (.int p.hi), some (optD p.v), s7] (μ.set a (.lst (found.map neD))) Qd X := by
      intro Qd X hq
      cases e : p.v with
      | none =>
        rw [e] at hq
        simp [optD, DL.isNon]
        exact hq
      | some k =>
        rw [e, nameOf_some] at hq
        simp [optD, DL.isNon, -s_oNotInL, -s_oIndex]
        rw [notInL_nat]
        by_cases c : k ∈ numE row.length L
        · rw [if_pos c] at hq
          simp [c, -s_oIndex]
          exact ⟨isLA_lst _ _, index_nat c _ _ _ hq⟩
        · rw [if_neg c] at hq
          simp [c]
          exact hq
    refine hname _ _ ?_
    clear hname
    simp only [dG_name, List.set_cons_succ, List.set_cons_zero]
    have hN2 := hN' (some (.int p.lo)) (some (.int p.hi)) (some (optD p.v)) (some (nmD (nameOf (numE row.length L) p.v)))
    clear hN'
    simp only [Pa.map] at hN2
    generalize nameOf (numE row.length L) p.v = nv at *
    cases q : found.getLast? with
    | none =>
      have : found = [] := by simpa using q
      subst this
      simp
      simpa [stepE, neD, Pa.d, Pa.map] using hN2
    | some r =>
      have e := plast_split q
      generalize found.dropLast = init at *
      subst e
      have hj : stepE (init ++ [r]) ⟨p.lo, p.hi, nv⟩ = if r.v = nv then init ++ [⟨r.lo, p.hi, nv⟩] else init ++ [r] ++ [⟨p.lo, p.hi, nv⟩] := by
        unfold stepE
        rw [q]; simp
      rw [hj] at hN2
      simp only [List.map_append, List.map_cons, List.map_nil] at hpf
      simp at hfl
      have hlk : ∀ (v : Option Int) (μ : Mem), look μ (nmD v) = nmD v := fun v μ => by cases v <;> rfl
      by_cases c : r.v = nv
      · rw [if_pos c] at hN2
        simp [neD, Pa.d, Pa.map, c]
        refine ⟨by simpa [neD, Pa.d, Pa.map, c] using hpf, by rw [hlk]; exact nm_plain _ _, ?_⟩
        simpa [neD, Pa.d, Pa.map] using hN2
      · rw [if_neg c] at hN2
        have hs : DL.same (nmD r.v) (nmD nv) = false := DL.same_of_ne fun z => c (nm_inj.mp z)
        simp [neD, Pa.d, Pa.map]
        simp only [hlk]
        refine ⟨by simpa [neD, Pa.d, Pa.map] using hpf, nm_plain _ _, nm_plain _ _, .inl ⟨hs, by omega, ?_⟩⟩
        simpa [neD, Pa.d, Pa.map] using hN2
  · rintro env μ' ⟨s4, s5, s6, s7, rfl, rfl⟩
    refine ⟨trivial, ?_⟩
    simp
    refine ⟨μ, Mem.Sub.set ha, ha, ends_of h⟩
end K
end
section
set_option Elab.async false
set_option linter.all false
set_option maxRecDepth 100000
set_option maxHeartbeats 4000000
namespace K
open PySem PySem.Spec DL C8 L2 PL PM
theorem lay_plain {n : Nat} {L : List Pt} (h : okLay n L) : plainN 32 (layD L) = true := by
  simp [layD, plainN, Pt.d]
  intro p hp
  exact (h.ok p hp).2.2.2.2.2.fine
theorem br_plain (xs : List Br) : plainN 32 (.lst (xs.map Br.d)) = true := by simp [plainN, Br.d]
theorem br_inj {a b : Br} (h : a.d = b.d) : a = b := by
  obtain ⟨k, u, v⟩ := a
  obtain ⟨k', u', v'⟩ := b
  simp [Br.d] at h
  obtain ⟨rfl, rfl, rfl⟩ := h
  rfl
theorem same_br (xs ys : List Br) : DL.same (.lst (xs.map Br.d)) (.lst (ys.map Br.d)) = decide (xs = ys) := by
  by_cases c : xs = ys
  · subst c; simp [DL.same_self]
  · rw [DL.same_of_ne, decide_eq_false c]
    intro e
    injection e with e
    exact c ((List.map_inj_right fun a b => br_inj).mp e)
theorem col_plain {row : List Sk} (h : okRow row) : plainN 32 (.tup ((coloursM row).map pcD)) = true := by
  have hc := colours_ok h.ok
  have hp := hc.pic
  have h1 : ∀ p ∈ coloursM row, ∀ c, p.v = some c → colOk c := fun p hpm c e => by
    obtain ⟨a1, a2, a3, a4⟩ := hp.val p hpm
    have h4 := a4 p.lo (Int.le_refl _) a2
    rw [e] at h4
    cases q : topM row p.lo with
    | none => rw [q] at h4; cases h4
    | some k =>
      rw [q, colAt_some] at h4
      cases h4
      have hk := (topM_some q).1
      rw [List.getD_eq_getElem?_getD, List.getElem?_eq_getElem hk]
      exact (h.ok _ (List.getElem_mem hk)).2.2.2
  have h2 : ∀ p ∈ coloursM row, plainN 31 (pcD p) = true := fun p hpm => plain_pa (p := p.map colD) (plain_colD (fun s hs => (h1 p hpm s hs).fine) 30)
  simpa [plainN] using h2
theorem price_pos {kv : List (Str × Int)} (h : okPr kv) (c : Str) : 0 ≤ price kv c := by
  unfold price
  cases e : kv.find? (fun q => decide (q.1 = c)) with
  | none => simp
  | some q =>
    have := (h.2 q (List.mem_of_find?_eq_some e)).2.1
    simp; omega
theorem vc_law : Vc n_law ["script"] b_law S_law := by
  rintro ds μ Q Ex _ ⟨cells, rfl, h0, h⟩
  simp [b_law, n_law]
  refine ⟨cells, rfl, h0, fun a μ0 ha0 hp0 => ?_⟩
  simp
  rw [rngD_map]
  refine for_map (fun pre env μ' => (∃ x2 x3 x4 x5 x6 x7 x8 x9 x10 x11, env = [some (.rol (cells.map D.int)), some (.ref a), x2, x3, x4, x5, x6, x7, x8, x9, x10, x11, none, none]) ∧ Pen a (300 * pre.length) μ') ⟨⟨none, none, none, none, none, none, none, none, none, none, rfl⟩, hp0⟩ ?_ ?_
  · rintro pre t post hpp env μ1 ⟨⟨x2, x3, x4, x5, x6, x7, x8, x9, x10, x11, rfl⟩, p1⟩
    refine ⟨trivial, fun N hN => ?_⟩
    have hpl : pre.length < 4 := by
      have := congrArg List.length hpp
      simp at this; omega
    simp
    refine ⟨a, rfl, _, p1, by omega, fun d μ2 ⟨lot, e, hlot⟩ p2 f2 => ?_⟩
    subst e
    refine ⟨a, rfl, _, p2, by omega, fun d μ3 ⟨hs, e, hhs⟩ p3 f3 => ?_⟩
    subst e
    simp [b_law_13, DL.setAll]
    refine ⟨a, lot, hs, 4, rfl, hlot, hhs, by omega, _, p3, by omega, fun d μ4 ⟨row, e, hrow, hrl⟩ p4 f4 => ?_⟩
    subst e
    simp [b_law_12]
    intro x hx
    refine ⟨x, _, row, rfl, .inl rfl, hrow, by simp, ?_⟩
    refine ⟨rfl, _, set_same' _ _ _, μ4, by rw [Mem.set_set]; exact Mem.Sub.set hx, hx, ?_⟩
    simp [b_law_11]
    refine ⟨a, lot, hs, row.length, 6, rfl, hlot, hhs, by omega, by omega, _, p4, by omega, fun d μ5 ⟨L, e, hL, hLl, hLc⟩ p5 f5 => ?_⟩
    subst e
    have hrl' : row.length ≤ 4 := hrl
    simp [b_law_10]
    refine ⟨lot, rfl, hlot, fun cs hcs => ?_⟩
    refine ⟨a, cs, row, L, hs, rfl, hcs, hrow, hL, hhs, _, p5, by omega, fun d μ8 ⟨w, e, hw⟩ p8 f8 => ?_⟩
    subst e
    simp [b_law_9]
    refine ⟨a, lot, row.length, 3, rfl, hlot, by omega, by omega, _, p8, by omega, fun d μ9 ⟨ks, e, hks, hkl⟩ p9 f9 => ?_⟩
    subst e
    have hok1 : ∀ ks', okLooks row.length ks' → okBr row w L ks' := fun ks' hk => ⟨hrow, by omega, hL, hw, hk⟩
    have hnil : okLooks row.length [] := ⟨by simp, by simp⟩
    simp [b_law_8, looksD]
    intro c hc
    refine lc_f Lk.d (fun k => decide (brokenM row w L [k] = brokenM row w L [])) Lk.d hc (fun _ => trivial) ks [] (fun k hk ys P hP => ?_) (by simp; omega) ?_
    · have hk1 : okLooks row.length [k] := ⟨by simp, fun q hq => by simp at hq; subst hq; exact hks.ok _ hk⟩
      simp [dTst]
      refine ⟨bookD row, row, w, L, [k], rfl, isBk_obj _ _, hok1 _ hk1, ?_⟩
      refine ⟨bookD row, row, w, L, [], rfl, isBk_obj _ _, hok1 _ hnil, ?_⟩
      simp [br_plain, same_br]
      by_cases c1 : brokenM row w L [k] = brokenM row w L []
      · rw [decide_eq_true c1] at hP
        exact .inr ⟨c1, hP _ fun _ P' hP' => by simpa using hP'⟩
      · rw [decide_eq_false c1] at hP
        exact .inl ⟨c1, hP _ fun z => by cases z⟩
    · have hks2 : okLooks row.length (ks.filter fun k => decide (brokenM row w L [k] = brokenM row w L [])) := ⟨Nat.le_trans (List.length_filter_le _ _) hks.len, fun k hk => hks.ok k (List.mem_filter.mp hk).1⟩
      have hsame : ∀ k ∈ ks.filter (fun k => decide (brokenM row w L [k] = brokenM row w L [])), brokenM row w L [k] = brokenM row w L [] := fun k hk => by simpa using (List.mem_filter.mp hk).2
      generalize ks.filter (fun k => decide (brokenM row w L [k] = brokenM row w L [])) = seen at *
      have hbr := cutM_broken hrow.ok hL hw hks2.ok hsame
      obtain ⟨hM, hMl⟩ := cutM_lay hrow.ok hL
      have hnest := fun i i' p q => cutM_nested (i := i) (i' := i') (p := p) (q := q) hrow.ok hL
      have hagain := cutM_again hrow.ok hL
      have helder := cutM_elders hrow.ok hL
      have hcol := cutM_colours hrow.ok hL
      have hcols := fun hs hh => cutM_cols (hs := hs) hrow.ok hL hh
      have hsum := cutM_sum hrow.ok hL
      have hokM : okBr row w (cutM row L) seen := ⟨hrow, by omega, hM, hw, hks2⟩
      have hokL : okBr row w L seen := hok1 _ hks2
      have hlayL := laidM_ok hrow hL (by omega)
      have hlayM := laidM_ok hrow hM (by omega)
      obtain ⟨M, hMdef⟩ : ∃ M, cutM row L = M := ⟨_, rfl⟩
      rw [hMdef] at hbr hM hMl hagain helder hcol hcols hsum hokM hlayM
      simp only [hMdef] at hnest
      simp [b_law_7]
      refine ⟨bookD row, row, L, rfl, isBk_obj _ _, hrow, by omega, hL, ?_⟩
      rw [hMdef]
      simp [b_law_6]
      refine ⟨M, rfl, by omega, fun i i' p q e1 e2 e3 e4 => hnest i i' p q e1 e2 e3 e4, ?_⟩
      simp
      refine ⟨bookD row, row, M, rfl, isBk_obj _ _, hrow, by omega, hM, ?_⟩
      rw [hagain]
      have hlk : ∀ μ, look μ (layD M) = layD M := fun _ => rfl
      simp [hlk, lay_plain hM, DL.same_self]
      simp [b_law_5]
      refine ⟨bookD row, row, M, rfl, isBk_obj _ _, hrow, by omega, hM, ?_⟩
      refine ⟨bookD row, row, L, rfl, isBk_obj _ _, hrow, by omega, hL, ?_⟩
      rw [helder]
      simp [ne_plain, DL.same_self]
      simp [b_law_4]
      refine ⟨bookD row, row, M, rfl, isBk_obj _ _, hrow, by omega, hM, ?_⟩
      refine ⟨bookD (laidM row M), laidM row M, none, rfl, isBk_obj _ _, hlayM, trivial, ?_⟩
      refine ⟨bookD row, row, L, rfl, isBk_obj _ _, hrow, by omega, hL, ?_⟩
      refine ⟨bookD (laidM row L), laidM row L, none, rfl, isBk_obj _ _, hlayL, trivial, ?_⟩
      simp only [takeM]
      rw [hcol]
      simp [col_plain hlayL, DL.same_self]
      simp [b_law_3, huesD]
      intro c3 hc3
      have hhl := hhs.len
      refine lc_prices (B := 99) _ hs (by omega) p9 hc3 (fun _ => trivial) hhs (by omega) (fun y hy M' n P hp hn hP => ?_) (fun kv μ10 hkeys hpr hmer p10 f10 hn10 => ?_)
      · simp
        refine ⟨a, 99, rfl, by omega, by omega, _, hp, by omega, fun d M'' ⟨v, e, v0, v1⟩ p f => ?_⟩
        subst e
        simp
        exact hP v M'' v0 v1 p f
      · simp
        refine ⟨kv.map fun q => ((.inr q.1 : Key), D.int q.2), by rw [List.map_map]; rfl, ?_⟩
        rw [hmer]
        simp [b_law_2]
        refine ⟨bookD row, row, M, kv, rfl, isBk_obj _ _, by omega, hM, hpr, by rw [hkeys]; exact hcols hs hLc, ?_⟩
        refine ⟨bookD row, row, L, kv, rfl, isBk_obj _ _, by omega, hL, hpr, by rw [hkeys]; exact hLc, ?_⟩
        have hle := hsum (fun c => price kv c) fun p _ => price_pos hpr _
        have hle' : ¬ (L.map fun p => price kv p.s.col).sum < (M.map fun p => price kv p.s.col).sum := by omega
        simp [hle, hle']
        simp [b_law_1]
        refine ⟨bookD row, row, w, M, seen, rfl, isBk_obj _ _, hokM, ?_⟩
        refine ⟨bookD row, row, w, L, seen, rfl, isBk_obj _ _, hokL, ?_⟩
        rw [hbr]
        simp [br_plain, DL.same_self]
        simp [b_law_0]
        refine ⟨bookD row, row, w, L, seen, rfl, isBk_obj _ _, hokL, ?_⟩
        have fin : N [some (.rol (cells.map D.int)), some (.ref a), some (.int (t : Nat)), some (.lst (row.map Sk.d)), some (bookD row), some (layD L), some (wishD w), some (looksD seen), some (layD M), some (prD kv), some (lotD lot), some (huesD hs), none, none] μ10 :=
          hN _ _ ⟨⟨_, _, _, _, _, _, _, _, _, _, rfl⟩, p10.up (by simp; omega)⟩
        by_cases hz : brokenM row w L seen = []
        · simp [hz]
          refine ⟨bookD row, row, w, M, seen, rfl, isBk_obj _ _, hokM, ?_⟩
          rw [hbr]
          simp [hz]
          exact fin
        · simp [hz]
          exact fin
  · rintro env μ1 ⟨⟨x2, x3, x4, x5, x6, x7, x8, x9, x10, x11, rfl⟩, p1⟩
    refine ⟨trivial, ?_⟩
    simp
    exact ends_of (h _)
end K
end
section
set_option Elab.async false
set_option linter.all false
set_option maxRecDepth 100000
set_option maxHeartbeats 0
namespace K
open PySem PySem.Spec DL C8 L2 PL
theorem hc_Book___len__ : chkSs n_Book___len__ (defScope (meth 25 1)) b_Book___len__ (defBody (meth 25 1)) = true := by decide +kernel
theorem hs_Book___len__ : scC n_Book___len__ ["self"] (defScope (meth 25 1)) = true := by decide +kernel
theorem hc_Book_strokes : chkSs n_Book_strokes (defScope (meth 25 7)) b_Book_strokes (defBody (meth 25 7)) = true := by decide +kernel
theorem hs_Book_strokes : scC n_Book_strokes ["self"] (defScope (meth 25 7)) = true := by decide +kernel
theorem hc__law_cells : chkSs n__law_cells (defScope (top 79)) b__law_cells (defBody (top 79)) = true := by decide +kernel
theorem hs__law_cells : scC n__law_cells ["lot"] (defScope (top 79)) = true := by decide +kernel
theorem hc__law_nested : chkSs n__law_nested (defScope (top 83)) b__law_nested (defBody (top 83)) = true := by decide +kernel
theorem hs__law_nested : scC n__law_nested ["laying"] (defScope (top 83)) = true := by decide +kernel
theorem hc__law_pen : chkSs n__law_pen (defScope (top 70)) b__law_pen (defBody (top 70)) = true := by decide +kernel
theorem hs__law_pen : scC n__law_pen ["script"] (defScope (top 70)) = true := by decide +kernel
theorem hc__law_top : chkSs n__law_top (defScope (top 80)) b__law_top (defBody (top 80)) = true := by decide +kernel
theorem hs__law_top : scC n__law_top ["some", "place"] (defScope (top 80)) = true := by decide +kernel
theorem hc__law_weave : chkSs n__law_weave (defScope (top 78)) b__law_weave (defBody (top 78)) = true := by decide +kernel
theorem hs__law_weave : scC n__law_weave ["some", "laying"] (defScope (top 78)) = true := by decide +kernel
theorem hc__law_well : chkSs n__law_well (defScope (top 71)) b__law_well (defBody (top 71)) = true := by decide +kernel
theorem hs__law_well : scC n__law_well ["pen"] (defScope (top 71)) = true := by decide +kernel
theorem hc_is_name : chkSs n_is_name (defScope (top 15)) b_is_name (defBody (top 15)) = true := by decide +kernel
theorem hs_is_name : scC n_is_name ["thing"] (defScope (top 15)) = true := by decide +kernel
theorem hc_is_whole : chkSs n_is_whole (defScope (top 14)) b_is_whole (defBody (top 14)) = true := by decide +kernel
theorem hs_is_whole : scC n_is_whole ["thing", "least"] (defScope (top 14)) = true := by decide +kernel
theorem hc_joined : chkSs n_joined (defScope (top 20)) b_joined (defBody (top 20)) = true := by decide +kernel
theorem hs_joined : scC n_joined ["some"] (defScope (top 20)) = true := by decide +kernel
theorem hc_laid_over : chkSs n_laid_over (defScope (top 29)) b_laid_over (defBody (top 29)) = true := by decide +kernel
theorem hs_laid_over : scC n_laid_over ["parts", "low", "high", "giver"] (defScope (top 29)) = true := by decide +kernel
theorem hc_merged : chkSs n_merged (defScope (top 31)) b_merged (defBody (top 31)) = true := by decide +kernel
theorem hs_merged : scC n_merged ["parts"] (defScope (top 31)) = true := by decide +kernel
theorem hc_moved : chkSs n_moved (defScope (top 57)) b_moved (defBody (top 57)) = true := by decide +kernel
theorem hs_moved : scC n_moved ["look", "laying"] (defScope (top 57)) = true := by decide +kernel
theorem hc_need_colours : chkSs n_need_colours (defScope (top 66)) b_need_colours (defBody (top 66)) = true := by decide +kernel
theorem hs_need_colours : scC n_need_colours ["prices", "some"] (defScope (top 66)) = true := by decide +kernel
theorem hc_renumbered : chkSs n_renumbered (defScope (top 58)) b_renumbered (defBody (top 58)) = true := by decide +kernel
theorem hs_renumbered : scC n_renumbered ["seen", "elder"] (defScope (top 58)) = true := by decide +kernel
theorem hc_woven : chkSs n_woven (defScope (top 53)) b_woven (defBody (top 53)) = true := by decide +kernel
theorem hs_woven : scC n_woven ["size", "laying"] (defScope (top 53)) = true := by decide +kernel
theorem hc__law_draw : chkSs n__law_draw (defScope (top 72)) b__law_draw (defBody (top 72)) = true := by decide +kernel
theorem hs__law_draw : scC n__law_draw ["pen", "below"] (defScope (top 72)) = true := by decide +kernel
theorem hc_both : chkSs n_both (defScope (top 21)) b_both (defBody (top 21)) = true := by decide +kernel
theorem hs_both : scC n_both ["some", "others"] (defScope (top 21)) = true := by decide +kernel
theorem hc_is_colour : chkSs n_is_colour (defScope (top 18)) b_is_colour (defBody (top 18)) = true := by decide +kernel
theorem hs_is_colour : scC n_is_colour ["thing"] (defScope (top 18)) = true := by decide +kernel
theorem hc_is_place : chkSs n_is_place (defScope (top 16)) b_is_place (defBody (top 16)) = true := by decide +kernel
theorem hs_is_place : scC n_is_place ["thing"] (defScope (top 16)) = true := by decide +kernel
theorem hc_outside : chkSs n_outside (defScope (top 22)) b_outside (defBody (top 22)) = true := by decide +kernel
theorem hs_outside : scC n_outside ["some"] (defScope (top 22)) = true := by decide +kernel
theorem hc_painted : chkSs n_painted (defScope (top 30)) b_painted (defBody (top 30)) = true := by decide +kernel
theorem hs_painted : scC n_painted ["some"] (defScope (top 30)) = true := by decide +kernel
theorem hc_unlike : chkSs n_unlike (defScope (top 59)) b_unlike (defBody (top 59)) = true := by decide +kernel
theorem hs_unlike : scC n_unlike ["seen", "others"] (defScope (top 59)) = true := by decide +kernel
theorem hc__law_fit : chkSs n__law_fit (defScope (top 82)) b__law_fit (defBody (top 82)) = true := by decide +kernel
theorem hs__law_fit : scC n__law_fit ["pen", "cells", "some", "laying", "hues"] (defScope (top 82)) = true := by decide +kernel
theorem hc__law_hues : chkSs n__law_hues (defScope (top 74)) b__law_hues (defBody (top 74)) = true := by decide +kernel
theorem hs__law_hues : scC n__law_hues ["pen"] (defScope (top 74)) = true := by decide +kernel
theorem hc__law_looks : chkSs n__law_looks (defScope (top 81)) b__law_looks (defBody (top 81)) = true := by decide +kernel
theorem hs__law_looks : scC n__law_looks ["pen", "lot", "size", "limit"] (defScope (top 81)) = true := by decide +kernel
theorem hc__law_lot : chkSs n__law_lot (defScope (top 73)) b__law_lot (defBody (top 73)) = true := by decide +kernel
theorem hs__law_lot : scC n__law_lot ["pen"] (defScope (top 73)) = true := by decide +kernel
theorem hc__law_stroke : chkSs n__law_stroke (defScope (top 75)) b__law_stroke (defBody (top 75)) = true := by decide +kernel
theorem hs__law_stroke : scC n__law_stroke ["pen", "lot", "hues"] (defScope (top 75)) = true := by decide +kernel
theorem hc_apart : chkSs n_apart (defScope (top 23)) b_apart (defBody (top 23)) = true := by decide +kernel
theorem hs_apart : scC n_apart ["some", "others"] (defScope (top 23)) = true := by decide +kernel
theorem hc_are_prices : chkSs n_are_prices (defScope (top 64)) b_are_prices (defBody (top 64)) = true := by decide +kernel
theorem hs_are_prices : scC n_are_prices ["thing"] (defScope (top 64)) = true := by decide +kernel
theorem hc_is_moment : chkSs n_is_moment (defScope (top 27)) b_is_moment (defBody (top 27)) = true := by decide +kernel
theorem hs_is_moment : scC n_is_moment ["book", "thing"] (defScope (top 27)) = true := by decide +kernel
theorem hc_is_stretch : chkSs n_is_stretch (defScope (top 17)) b_is_stretch (defBody (top 17)) = true := by decide +kernel
theorem hs_is_stretch : scC n_is_stretch ["thing"] (defScope (top 17)) = true := by decide +kernel
theorem hc__law_laying : chkSs n__law_laying (defScope (top 77)) b__law_laying (defBody (top 77)) = true := by decide +kernel
theorem hs__law_laying : scC n__law_laying ["pen", "lot", "hues", "size", "limit"] (defScope (top 77)) = true := by decide +kernel
theorem hc__law_strokes : chkSs n__law_strokes (defScope (top 76)) b__law_strokes (defBody (top 76)) = true := by decide +kernel
theorem hs__law_strokes : scC n__law_strokes ["pen", "lot", "hues", "limit"] (defScope (top 76)) = true := by decide +kernel
theorem hc_done_by : chkSs n_done_by (defScope (top 28)) b_done_by (defBody (top 28)) = true := by decide +kernel
theorem hs_done_by : scC n_done_by ["book", "moment"] (defScope (top 28)) = true := by decide +kernel
theorem hc_is_look : chkSs n_is_look (defScope (top 36)) b_is_look (defBody (top 36)) = true := by decide +kernel
theorem hs_is_look : scC n_is_look ["book", "thing"] (defScope (top 36)) = true := by decide +kernel
theorem hc_is_part : chkSs n_is_part (defScope (top 43)) b_is_part (defBody (top 43)) = true := by decide +kernel
theorem hs_is_part : scC n_is_part ["thing"] (defScope (top 43)) = true := by decide +kernel
theorem hc_is_stroke : chkSs n_is_stroke (defScope (top 19)) b_is_stroke (defBody (top 19)) = true := by decide +kernel
theorem hs_is_stroke : scC n_is_stroke ["thing"] (defScope (top 19)) = true := by decide +kernel
theorem hc_need_prices : chkSs n_need_prices (defScope (top 65)) b_need_prices (defBody (top 65)) = true := by decide +kernel
theorem hs_need_prices : scC n_need_prices ["prices"] (defScope (top 65)) = true := by decide +kernel
theorem hc_Book___init__ : chkSs n_Book___init__ (defScope (meth 25 0)) b_Book___init__ (defBody (meth 25 0)) = true := by decide +kernel
theorem hs_Book___init__ : scC n_Book___init__ ["self", "strokes"] (defScope (meth 25 0)) = true := by decide +kernel
theorem hc_are_looks : chkSs n_are_looks (defScope (top 37)) b_are_looks (defBody (top 37)) = true := by decide +kernel
theorem hs_are_looks : scC n_are_looks ["book", "thing"] (defScope (top 37)) = true := by decide +kernel
theorem hc_colours : chkSs n_colours (defScope (top 33)) b_colours (defBody (top 33)) = true := by decide +kernel
theorem hs_colours : scC n_colours ["book", "moment"] (defScope (top 33)) = true := by decide +kernel
theorem hc_is_putting : chkSs n_is_putting (defScope (top 50)) b_is_putting (defBody (top 50)) = true := by decide +kernel
theorem hs_is_putting : scC n_is_putting ["thing", "most"] (defScope (top 50)) = true := by decide +kernel
theorem hc_is_wish : chkSs n_is_wish (defScope (top 44)) b_is_wish (defBody (top 44)) = true := by decide +kernel
theorem hs_is_wish : scC n_is_wish ["thing"] (defScope (top 44)) = true := by decide +kernel
theorem hc_picture : chkSs n_picture (defScope (top 32)) b_picture (defBody (top 32)) = true := by decide +kernel
theorem hs_picture : scC n_picture ["book", "moment"] (defScope (top 32)) = true := by decide +kernel
theorem hc_is_laying : chkSs n_is_laying (defScope (top 51)) b_is_laying (defBody (top 51)) = true := by decide +kernel
theorem hs_is_laying : scC n_is_laying ["book", "thing"] (defScope (top 51)) = true := by decide +kernel
theorem hc_need_looks : chkSs n_need_looks (defScope (top 38)) b_need_looks (defBody (top 38)) = true := by decide +kernel
theorem hs_need_looks : scC n_need_looks ["book", "thing"] (defScope (top 38)) = true := by decide +kernel
theorem hc_need_wish : chkSs n_need_wish (defScope (top 45)) b_need_wish (defBody (top 45)) = true := by decide +kernel
theorem hs_need_wish : scC n_need_wish ["wish"] (defScope (top 45)) = true := by decide +kernel
theorem hc_shown : chkSs n_shown (defScope (top 39)) b_shown (defBody (top 39)) = true := by decide +kernel
theorem hs_shown : scC n_shown ["book", "look"] (defScope (top 39)) = true := by decide +kernel
theorem hc_firm : chkSs n_firm (defScope (top 46)) b_firm (defBody (top 46)) = true := by decide +kernel
theorem hs_firm : scC n_firm ["wish"] (defScope (top 46)) = true := by decide +kernel
theorem hc_laid_by : chkSs n_laid_by (defScope (top 54)) b_laid_by (defBody (top 54)) = true := by decide +kernel
theorem hs_laid_by : scC n_laid_by ["book", "laying"] (defScope (top 54)) = true := by decide +kernel
theorem hc_need_laying : chkSs n_need_laying (defScope (top 52)) b_need_laying (defBody (top 52)) = true := by decide +kernel
theorem hs_need_laying : scC n_need_laying ["book", "laying"] (defScope (top 52)) = true := by decide +kernel
theorem hc_laid : chkSs n_laid (defScope (top 55)) b_laid (defBody (top 55)) = true := by decide +kernel
theorem hs_laid : scC n_laid ["book", "laying"] (defScope (top 55)) = true := by decide +kernel
theorem hc_need_all : chkSs n_need_all (defScope (top 61)) b_need_all (defBody (top 61)) = true := by decide +kernel
theorem hs_need_all : scC n_need_all ["book", "wish", "laying", "looks"] (defScope (top 61)) = true := by decide +kernel
theorem hc_numbers : chkSs n_numbers (defScope (top 56)) b_numbers (defBody (top 56)) = true := by decide +kernel
theorem hs_numbers : scC n_numbers ["book", "laying"] (defScope (top 56)) = true := by decide +kernel
theorem hc_price_of : chkSs n_price_of (defScope (top 67)) b_price_of (defBody (top 67)) = true := by decide +kernel
theorem hs_price_of : scC n_price_of ["book", "laying", "prices"] (defScope (top 67)) = true := by decide +kernel
theorem hc_wrong_now : chkSs n_wrong_now (defScope (top 60)) b_wrong_now (defBody (top 60)) = true := by decide +kernel
theorem hs_wrong_now : scC n_wrong_now ["book", "wish", "after", "elder"] (defScope (top 60)) = true := by decide +kernel
theorem hc__law_elders : chkSs n__law_elders (defScope (top 84)) b__law_elders (defBody (top 84)) = true := by decide +kernel
theorem hs__law_elders : scC n__law_elders ["book", "laying"] (defScope (top 84)) = true := by decide +kernel
theorem hc_broken : chkSs n_broken (defScope (top 62)) b_broken (defBody (top 62)) = true := by decide +kernel
theorem hs_broken : scC n_broken ["book", "wish", "laying", "looks"] (defScope (top 62)) = true := by decide +kernel
theorem hc_cut_back : chkSs n_cut_back (defScope (top 68)) b_cut_back (defBody (top 68)) = true := by decide +kernel
theorem hs_cut_back : scC n_cut_back ["book", "laying"] (defScope (top 68)) = true := by decide +kernel
theorem hc_is_right : chkSs n_is_right (defScope (top 63)) b_is_right (defBody (top 63)) = true := by decide +kernel
theorem hs_is_right : scC n_is_right ["book", "wish", "laying", "looks"] (defScope (top 63)) = true := by decide +kernel
theorem hc_law : chkSs n_law (defScope (top 85)) b_law (defBody (top 85)) = true := by decide +kernel
theorem hs_law : scC n_law ["script"] (defScope (top 85)) = true := by decide +kernel
end K
end
section
set_option Elab.async false
set_option linter.all false
set_option maxRecDepth 100000
set_option maxHeartbeats 2000000
namespace K
open PySem PySem.Spec PyProof.Rows L2 DL C8 PL
section
variable {P : Program} {w : World} {K : PySem.W.Frag} {h base : Heap} {mg : Str → Option Value}
def pl (P : Program) (w : World) (K : PySem.W.Frag) (mg : Str → Option Value) (base : Heap) : Pl := ⟨P, w, K, mg, base, 0⟩
theorem frees (X : K.In h) (G : h.Ns mainGlobals mg) (c : SaysX fa fn exF K) : ∀ x, x ∈ bltNames → mg x = none := by
  intro x hx
  simp only [bltNames, List.mem_cons, List.not_mem_nil, or_false] at hx
  rcases hx with rfl | rfl | rfl | rfl | rfl | rfl | rfl | rfl | rfl | rfl | rfl | rfl | rfl | rfl | rfl | rfl | rfl | rfl | rfl | rfl | rfl | rfl
  · exact He.free_ok X G (c.1.fact 0 (f := .free "len") rfl)
  · exact He.free_ok X G (c.1.fact 1 (f := .free "isinstance") rfl)
  · exact He.free_ok X G (c.1.fact 2 (f := .free "int") rfl)
  · exact He.free_ok X G (c.1.fact 3 (f := .free "bool") rfl)
  · exact He.free_ok X G (c.1.fact 4 (f := .free "str") rfl)
  · exact He.free_ok X G (c.1.fact 5 (f := .free "tuple") rfl)
  · exact He.free_ok X G (c.1.fact 6 (f := .free "list") rfl)
  · exact He.free_ok X G (c.1.fact 7 (f := .free "dict") rfl)
  · exact He.free_ok X G (c.1.fact 8 (f := .free "set") rfl)
  · exact He.free_ok X G (c.1.fact 9 (f := .free "range") rfl)
  · exact He.free_ok X G (c.1.fact 10 (f := .free "enumerate") rfl)
  · exact He.free_ok X G (c.1.fact 11 (f := .free "zip") rfl)
  · exact He.free_ok X G (c.1.fact 12 (f := .free "sorted") rfl)
  · exact He.free_ok X G (c.1.fact 13 (f := .free "min") rfl)
  · exact He.free_ok X G (c.1.fact 14 (f := .free "max") rfl)
  · exact He.free_ok X G (c.1.fact 15 (f := .free "sum") rfl)
  · exact He.free_ok X G (c.1.fact 16 (f := .free "all") rfl)
  · exact He.free_ok X G (c.1.fact 17 (f := .free "any") rfl)
  · exact He.free_ok X G (c.1.fact 18 (f := .free "repr") rfl)
  · exact He.free_ok X G (c.1.fact 19 (f := .free "ValueError") rfl)
  · exact He.free_ok X G (c.1.fact 20 (f := .free "reversed") rfl)
  · exact He.free_ok X G (c.1.fact 21 (f := .free "Exception") rfl)
theorem go_MOST_LETTERS {k : Nat} (X : K.In h) (G : h.Ns mainGlobals mg) (c : SaysX fa fn exF K) : Good ((pl P w K mg base).at k) (oGlo "MOST_LETTERS" (.int 8)) := by
  obtain ⟨t, e⟩ := He.int_ok X G (c.1.fact 31 (f := .int "MOST_LETTERS" 8) rfl)
  exact good_glo (p := (pl P w K mg base).at k) e (v := .int 8) ⟨t, rfl⟩ (fun F => rep_int.mpr rfl) (by decide)
theorem go_ALPHABET {k : Nat} (X : K.In h) (G : h.Ns mainGlobals mg) (c : SaysX fa fn exF K) : Good ((pl P w K mg base).at k) (oGlo "ALPHABET" (.str "abcdefghijklmnopqrstuvwxyz")) := by
  obtain ⟨t, e⟩ := He.str_ok X G (c.1.fact 32 (f := .str "ALPHABET" "abcdefghijklmnopqrstuvwxyz") rfl)
  exact good_glo (p := (pl P w K mg base).at k) e (v := .str "abcdefghijklmnopqrstuvwxyz") ⟨t, rfl⟩ (fun F => rep_str.mpr rfl) (by decide)
theorem rs_BadPrices {k : Nat} (X : K.In h) (G : h.Ns mainGlobals mg) (c : SaysX fa fn exF K) : SGood ((pl P w K mg base).at k) (sRaise "BadPrices") := by
  obtain ⟨a1, a2, a3, a4⟩ := He.exc_ok (c.1.fact 39 (f := .exc "BadPrices") rfl)
  exact good_raise (p := (pl P w K mg base).at k) a1 (He.glo_ok X G (c.1.fact 40 (f := .glo "BadPrices") rfl)) a2 a3 a4 (by decide)
theorem go_LAST {k : Nat} (X : K.In h) (G : h.Ns mainGlobals mg) (c : SaysX fa fn exF K) : Good ((pl P w K mg base).at k) (oGlo "LAST" (.int 1000000000)) := by
  obtain ⟨t, e⟩ := He.int_ok X G (c.1.fact 47 (f := .int "LAST" 1000000000) rfl)
  exact good_glo (p := (pl P w K mg base).at k) e (v := .int 1000000000) ⟨t, rfl⟩ (fun F => rep_int.mpr rfl) (by decide)
theorem go_MOST_PRICE {k : Nat} (X : K.In h) (G : h.Ns mainGlobals mg) (c : SaysX fa fn exF K) : Good ((pl P w K mg base).at k) (oGlo "MOST_PRICE" (.int 999)) := by
  obtain ⟨t, e⟩ := He.int_ok X G (c.1.fact 58 (f := .int "MOST_PRICE" 999) rfl)
  exact good_glo (p := (pl P w K mg base).at k) e (v := .int 999) ⟨t, rfl⟩ (fun F => rep_int.mpr rfl) (by decide)
theorem rs_NoMoment {k : Nat} (X : K.In h) (G : h.Ns mainGlobals mg) (c : SaysX fa fn exF K) : SGood ((pl P w K mg base).at k) (sRaise "NoMoment") := by
  obtain ⟨a1, a2, a3, a4⟩ := He.exc_ok (c.1.fact 66 (f := .exc "NoMoment") rfl)
  exact good_raise (p := (pl P w K mg base).at k) a1 (He.glo_ok X G (c.1.fact 67 (f := .glo "NoMoment") rfl)) a2 a3 a4 (by decide)
theorem rs_BadStroke {k : Nat} (X : K.In h) (G : h.Ns mainGlobals mg) (c : SaysX fa fn exF K) : SGood ((pl P w K mg base).at k) (sRaise "BadStroke") := by
  obtain ⟨a1, a2, a3, a4⟩ := He.exc_ok (c.1.fact 72 (f := .exc "BadStroke") rfl)
  exact good_raise (p := (pl P w K mg base).at k) a1 (He.glo_ok X G (c.1.fact 73 (f := .glo "BadStroke") rfl)) a2 a3 a4 (by decide)
theorem go_MOST_LOOKS {k : Nat} (X : K.In h) (G : h.Ns mainGlobals mg) (c : SaysX fa fn exF K) : Good ((pl P w K mg base).at k) (oGlo "MOST_LOOKS" (.int 20)) := by
  obtain ⟨t, e⟩ := He.int_ok X G (c.1.fact 75 (f := .int "MOST_LOOKS" 20) rfl)
  exact good_glo (p := (pl P w K mg base).at k) e (v := .int 20) ⟨t, rfl⟩ (fun F => rep_int.mpr rfl) (by decide)
theorem go_MOST_STRETCHES {k : Nat} (X : K.In h) (G : h.Ns mainGlobals mg) (c : SaysX fa fn exF K) : Good ((pl P w K mg base).at k) (oGlo "MOST_STRETCHES" (.int 12)) := by
  obtain ⟨t, e⟩ := He.int_ok X G (c.1.fact 79 (f := .int "MOST_STRETCHES" 12) rfl)
  exact good_glo (p := (pl P w K mg base).at k) e (v := .int 12) ⟨t, rfl⟩ (fun F => rep_int.mpr rfl) (by decide)
theorem rs_BadLook {k : Nat} (X : K.In h) (G : h.Ns mainGlobals mg) (c : SaysX fa fn exF K) : SGood ((pl P w K mg base).at k) (sRaise "BadLook") := by
  obtain ⟨a1, a2, a3, a4⟩ := He.exc_ok (c.1.fact 83 (f := .exc "BadLook") rfl)
  exact good_raise (p := (pl P w K mg base).at k) a1 (He.glo_ok X G (c.1.fact 84 (f := .glo "BadLook") rfl)) a2 a3 a4 (by decide)
theorem rs_BadWish {k : Nat} (X : K.In h) (G : h.Ns mainGlobals mg) (c : SaysX fa fn exF K) : SGood ((pl P w K mg base).at k) (sRaise "BadWish") := by
  obtain ⟨a1, a2, a3, a4⟩ := He.exc_ok (c.1.fact 86 (f := .exc "BadWish") rfl)
  exact good_raise (p := (pl P w K mg base).at k) a1 (He.glo_ok X G (c.1.fact 87 (f := .glo "BadWish") rfl)) a2 a3 a4 (by decide)
theorem go_ALL {k : Nat} (X : K.In h) (G : h.Ns mainGlobals mg) (c : SaysX fa fn exF K) : Good ((pl P w K mg base).at k) (oGlo "ALL" (.tup [.tup [.int 0, .int 1000000000]])) := by
  exact good_gloB (p := (pl P w K mg base).at k) X G (ex_get (l := exs K) (i := 0) c.2 rfl) (by decide)
theorem rs_BadLaying {k : Nat} (X : K.In h) (G : h.Ns mainGlobals mg) (c : SaysX fa fn exF K) : SGood ((pl P w K mg base).at k) (sRaise "BadLaying") := by
  obtain ⟨a1, a2, a3, a4⟩ := He.exc_ok (c.1.fact 94 (f := .exc "BadLaying") rfl)
  exact good_raise (p := (pl P w K mg base).at k) a1 (He.glo_ok X G (c.1.fact 95 (f := .glo "BadLaying") rfl)) a2 a3 a4 (by decide)
theorem go_NOW {k : Nat} (X : K.In h) (G : h.Ns mainGlobals mg) (c : SaysX fa fn exF K) : Good ((pl P w K mg base).at k) (oGlo "NOW" (.int (-1))) := by
  exact good_gloB (p := (pl P w K mg base).at k) X G (ex_get (l := exs K) (i := 2) c.2 rfl) (by decide)
theorem h_Book___len__ (X : K.In h) (G : h.Ns mainGlobals mg) (c : SaysX fa fn exF K) : Has (pl P w K mg base) 1 ("Book", some "__len__") ["self"] [] S_Book___len__ := by
  refine has_of (p := pl P w K mg base) (k := 0) (d := d_Book___len__) (N := n_Book___len__) b_Book___len__ (c.1.def_ 0 (d := d_Book___len__) rfl) hs_Book___len__ hc_Book___len__ (frees X G c) ?_ (fun fd F => ⟨[], [], FunD.bindsN (ps := ["self"]) F (fun _ _ _ _ _ _ us hl => match us, hl with | [_], _ => rfl), .nil, fun _ => RepL.nil⟩) vc_len
  simp only [b_Book___len__, usesSs, usesS, usesE, usesEs, and_true, true_and]
  have G1 := True.intro
  have g0 : Good ((pl P w K mg base).at 0) (oFld "Book" "row") := @good_fld ((pl P w K mg base).at 0) "Book" "row" (He.cls_ok (c.1.fact 22 (f := .cls "Book") rfl)) (He.noat_ok (c.1.fact 23 (f := .noat "Book" "row") rfl))
  exact (by repeat' (first | exact trivial | assumption | apply And.intro))
theorem h_Book_strokes (X : K.In h) (G : h.Ns mainGlobals mg) (c : SaysX fa fn exF K) : Has (pl P w K mg base) 1 ("Book", some "strokes") ["self"] [] S_Book_strokes := by
  refine has_of (p := pl P w K mg base) (k := 0) (d := d_Book_strokes) (N := n_Book_strokes) b_Book_strokes (c.1.def_ 1 (d := d_Book_strokes) rfl) hs_Book_strokes hc_Book_strokes (frees X G c) ?_ (fun fd F => ⟨[], [], FunD.bindsN (ps := ["self"]) F (fun _ _ _ _ _ _ us hl => match us, hl with | [_], _ => rfl), .nil, fun _ => RepL.nil⟩) vc_strokes
  simp only [b_Book_strokes, usesSs, usesS, usesE, usesEs, and_true, true_and]
  have G1 := True.intro
  have g0 : Good ((pl P w K mg base).at 0) (oFld "Book" "row") := @good_fld ((pl P w K mg base).at 0) "Book" "row" (He.cls_ok (c.1.fact 22 (f := .cls "Book") rfl)) (He.noat_ok (c.1.fact 23 (f := .noat "Book" "row") rfl))
  exact (by repeat' (first | exact trivial | assumption | apply And.intro))
theorem h__law_cells (X : K.In h) (G : h.Ns mainGlobals mg) (c : SaysX fa fn exF K) : Has (pl P w K mg base) 1 ("_law_cells", none) ["lot"] [] S__law_cells := by
  refine has_of (p := pl P w K mg base) (k := 0) (d := d__law_cells) (N := n__law_cells) b__law_cells (c.1.def_ 2 (d := d__law_cells) rfl) hs__law_cells hc__law_cells (frees X G c) ?_ (fun fd F => ⟨[], [], FunD.bindsN (ps := ["lot"]) F (fun _ _ _ _ _ _ us hl => match us, hl with | [_], _ => rfl), .nil, fun _ => RepL.nil⟩) vc_cells
  simp only [b__law_cells, usesSs, usesS, usesE, usesEs, and_true, true_and]
  
theorem h__law_nested (X : K.In h) (G : h.Ns mainGlobals mg) (c : SaysX fa fn exF K) : Has (pl P w K mg base) 1 ("_law_nested", none) ["laying"] [] S__law_nested := by
  refine has_of (p := pl P w K mg base) (k := 0) (d := d__law_nested) (N := n__law_nested) b__law_nested (c.1.def_ 3 (d := d__law_nested) rfl) hs__law_nested hc__law_nested (frees X G c) ?_ (fun fd F => ⟨[], [], FunD.bindsN (ps := ["laying"]) F (fun _ _ _ _ _ _ us hl => match us, hl with | [_], _ => rfl), .nil, fun _ => RepL.nil⟩) vc_nested
  simp only [b__law_nested, usesSs, usesS, usesE, usesEs, and_true, true_and]
  
theorem h__law_pen (X : K.In h) (G : h.Ns mainGlobals mg) (c : SaysX fa fn exF K) : Has (pl P w K mg base) 1 ("_law_pen", none) ["script"] [] S__law_pen := by
  refine has_of (p := pl P w K mg base) (k := 0) (d := d__law_pen) (N := n__law_pen) b__law_pen (c.1.def_ 4 (d := d__law_pen) rfl) hs__law_pen hc__law_pen (frees X G c) ?_ (fun fd F => ⟨[], [], FunD.bindsN (ps := ["script"]) F (fun _ _ _ _ _ _ us hl => match us, hl with | [_], _ => rfl), .nil, fun _ => RepL.nil⟩) vc_pen
  simp only [b__law_pen, usesSs, usesS, usesE, usesEs, and_true, true_and]
  
theorem h__law_top (X : K.In h) (G : h.Ns mainGlobals mg) (c : SaysX fa fn exF K) : Has (pl P w K mg base) 1 ("_law_top", none) ["some", "place"] [] S__law_top := by
  refine has_of (p := pl P w K mg base) (k := 0) (d := d__law_top) (N := n__law_top) b__law_top (c.1.def_ 5 (d := d__law_top) rfl) hs__law_top hc__law_top (frees X G c) ?_ (fun fd F => ⟨[], [], FunD.bindsN (ps := ["some", "place"]) F (fun _ _ _ _ _ _ us hl => match us, hl with | [_, _], _ => rfl), .nil, fun _ => RepL.nil⟩) vc_top
  simp only [b__law_top, usesSs, usesS, usesE, usesEs, and_true, true_and]
  
theorem h__law_weave (X : K.In h) (G : h.Ns mainGlobals mg) (c : SaysX fa fn exF K) : Has (pl P w K mg base) 1 ("_law_weave", none) ["some", "laying"] [] S__law_weave := by
  refine has_of (p := pl P w K mg base) (k := 0) (d := d__law_weave) (N := n__law_weave) b__law_weave (c.1.def_ 6 (d := d__law_weave) rfl) hs__law_weave hc__law_weave (frees X G c) ?_ (fun fd F => ⟨[], [], FunD.bindsN (ps := ["some", "laying"]) F (fun _ _ _ _ _ _ us hl => match us, hl with | [_, _], _ => rfl), .nil, fun _ => RepL.nil⟩) vc_weave
  simp only [b__law_weave, usesSs, usesS, usesE, usesEs, and_true, true_and]
  
theorem h__law_well (X : K.In h) (G : h.Ns mainGlobals mg) (c : SaysX fa fn exF K) : Has (pl P w K mg base) 1 ("_law_well", none) ["pen"] [] S__law_well := by
  refine has_of (p := pl P w K mg base) (k := 0) (d := d__law_well) (N := n__law_well) b__law_well (c.1.def_ 7 (d := d__law_well) rfl) hs__law_well hc__law_well (frees X G c) ?_ (fun fd F => ⟨[], [], FunD.bindsN (ps := ["pen"]) F (fun _ _ _ _ _ _ us hl => match us, hl with | [_], _ => rfl), .nil, fun _ => RepL.nil⟩) vc_well
  simp only [b__law_well, usesSs, usesS, usesE, usesEs, and_true, true_and]
  
theorem h_is_name (X : K.In h) (G : h.Ns mainGlobals mg) (c : SaysX fa fn exF K) : Has (pl P w K mg base) 1 ("is_name", none) ["thing"] [] S_is_name := by
  refine has_of (p := pl P w K mg base) (k := 0) (d := d_is_name) (N := n_is_name) b_is_name (c.1.def_ 8 (d := d_is_name) rfl) hs_is_name hc_is_name (frees X G c) ?_ (fun fd F => ⟨[], [], FunD.bindsN (ps := ["thing"]) F (fun _ _ _ _ _ _ us hl => match us, hl with | [_], _ => rfl), .nil, fun _ => RepL.nil⟩) vc_is_name
  simp only [b_is_name, usesSs, usesS, usesE, usesEs, and_true, true_and]
  have G1 := True.intro
  have g0 : Good ((pl P w K mg base).at 0) (oGlo "MOST_LETTERS" (.int 8)) := go_MOST_LETTERS X G c
  have g1 : Good ((pl P w K mg base).at 0) (oGlo "ALPHABET" (.str "abcdefghijklmnopqrstuvwxyz")) := go_ALPHABET X G c
  exact (by repeat' (first | exact trivial | assumption | apply And.intro))
theorem hn_is_whole (X : K.In h) (G : h.Ns mainGlobals mg) (c : SaysX fa fn exF K) (fd : FuncData) (F : FunD K d_is_whole.name d_is_whole.qual d_is_whole.params d_is_whole.body d_is_whole.scope (d_is_whole.dvs K) (d_is_whole.kws K) (He.fAd K d_is_whole.at_) fd) : FnD (pl P w K mg base) 1 (He.fAd K ("is_whole", none)) fd ["thing", "least"] S_is_whole := by
  refine fn_ok (p := (pl P w K mg base).at 0) (N := n_is_whole) (ps := ["thing", "least"]) b_is_whole F (C8.fnScope_by hs_is_whole) (frees X G c) hc_is_whole ?_ vc_is_whole
  simp only [b_is_whole, usesSs, usesS, usesE, usesEs, and_true, true_and]
  
theorem h_is_whole (X : K.In h) (G : h.Ns mainGlobals mg) (c : SaysX fa fn exF K) : Has (pl P w K mg base) 1 ("is_whole", none) ["thing", "least"] [.int 0] S_is_whole := by
  obtain ⟨fd, F⟩ := c.1.def_ 9 (d := d_is_whole) rfl
  obtain ⟨ds, v, b⟩ := FunD.binds0 (ps := ["thing", "least"]) F 1 (List.cons_ne_nil _ _) rfl (fun D doc pm an cdv ct us ks l1 l2 => match us, l1, ks, l2 with | [_], _, [_], _ => ⟨_, _, _, _, _, _, rfl, rfl, rfl⟩)
  exact ⟨fd, _, ds, hn_is_whole X G c fd F, F.kp, b, v, fun _ => RepL.mk (rep_int.mpr rfl) (RepL.nil)⟩
theorem hk_is_whole {k : Nat} (X : K.In h) (G : h.Ns mainGlobals mg) (c : SaysX fa fn exF K) (hk : 1 ≤ k) : Good ((pl P w K mg base).at k) (oFnK "is_whole" 1 ["least"] [.nth 0, .nth 1] S_is_whole) := by
  obtain ⟨fd, F⟩ := c.1.def_ 9 (d := d_is_whole) rfl
  have kb : KBn K fd ["thing", "least"] 1 ["least"] (fun us ws => us ++ ws) (fun us ws => us ++ ws) := kbinds_all F (fun us ws => us ++ ws) (fun r1 r2 => r1.append r2) (fun kV doc pm an cdv ct us ws l1 l2 => match us, l1, ws, l2 with | [_], _, [_], _ => rfl)
  refine @good_fnK ((pl P w K mg base).at k) 1 _ fd ["thing", "least"] ["least"] S_is_whole "is_whole" 1 [.nth 0, .nth 1] _ _ (hn_is_whole X G c fd F) hk (He.glo_ok X G (c.1.fact 33 (f := .glo "is_whole") rfl)) F.kp kb (fun vs zs l1 l2 => ?_) ?_ rfl (by decide)
  · match vs, l1, zs, l2 with
    | [_], _, [_], _ => rfl
  · intro q hq
    simp only [List.mem_cons, List.not_mem_nil, or_false] at hq
    rcases hq with rfl | rfl
    · exact (show 0 < 1 + 1 by decide)
    · exact (show 1 < 1 + 1 by decide)
theorem h_joined (X : K.In h) (G : h.Ns mainGlobals mg) (c : SaysX fa fn exF K) : Has (pl P w K mg base) 1 ("joined", none) ["some"] [] S_joined := by
  refine has_of (p := pl P w K mg base) (k := 0) (d := d_joined) (N := n_joined) b_joined (c.1.def_ 10 (d := d_joined) rfl) hs_joined hc_joined (frees X G c) ?_ (fun fd F => ⟨[], [], FunD.bindsN (ps := ["some"]) F (fun _ _ _ _ _ _ us hl => match us, hl with | [_], _ => rfl), .nil, fun _ => RepL.nil⟩) vc_joined
  simp only [b_joined, usesSs, usesS, usesE, usesEs, and_true, true_and]
  
theorem h_laid_over (X : K.In h) (G : h.Ns mainGlobals mg) (c : SaysX fa fn exF K) : Has (pl P w K mg base) 1 ("laid_over", none) ["parts", "low", "high", "giver"] [] S_laid_over := by
  refine has_of (p := pl P w K mg base) (k := 0) (d := d_laid_over) (N := n_laid_over) b_laid_over (c.1.def_ 11 (d := d_laid_over) rfl) hs_laid_over hc_laid_over (frees X G c) ?_ (fun fd F => ⟨[], [], FunD.bindsN (ps := ["parts", "low", "high", "giver"]) F (fun _ _ _ _ _ _ us hl => match us, hl with | [_, _, _, _], _ => rfl), .nil, fun _ => RepL.nil⟩) vc_laid_over
  simp only [b_laid_over, usesSs, usesS, usesE, usesEs, and_true, true_and]
  
theorem h_merged (X : K.In h) (G : h.Ns mainGlobals mg) (c : SaysX fa fn exF K) : Has (pl P w K mg base) 1 ("merged", none) ["parts"] [] S_merged := by
  refine has_of (p := pl P w K mg base) (k := 0) (d := d_merged) (N := n_merged) b_merged (c.1.def_ 12 (d := d_merged) rfl) hs_merged hc_merged (frees X G c) ?_ (fun fd F => ⟨[], [], FunD.bindsN (ps := ["parts"]) F (fun _ _ _ _ _ _ us hl => match us, hl with | [_], _ => rfl), .nil, fun _ => RepL.nil⟩) vc_merged
  simp only [b_merged, usesSs, usesS, usesE, usesEs, and_true, true_and]
  
theorem h_moved (X : K.In h) (G : h.Ns mainGlobals mg) (c : SaysX fa fn exF K) : Has (pl P w K mg base) 1 ("moved", none) ["look", "laying"] [] S_moved := by
  refine has_of (p := pl P w K mg base) (k := 0) (d := d_moved) (N := n_moved) b_moved (c.1.def_ 13 (d := d_moved) rfl) hs_moved hc_moved (frees X G c) ?_ (fun fd F => ⟨[], [], FunD.bindsN (ps := ["look", "laying"]) F (fun _ _ _ _ _ _ us hl => match us, hl with | [_, _], _ => rfl), .nil, fun _ => RepL.nil⟩) vc_moved
  simp only [b_moved, usesSs, usesS, usesE, usesEs, and_true, true_and]
  
theorem h_need_colours (X : K.In h) (G : h.Ns mainGlobals mg) (c : SaysX fa fn exF K) : Has (pl P w K mg base) 1 ("need_colours", none) ["prices", "some"] [] S_need_colours := by
  refine has_of (p := pl P w K mg base) (k := 0) (d := d_need_colours) (N := n_need_colours) b_need_colours (c.1.def_ 14 (d := d_need_colours) rfl) hs_need_colours hc_need_colours (frees X G c) ?_ (fun fd F => ⟨[], [], FunD.bindsN (ps := ["prices", "some"]) F (fun _ _ _ _ _ _ us hl => match us, hl with | [_, _], _ => rfl), .nil, fun _ => RepL.nil⟩) vc_need_colours
  simp only [b_need_colours, usesSs, usesS, usesE, usesEs, and_true, true_and]
  have G1 := True.intro
  have g0 : SGood ((pl P w K mg base).at 0) (sRaise "BadPrices") := rs_BadPrices X G c
  exact (by repeat' (first | exact trivial | assumption | apply And.intro))
theorem h_renumbered (X : K.In h) (G : h.Ns mainGlobals mg) (c : SaysX fa fn exF K) : Has (pl P w K mg base) 1 ("renumbered", none) ["seen", "elder"] [] S_renumbered := by
  refine has_of (p := pl P w K mg base) (k := 0) (d := d_renumbered) (N := n_renumbered) b_renumbered (c.1.def_ 15 (d := d_renumbered) rfl) hs_renumbered hc_renumbered (frees X G c) ?_ (fun fd F => ⟨[], [], FunD.bindsN (ps := ["seen", "elder"]) F (fun _ _ _ _ _ _ us hl => match us, hl with | [_, _], _ => rfl), .nil, fun _ => RepL.nil⟩) vc_renumbered
  simp only [b_renumbered, usesSs, usesS, usesE, usesEs, and_true, true_and]
  
theorem h_woven (X : K.In h) (G : h.Ns mainGlobals mg) (c : SaysX fa fn exF K) : Has (pl P w K mg base) 1 ("woven", none) ["size", "laying"] [] S_woven := by
  refine has_of (p := pl P w K mg base) (k := 0) (d := d_woven) (N := n_woven) b_woven (c.1.def_ 16 (d := d_woven) rfl) hs_woven hc_woven (frees X G c) ?_ (fun fd F => ⟨[], [], FunD.bindsN (ps := ["size", "laying"]) F (fun _ _ _ _ _ _ us hl => match us, hl with | [_, _], _ => rfl), .nil, fun _ => RepL.nil⟩) vc_woven
  simp only [b_woven, usesSs, usesS, usesE, usesEs, and_true, true_and]
  
theorem h__law_draw (X : K.In h) (G : h.Ns mainGlobals mg) (c : SaysX fa fn exF K) : Has (pl P w K mg base) 2 ("_law_draw", none) ["pen", "below"] [] S__law_draw := by
  refine has_of (p := pl P w K mg base) (k := 1) (d := d__law_draw) (N := n__law_draw) b__law_draw (c.1.def_ 17 (d := d__law_draw) rfl) hs__law_draw hc__law_draw (frees X G c) ?_ (fun fd F => ⟨[], [], FunD.bindsN (ps := ["pen", "below"]) F (fun _ _ _ _ _ _ us hl => match us, hl with | [_, _], _ => rfl), .nil, fun _ => RepL.nil⟩) vc_draw
  simp only [b__law_draw, usesSs, usesS, usesE, usesEs, and_true, true_and]
  have G1 := True.intro
  have g0 : Good ((pl P w K mg base).at 1) (oFn "_law_well" 1 [] S__law_well) := Has.fn (h__law_well X G c) (by decide) (He.glo_ok X G (c.1.fact 29 (f := .glo "_law_well") rfl)) rfl
  exact (by repeat' (first | exact trivial | assumption | apply And.intro))
theorem h_both (X : K.In h) (G : h.Ns mainGlobals mg) (c : SaysX fa fn exF K) : Has (pl P w K mg base) 2 ("both", none) ["some", "others"] [] S_both := by
  refine has_of (p := pl P w K mg base) (k := 1) (d := d_both) (N := n_both) b_both (c.1.def_ 18 (d := d_both) rfl) hs_both hc_both (frees X G c) ?_ (fun fd F => ⟨[], [], FunD.bindsN (ps := ["some", "others"]) F (fun _ _ _ _ _ _ us hl => match us, hl with | [_, _], _ => rfl), .nil, fun _ => RepL.nil⟩) vc_both
  simp only [b_both, usesSs, usesS, usesE, usesEs, and_true, true_and]
  have G1 := True.intro
  have g0 : Good ((pl P w K mg base).at 1) (oFn "joined" 1 [] S_joined) := Has.fn (h_joined X G c) (by decide) (He.glo_ok X G (c.1.fact 34 (f := .glo "joined") rfl)) rfl
  exact (by repeat' (first | exact trivial | assumption | apply And.intro))
theorem h_is_colour (X : K.In h) (G : h.Ns mainGlobals mg) (c : SaysX fa fn exF K) : Has (pl P w K mg base) 2 ("is_colour", none) ["thing"] [] S_is_colour := by
  refine has_of (p := pl P w K mg base) (k := 1) (d := d_is_colour) (N := n_is_colour) b_is_colour (c.1.def_ 19 (d := d_is_colour) rfl) hs_is_colour hc_is_colour (frees X G c) ?_ (fun fd F => ⟨[], [], FunD.bindsN (ps := ["thing"]) F (fun _ _ _ _ _ _ us hl => match us, hl with | [_], _ => rfl), .nil, fun _ => RepL.nil⟩) vc_is_colour
  simp only [b_is_colour, usesSs, usesS, usesE, usesEs, and_true, true_and]
  have G1 := True.intro
  have g0 : Good ((pl P w K mg base).at 1) (oFn "is_name" 1 [] S_is_name) := Has.fn (h_is_name X G c) (by decide) (He.glo_ok X G (c.1.fact 30 (f := .glo "is_name") rfl)) rfl
  exact (by repeat' (first | exact trivial | assumption | apply And.intro))
theorem h_is_place (X : K.In h) (G : h.Ns mainGlobals mg) (c : SaysX fa fn exF K) : Has (pl P w K mg base) 2 ("is_place", none) ["thing"] [] S_is_place := by
  refine has_of (p := pl P w K mg base) (k := 1) (d := d_is_place) (N := n_is_place) b_is_place (c.1.def_ 20 (d := d_is_place) rfl) hs_is_place hc_is_place (frees X G c) ?_ (fun fd F => ⟨[], [], FunD.bindsN (ps := ["thing"]) F (fun _ _ _ _ _ _ us hl => match us, hl with | [_], _ => rfl), .nil, fun _ => RepL.nil⟩) vc_is_place
  simp only [b_is_place, usesSs, usesS, usesE, usesEs, and_true, true_and]
  have G1 := True.intro
  have g0 : Good ((pl P w K mg base).at 1) (oFn "is_whole" 1 [.int 0] S_is_whole) := Has.fn (h_is_whole X G c) (by decide) (He.glo_ok X G (c.1.fact 33 (f := .glo "is_whole") rfl)) rfl
  have g1 : Good ((pl P w K mg base).at 1) (oGlo "LAST" (.int 1000000000)) := go_LAST X G c
  exact (by repeat' (first | exact trivial | assumption | apply And.intro))
theorem h_outside (X : K.In h) (G : h.Ns mainGlobals mg) (c : SaysX fa fn exF K) : Has (pl P w K mg base) 2 ("outside", none) ["some"] [] S_outside := by
  refine has_of (p := pl P w K mg base) (k := 1) (d := d_outside) (N := n_outside) b_outside (c.1.def_ 21 (d := d_outside) rfl) hs_outside hc_outside (frees X G c) ?_ (fun fd F => ⟨[], [], FunD.bindsN (ps := ["some"]) F (fun _ _ _ _ _ _ us hl => match us, hl with | [_], _ => rfl), .nil, fun _ => RepL.nil⟩) vc_outside
  simp only [b_outside, usesSs, usesS, usesE, usesEs, and_true, true_and]
  have G1 := True.intro
  have g0 : Good ((pl P w K mg base).at 1) (oFn "joined" 1 [] S_joined) := Has.fn (h_joined X G c) (by decide) (He.glo_ok X G (c.1.fact 34 (f := .glo "joined") rfl)) rfl
  have g1 : Good ((pl P w K mg base).at 1) (oGlo "LAST" (.int 1000000000)) := go_LAST X G c
  exact (by repeat' (first | exact trivial | assumption | apply And.intro))
theorem h_painted (X : K.In h) (G : h.Ns mainGlobals mg) (c : SaysX fa fn exF K) : Has (pl P w K mg base) 2 ("painted", none) ["some"] [] S_painted := by
  refine has_of (p := pl P w K mg base) (k := 1) (d := d_painted) (N := n_painted) b_painted (c.1.def_ 22 (d := d_painted) rfl) hs_painted hc_painted (frees X G c) ?_ (fun fd F => ⟨[], [], FunD.bindsN (ps := ["some"]) F (fun _ _ _ _ _ _ us hl => match us, hl with | [_], _ => rfl), .nil, fun _ => RepL.nil⟩) vc_painted
  simp only [b_painted, usesSs, usesS, usesE, usesEs, and_true, true_and]
  have G1 := True.intro
  have g0 : Good ((pl P w K mg base).at 1) (oGlo "LAST" (.int 1000000000)) := go_LAST X G c
  have g1 : Good ((pl P w K mg base).at 1) (oFn "laid_over" 4 [] S_laid_over) := Has.fn (h_laid_over X G c) (by decide) (He.glo_ok X G (c.1.fact 35 (f := .glo "laid_over") rfl)) rfl
  exact (by repeat' (first | exact trivial | assumption | apply And.intro))
theorem h_unlike (X : K.In h) (G : h.Ns mainGlobals mg) (c : SaysX fa fn exF K) : Has (pl P w K mg base) 2 ("unlike", none) ["seen", "others"] [] S_unlike := by
  refine has_of (p := pl P w K mg base) (k := 1) (d := d_unlike) (N := n_unlike) b_unlike (c.1.def_ 23 (d := d_unlike) rfl) hs_unlike hc_unlike (frees X G c) ?_ (fun fd F => ⟨[], [], FunD.bindsN (ps := ["seen", "others"]) F (fun _ _ _ _ _ _ us hl => match us, hl with | [_, _], _ => rfl), .nil, fun _ => RepL.nil⟩) vc_unlike
  simp only [b_unlike, usesSs, usesS, usesE, usesEs, and_true, true_and]
  have G1 := True.intro
  have g0 : Good ((pl P w K mg base).at 1) (oFn "joined" 1 [] S_joined) := Has.fn (h_joined X G c) (by decide) (He.glo_ok X G (c.1.fact 34 (f := .glo "joined") rfl)) rfl
  exact (by repeat' (first | exact trivial | assumption | apply And.intro))
theorem h__law_fit (X : K.In h) (G : h.Ns mainGlobals mg) (c : SaysX fa fn exF K) : Has (pl P w K mg base) 3 ("_law_fit", none) ["pen", "cells", "some", "laying", "hues"] [] S__law_fit := by
  refine has_of (p := pl P w K mg base) (k := 2) (d := d__law_fit) (N := n__law_fit) b__law_fit (c.1.def_ 24 (d := d__law_fit) rfl) hs__law_fit hc__law_fit (frees X G c) ?_ (fun fd F => ⟨[], [], FunD.bindsN (ps := ["pen", "cells", "some", "laying", "hues"]) F (fun _ _ _ _ _ _ us hl => match us, hl with | [_, _, _, _, _], _ => rfl), .nil, fun _ => RepL.nil⟩) vc_fit
  simp only [b__law_fit, usesSs, usesS, usesE, usesEs, and_true, true_and]
  have G1 := True.intro
  have g0 : Good ((pl P w K mg base).at 2) (oFn "_law_weave" 2 [] S__law_weave) := Has.fn (h__law_weave X G c) (by decide) (He.glo_ok X G (c.1.fact 28 (f := .glo "_law_weave") rfl)) rfl
  have g1 : Good ((pl P w K mg base).at 2) (oFn "_law_top" 2 [] S__law_top) := Has.fn (h__law_top X G c) (by decide) (He.glo_ok X G (c.1.fact 27 (f := .glo "_law_top") rfl)) rfl
  have g2 : Good ((pl P w K mg base).at 2) (oFn "_law_draw" 2 [] S__law_draw) := Has.fn (h__law_draw X G c) (by decide) (He.glo_ok X G (c.1.fact 43 (f := .glo "_law_draw") rfl)) rfl
  exact (by repeat' (first | exact trivial | assumption | apply And.intro))
theorem h__law_hues (X : K.In h) (G : h.Ns mainGlobals mg) (c : SaysX fa fn exF K) : Has (pl P w K mg base) 3 ("_law_hues", none) ["pen"] [] S__law_hues := by
  refine has_of (p := pl P w K mg base) (k := 2) (d := d__law_hues) (N := n__law_hues) b__law_hues (c.1.def_ 25 (d := d__law_hues) rfl) hs__law_hues hc__law_hues (frees X G c) ?_ (fun fd F => ⟨[], [], FunD.bindsN (ps := ["pen"]) F (fun _ _ _ _ _ _ us hl => match us, hl with | [_], _ => rfl), .nil, fun _ => RepL.nil⟩) vc_hues
  simp only [b__law_hues, usesSs, usesS, usesE, usesEs, and_true, true_and]
  have G1 := True.intro
  have g0 : Good ((pl P w K mg base).at 2) (oFn "_law_draw" 2 [] S__law_draw) := Has.fn (h__law_draw X G c) (by decide) (He.glo_ok X G (c.1.fact 43 (f := .glo "_law_draw") rfl)) rfl
  exact (by repeat' (first | exact trivial | assumption | apply And.intro))
theorem h__law_looks (X : K.In h) (G : h.Ns mainGlobals mg) (c : SaysX fa fn exF K) : Has (pl P w K mg base) 3 ("_law_looks", none) ["pen", "lot", "size", "limit"] [] S__law_looks := by
  refine has_of (p := pl P w K mg base) (k := 2) (d := d__law_looks) (N := n__law_looks) b__law_looks (c.1.def_ 26 (d := d__law_looks) rfl) hs__law_looks hc__law_looks (frees X G c) ?_ (fun fd F => ⟨[], [], FunD.bindsN (ps := ["pen", "lot", "size", "limit"]) F (fun _ _ _ _ _ _ us hl => match us, hl with | [_, _, _, _], _ => rfl), .nil, fun _ => RepL.nil⟩) vc_looks
  simp only [b__law_looks, usesSs, usesS, usesE, usesEs, and_true, true_and]
  have G1 := True.intro
  have g0 : Good ((pl P w K mg base).at 2) (oFn "_law_draw" 2 [] S__law_draw) := Has.fn (h__law_draw X G c) (by decide) (He.glo_ok X G (c.1.fact 43 (f := .glo "_law_draw") rfl)) rfl
  exact (by repeat' (first | exact trivial | assumption | apply And.intro))
theorem h__law_lot (X : K.In h) (G : h.Ns mainGlobals mg) (c : SaysX fa fn exF K) : Has (pl P w K mg base) 3 ("_law_lot", none) ["pen"] [] S__law_lot := by
  refine has_of (p := pl P w K mg base) (k := 2) (d := d__law_lot) (N := n__law_lot) b__law_lot (c.1.def_ 27 (d := d__law_lot) rfl) hs__law_lot hc__law_lot (frees X G c) ?_ (fun fd F => ⟨[], [], FunD.bindsN (ps := ["pen"]) F (fun _ _ _ _ _ _ us hl => match us, hl with | [_], _ => rfl), .nil, fun _ => RepL.nil⟩) vc_lot
  simp only [b__law_lot, usesSs, usesS, usesE, usesEs, and_true, true_and]
  have G1 := True.intro
  have g0 : Good ((pl P w K mg base).at 2) (oFn "_law_draw" 2 [] S__law_draw) := Has.fn (h__law_draw X G c) (by decide) (He.glo_ok X G (c.1.fact 43 (f := .glo "_law_draw") rfl)) rfl
  exact (by repeat' (first | exact trivial | assumption | apply And.intro))
theorem h__law_stroke (X : K.In h) (G : h.Ns mainGlobals mg) (c : SaysX fa fn exF K) : Has (pl P w K mg base) 3 ("_law_stroke", none) ["pen", "lot", "hues"] [] S__law_stroke := by
  refine has_of (p := pl P w K mg base) (k := 2) (d := d__law_stroke) (N := n__law_stroke) b__law_stroke (c.1.def_ 28 (d := d__law_stroke) rfl) hs__law_stroke hc__law_stroke (frees X G c) ?_ (fun fd F => ⟨[], [], FunD.bindsN (ps := ["pen", "lot", "hues"]) F (fun _ _ _ _ _ _ us hl => match us, hl with | [_, _, _], _ => rfl), .nil, fun _ => RepL.nil⟩) vc_stroke
  simp only [b__law_stroke, usesSs, usesS, usesE, usesEs, and_true, true_and]
  have G1 := True.intro
  have g0 : Good ((pl P w K mg base).at 2) (oFn "_law_draw" 2 [] S__law_draw) := Has.fn (h__law_draw X G c) (by decide) (He.glo_ok X G (c.1.fact 43 (f := .glo "_law_draw") rfl)) rfl
  exact (by repeat' (first | exact trivial | assumption | apply And.intro))
theorem h_apart (X : K.In h) (G : h.Ns mainGlobals mg) (c : SaysX fa fn exF K) : Has (pl P w K mg base) 3 ("apart", none) ["some", "others"] [] S_apart := by
  refine has_of (p := pl P w K mg base) (k := 2) (d := d_apart) (N := n_apart) b_apart (c.1.def_ 29 (d := d_apart) rfl) hs_apart hc_apart (frees X G c) ?_ (fun fd F => ⟨[], [], FunD.bindsN (ps := ["some", "others"]) F (fun _ _ _ _ _ _ us hl => match us, hl with | [_, _], _ => rfl), .nil, fun _ => RepL.nil⟩) vc_apart
  simp only [b_apart, usesSs, usesS, usesE, usesEs, and_true, true_and]
  have G1 := True.intro
  have g0 : Good ((pl P w K mg base).at 2) (oFn "outside" 1 [] S_outside) := Has.fn (h_outside X G c) (by decide) (He.glo_ok X G (c.1.fact 48 (f := .glo "outside") rfl)) rfl
  have g1 : Good ((pl P w K mg base).at 2) (oFn "both" 2 [] S_both) := Has.fn (h_both X G c) (by decide) (He.glo_ok X G (c.1.fact 44 (f := .glo "both") rfl)) rfl
  exact (by repeat' (first | exact trivial | assumption | apply And.intro))
theorem h_are_prices (X : K.In h) (G : h.Ns mainGlobals mg) (c : SaysX fa fn exF K) : Has (pl P w K mg base) 3 ("are_prices", none) ["thing"] [] S_are_prices := by
  refine has_of (p := pl P w K mg base) (k := 2) (d := d_are_prices) (N := n_are_prices) b_are_prices (c.1.def_ 30 (d := d_are_prices) rfl) hs_are_prices hc_are_prices (frees X G c) ?_ (fun fd F => ⟨[], [], FunD.bindsN (ps := ["thing"]) F (fun _ _ _ _ _ _ us hl => match us, hl with | [_], _ => rfl), .nil, fun _ => RepL.nil⟩) vc_are_prices
  simp only [b_are_prices, usesSs, usesS, usesE, usesEs, and_true, true_and]
  have G1 := True.intro
  have g0 : Good ((pl P w K mg base).at 2) (oFn "is_colour" 1 [] S_is_colour) := Has.fn (h_is_colour X G c) (by decide) (He.glo_ok X G (c.1.fact 45 (f := .glo "is_colour") rfl)) rfl
  have g1 : Good ((pl P w K mg base).at 2) (oFnK "is_whole" 1 ["least"] [.nth 0, .nth 1] S_is_whole) := hk_is_whole X G c (by decide)
  have g2 : Good ((pl P w K mg base).at 2) (oGlo "MOST_PRICE" (.int 999)) := go_MOST_PRICE X G c
  exact (by repeat' (first | exact trivial | assumption | apply And.intro))
theorem h_is_moment (X : K.In h) (G : h.Ns mainGlobals mg) (c : SaysX fa fn exF K) : Has (pl P w K mg base) 3 ("is_moment", none) ["book", "thing"] [] S_is_moment := by
  refine has_of (p := pl P w K mg base) (k := 2) (d := d_is_moment) (N := n_is_moment) b_is_moment (c.1.def_ 31 (d := d_is_moment) rfl) hs_is_moment hc_is_moment (frees X G c) ?_ (fun fd F => ⟨[], [], FunD.bindsN (ps := ["book", "thing"]) F (fun _ _ _ _ _ _ us hl => match us, hl with | [_, _], _ => rfl), .nil, fun _ => RepL.nil⟩) vc_is_moment
  simp only [b_is_moment, usesSs, usesS, usesE, usesEs, and_true, true_and]
  have G1 := True.intro
  have g0 : Good ((pl P w K mg base).at 2) (oFn "is_place" 1 [] S_is_place) := Has.fn (h_is_place X G c) (by decide) (He.glo_ok X G (c.1.fact 46 (f := .glo "is_place") rfl)) rfl
  have g1 : Good ((pl P w K mg base).at 2) (oLenO "Book" S_Book___len__) := Has.lenO (h_Book___len__ X G c) (by decide) (He.meth_ok (c.1.fact 60 (f := .meth "Book" "__len__") rfl)) rfl
  exact (by repeat' (first | exact trivial | assumption | apply And.intro))
theorem h_is_stretch (X : K.In h) (G : h.Ns mainGlobals mg) (c : SaysX fa fn exF K) : Has (pl P w K mg base) 3 ("is_stretch", none) ["thing"] [] S_is_stretch := by
  refine has_of (p := pl P w K mg base) (k := 2) (d := d_is_stretch) (N := n_is_stretch) b_is_stretch (c.1.def_ 32 (d := d_is_stretch) rfl) hs_is_stretch hc_is_stretch (frees X G c) ?_ (fun fd F => ⟨[], [], FunD.bindsN (ps := ["thing"]) F (fun _ _ _ _ _ _ us hl => match us, hl with | [_], _ => rfl), .nil, fun _ => RepL.nil⟩) vc_is_stretch
  simp only [b_is_stretch, usesSs, usesS, usesE, usesEs, and_true, true_and]
  have G1 := True.intro
  have g0 : Good ((pl P w K mg base).at 2) (oFn "is_place" 1 [] S_is_place) := Has.fn (h_is_place X G c) (by decide) (He.glo_ok X G (c.1.fact 46 (f := .glo "is_place") rfl)) rfl
  exact (by repeat' (first | exact trivial | assumption | apply And.intro))
theorem h__law_laying (X : K.In h) (G : h.Ns mainGlobals mg) (c : SaysX fa fn exF K) : Has (pl P w K mg base) 4 ("_law_laying", none) ["pen", "lot", "hues", "size", "limit"] [] S__law_laying := by
  refine has_of (p := pl P w K mg base) (k := 3) (d := d__law_laying) (N := n__law_laying) b__law_laying (c.1.def_ 33 (d := d__law_laying) rfl) hs__law_laying hc__law_laying (frees X G c) ?_ (fun fd F => ⟨[], [], FunD.bindsN (ps := ["pen", "lot", "hues", "size", "limit"]) F (fun _ _ _ _ _ _ us hl => match us, hl with | [_, _, _, _, _], _ => rfl), .nil, fun _ => RepL.nil⟩) vc_laying
  simp only [b__law_laying, usesSs, usesS, usesE, usesEs, and_true, true_and]
  have G1 := True.intro
  have g0 : Good ((pl P w K mg base).at 3) (oFn "_law_draw" 2 [] S__law_draw) := Has.fn (h__law_draw X G c) (by decide) (He.glo_ok X G (c.1.fact 43 (f := .glo "_law_draw") rfl)) rfl
  have g1 : Good ((pl P w K mg base).at 3) (oFn "_law_stroke" 3 [] S__law_stroke) := Has.fn (h__law_stroke X G c) (by decide) (He.glo_ok X G (c.1.fact 55 (f := .glo "_law_stroke") rfl)) rfl
  exact (by repeat' (first | exact trivial | assumption | apply And.intro))
theorem h__law_strokes (X : K.In h) (G : h.Ns mainGlobals mg) (c : SaysX fa fn exF K) : Has (pl P w K mg base) 4 ("_law_strokes", none) ["pen", "lot", "hues", "limit"] [] S__law_strokes := by
  refine has_of (p := pl P w K mg base) (k := 3) (d := d__law_strokes) (N := n__law_strokes) b__law_strokes (c.1.def_ 34 (d := d__law_strokes) rfl) hs__law_strokes hc__law_strokes (frees X G c) ?_ (fun fd F => ⟨[], [], FunD.bindsN (ps := ["pen", "lot", "hues", "limit"]) F (fun _ _ _ _ _ _ us hl => match us, hl with | [_, _, _, _], _ => rfl), .nil, fun _ => RepL.nil⟩) vc_strokes2
  simp only [b__law_strokes, usesSs, usesS, usesE, usesEs, and_true, true_and]
  have G1 := True.intro
  have g0 : Good ((pl P w K mg base).at 3) (oFn "_law_draw" 2 [] S__law_draw) := Has.fn (h__law_draw X G c) (by decide) (He.glo_ok X G (c.1.fact 43 (f := .glo "_law_draw") rfl)) rfl
  have g1 : Good ((pl P w K mg base).at 3) (oFn "_law_stroke" 3 [] S__law_stroke) := Has.fn (h__law_stroke X G c) (by decide) (He.glo_ok X G (c.1.fact 55 (f := .glo "_law_stroke") rfl)) rfl
  exact (by repeat' (first | exact trivial | assumption | apply And.intro))
theorem h_done_by (X : K.In h) (G : h.Ns mainGlobals mg) (c : SaysX fa fn exF K) : Has (pl P w K mg base) 4 ("done_by", none) ["book", "moment"] [] S_done_by := by
  refine has_of (p := pl P w K mg base) (k := 3) (d := d_done_by) (N := n_done_by) b_done_by (c.1.def_ 35 (d := d_done_by) rfl) hs_done_by hc_done_by (frees X G c) ?_ (fun fd F => ⟨[], [], FunD.bindsN (ps := ["book", "moment"]) F (fun _ _ _ _ _ _ us hl => match us, hl with | [_, _], _ => rfl), .nil, fun _ => RepL.nil⟩) vc_done_by
  simp only [b_done_by, usesSs, usesS, usesE, usesEs, and_true, true_and]
  have G1 := True.intro
  have g0 : Good ((pl P w K mg base).at 3) (oMeth "Book" "strokes" 0 [] S_Book_strokes) := Has.meth (h_Book_strokes X G c) (by decide) (He.cls_ok (c.1.fact 22 (f := .cls "Book") rfl)) (He.meth_ok (c.1.fact 65 (f := .meth "Book" "strokes") rfl)) rfl
  have g1 : Good ((pl P w K mg base).at 3) (oFn "is_moment" 2 [] S_is_moment) := Has.fn (h_is_moment X G c) (by decide) (He.glo_ok X G (c.1.fact 59 (f := .glo "is_moment") rfl)) rfl
  have g2 : SGood ((pl P w K mg base).at 3) (sRaise "NoMoment") := rs_NoMoment X G c
  exact (by repeat' (first | exact trivial | assumption | apply And.intro))
theorem h_is_look (X : K.In h) (G : h.Ns mainGlobals mg) (c : SaysX fa fn exF K) : Has (pl P w K mg base) 4 ("is_look", none) ["book", "thing"] [] S_is_look := by
  refine has_of (p := pl P w K mg base) (k := 3) (d := d_is_look) (N := n_is_look) b_is_look (c.1.def_ 36 (d := d_is_look) rfl) hs_is_look hc_is_look (frees X G c) ?_ (fun fd F => ⟨[], [], FunD.bindsN (ps := ["book", "thing"]) F (fun _ _ _ _ _ _ us hl => match us, hl with | [_, _], _ => rfl), .nil, fun _ => RepL.nil⟩) vc_is_look
  simp only [b_is_look, usesSs, usesS, usesE, usesEs, and_true, true_and]
  have G1 := True.intro
  have g0 : Good ((pl P w K mg base).at 3) (oFn "is_moment" 2 [] S_is_moment) := Has.fn (h_is_moment X G c) (by decide) (He.glo_ok X G (c.1.fact 59 (f := .glo "is_moment") rfl)) rfl
  have g1 : Good ((pl P w K mg base).at 3) (oFn "is_stretch" 1 [] S_is_stretch) := Has.fn (h_is_stretch X G c) (by decide) (He.glo_ok X G (c.1.fact 61 (f := .glo "is_stretch") rfl)) rfl
  exact (by repeat' (first | exact trivial | assumption | apply And.intro))
theorem h_is_part (X : K.In h) (G : h.Ns mainGlobals mg) (c : SaysX fa fn exF K) : Has (pl P w K mg base) 4 ("is_part", none) ["thing"] [] S_is_part := by
  refine has_of (p := pl P w K mg base) (k := 3) (d := d_is_part) (N := n_is_part) b_is_part (c.1.def_ 37 (d := d_is_part) rfl) hs_is_part hc_is_part (frees X G c) ?_ (fun fd F => ⟨[], [], FunD.bindsN (ps := ["thing"]) F (fun _ _ _ _ _ _ us hl => match us, hl with | [_], _ => rfl), .nil, fun _ => RepL.nil⟩) vc_is_part
  simp only [b_is_part, usesSs, usesS, usesE, usesEs, and_true, true_and]
  have G1 := True.intro
  have g0 : Good ((pl P w K mg base).at 3) (oFn "is_stretch" 1 [] S_is_stretch) := Has.fn (h_is_stretch X G c) (by decide) (He.glo_ok X G (c.1.fact 61 (f := .glo "is_stretch") rfl)) rfl
  have g1 : Good ((pl P w K mg base).at 3) (oFn "is_colour" 1 [] S_is_colour) := Has.fn (h_is_colour X G c) (by decide) (He.glo_ok X G (c.1.fact 45 (f := .glo "is_colour") rfl)) rfl
  exact (by repeat' (first | exact trivial | assumption | apply And.intro))
theorem h_is_stroke (X : K.In h) (G : h.Ns mainGlobals mg) (c : SaysX fa fn exF K) : Has (pl P w K mg base) 4 ("is_stroke", none) ["thing"] [] S_is_stroke := by
  refine has_of (p := pl P w K mg base) (k := 3) (d := d_is_stroke) (N := n_is_stroke) b_is_stroke (c.1.def_ 38 (d := d_is_stroke) rfl) hs_is_stroke hc_is_stroke (frees X G c) ?_ (fun fd F => ⟨[], [], FunD.bindsN (ps := ["thing"]) F (fun _ _ _ _ _ _ us hl => match us, hl with | [_], _ => rfl), .nil, fun _ => RepL.nil⟩) vc_is_stroke
  simp only [b_is_stroke, usesSs, usesS, usesE, usesEs, and_true, true_and]
  have G1 := True.intro
  have g0 : Good ((pl P w K mg base).at 3) (oFn "is_stretch" 1 [] S_is_stretch) := Has.fn (h_is_stretch X G c) (by decide) (He.glo_ok X G (c.1.fact 61 (f := .glo "is_stretch") rfl)) rfl
  have g1 : Good ((pl P w K mg base).at 3) (oFn "is_colour" 1 [] S_is_colour) := Has.fn (h_is_colour X G c) (by decide) (He.glo_ok X G (c.1.fact 45 (f := .glo "is_colour") rfl)) rfl
  exact (by repeat' (first | exact trivial | assumption | apply And.intro))
theorem h_need_prices (X : K.In h) (G : h.Ns mainGlobals mg) (c : SaysX fa fn exF K) : Has (pl P w K mg base) 4 ("need_prices", none) ["prices"] [] S_need_prices := by
  refine has_of (p := pl P w K mg base) (k := 3) (d := d_need_prices) (N := n_need_prices) b_need_prices (c.1.def_ 39 (d := d_need_prices) rfl) hs_need_prices hc_need_prices (frees X G c) ?_ (fun fd F => ⟨[], [], FunD.bindsN (ps := ["prices"]) F (fun _ _ _ _ _ _ us hl => match us, hl with | [_], _ => rfl), .nil, fun _ => RepL.nil⟩) vc_need_prices
  simp only [b_need_prices, usesSs, usesS, usesE, usesEs, and_true, true_and]
  have G1 := True.intro
  have g0 : Good ((pl P w K mg base).at 3) (oFn "are_prices" 1 [] S_are_prices) := Has.fn (h_are_prices X G c) (by decide) (He.glo_ok X G (c.1.fact 57 (f := .glo "are_prices") rfl)) rfl
  have g1 : SGood ((pl P w K mg base).at 3) (sRaise "BadPrices") := rs_BadPrices X G c
  exact (by repeat' (first | exact trivial | assumption | apply And.intro))
theorem h_Book___init__ (X : K.In h) (G : h.Ns mainGlobals mg) (c : SaysX fa fn exF K) : Has (pl P w K mg base) 5 ("Book", some "__init__") ["self", "strokes"] [] S_Book___init__ := by
  refine has_of (p := pl P w K mg base) (k := 4) (d := d_Book___init__) (N := n_Book___init__) b_Book___init__ (c.1.def_ 40 (d := d_Book___init__) rfl) hs_Book___init__ hc_Book___init__ (frees X G c) ?_ (fun fd F => by
    obtain ⟨ds, v, b⟩ := FunD.binds1 (ps := ["self", "strokes"]) F 2 1 (by simp [He.DefD.dvs, d_Book___init__]) rfl (fun T kV doc pm an cdv ct us its l1 l2 => match us, l1, its, l2 with | [_, _], _, [_], _ => ⟨_, rfl, rfl⟩)
    exact ⟨_, ds, b, v, fun _ => RepL.nil⟩) vc_init
  simp only [b_Book___init__, usesSs, usesS, usesE, usesEs, and_true, true_and]
  have G1 := True.intro
  have g0 : Good ((pl P w K mg base).at 4) (oFn "is_stroke" 1 [] S_is_stroke) := Has.fn (h_is_stroke X G c) (by decide) (He.glo_ok X G (c.1.fact 70 (f := .glo "is_stroke") rfl)) rfl
  have g1 : SGood ((pl P w K mg base).at 4) (sRaise "BadStroke") := rs_BadStroke X G c
  have g2 : SGood ((pl P w K mg base).at 4) (sSetF "Book" "row") := @good_setF ((pl P w K mg base).at 4) "Book" "row" (He.cls_ok (c.1.fact 22 (f := .cls "Book") rfl)) (He.noat_ok (c.1.fact 23 (f := .noat "Book" "row") rfl))
  exact (by repeat' (first | exact trivial | assumption | apply And.intro))
theorem h_are_looks (X : K.In h) (G : h.Ns mainGlobals mg) (c : SaysX fa fn exF K) : Has (pl P w K mg base) 5 ("are_looks", none) ["book", "thing"] [] S_are_looks := by
  refine has_of (p := pl P w K mg base) (k := 4) (d := d_are_looks) (N := n_are_looks) b_are_looks (c.1.def_ 41 (d := d_are_looks) rfl) hs_are_looks hc_are_looks (frees X G c) ?_ (fun fd F => ⟨[], [], FunD.bindsN (ps := ["book", "thing"]) F (fun _ _ _ _ _ _ us hl => match us, hl with | [_, _], _ => rfl), .nil, fun _ => RepL.nil⟩) vc_are_looks
  simp only [b_are_looks, usesSs, usesS, usesE, usesEs, and_true, true_and]
  have G1 := True.intro
  have g0 : Good ((pl P w K mg base).at 4) (oGlo "MOST_LOOKS" (.int 20)) := go_MOST_LOOKS X G c
  have g1 : Good ((pl P w K mg base).at 4) (oFn "is_look" 2 [] S_is_look) := Has.fn (h_is_look X G c) (by decide) (He.glo_ok X G (c.1.fact 68 (f := .glo "is_look") rfl)) rfl
  exact (by repeat' (first | exact trivial | assumption | apply And.intro))
theorem h_colours (X : K.In h) (G : h.Ns mainGlobals mg) (c : SaysX fa fn exF K) : Has (pl P w K mg base) 5 ("colours", none) ["book", "moment"] [.non] S_colours := by
  refine has_of (p := pl P w K mg base) (k := 4) (d := d_colours) (N := n_colours) b_colours (c.1.def_ 42 (d := d_colours) rfl) hs_colours hc_colours (frees X G c) ?_ (fun fd F => by
    obtain ⟨ds, v, b⟩ := FunD.binds0 (ps := ["book", "moment"]) F 1 (List.cons_ne_nil _ _) rfl (fun D doc pm an cdv ct us ks l1 l2 => match us, l1, ks, l2 with | [_], _, [_], _ => ⟨_, _, _, _, _, _, rfl, rfl, rfl⟩)
    exact ⟨_, ds, b, v, fun _ => RepL.mk (rep_non.mpr rfl) (RepL.nil)⟩) vc_colours
  simp only [b_colours, usesSs, usesS, usesE, usesEs, and_true, true_and]
  have G1 := True.intro
  have g0 : Good ((pl P w K mg base).at 4) (oFn "done_by" 2 [] S_done_by) := Has.fn (h_done_by X G c) (by decide) (He.glo_ok X G (c.1.fact 64 (f := .glo "done_by") rfl)) rfl
  have g1 : Good ((pl P w K mg base).at 4) (oFn "painted" 1 [] S_painted) := Has.fn (h_painted X G c) (by decide) (He.glo_ok X G (c.1.fact 49 (f := .glo "painted") rfl)) rfl
  have g2 : Good ((pl P w K mg base).at 4) (oFn "merged" 1 [] S_merged) := Has.fn (h_merged X G c) (by decide) (He.glo_ok X G (c.1.fact 36 (f := .glo "merged") rfl)) rfl
  exact (by repeat' (first | exact trivial | assumption | apply And.intro))
theorem h_is_putting (X : K.In h) (G : h.Ns mainGlobals mg) (c : SaysX fa fn exF K) : Has (pl P w K mg base) 5 ("is_putting", none) ["thing", "most"] [] S_is_putting := by
  refine has_of (p := pl P w K mg base) (k := 4) (d := d_is_putting) (N := n_is_putting) b_is_putting (c.1.def_ 43 (d := d_is_putting) rfl) hs_is_putting hc_is_putting (frees X G c) ?_ (fun fd F => ⟨[], [], FunD.bindsN (ps := ["thing", "most"]) F (fun _ _ _ _ _ _ us hl => match us, hl with | [_, _], _ => rfl), .nil, fun _ => RepL.nil⟩) vc_is_putting
  simp only [b_is_putting, usesSs, usesS, usesE, usesEs, and_true, true_and]
  have G1 := True.intro
  have g0 : Good ((pl P w K mg base).at 4) (oFn "is_whole" 1 [.int 0] S_is_whole) := Has.fn (h_is_whole X G c) (by decide) (He.glo_ok X G (c.1.fact 33 (f := .glo "is_whole") rfl)) rfl
  have g1 : Good ((pl P w K mg base).at 4) (oFn "is_stroke" 1 [] S_is_stroke) := Has.fn (h_is_stroke X G c) (by decide) (He.glo_ok X G (c.1.fact 70 (f := .glo "is_stroke") rfl)) rfl
  exact (by repeat' (first | exact trivial | assumption | apply And.intro))
theorem h_is_wish (X : K.In h) (G : h.Ns mainGlobals mg) (c : SaysX fa fn exF K) : Has (pl P w K mg base) 5 ("is_wish", none) ["thing"] [] S_is_wish := by
  refine has_of (p := pl P w K mg base) (k := 4) (d := d_is_wish) (N := n_is_wish) b_is_wish (c.1.def_ 44 (d := d_is_wish) rfl) hs_is_wish hc_is_wish (frees X G c) ?_ (fun fd F => ⟨[], [], FunD.bindsN (ps := ["thing"]) F (fun _ _ _ _ _ _ us hl => match us, hl with | [_], _ => rfl), .nil, fun _ => RepL.nil⟩) vc_is_wish
  simp only [b_is_wish, usesSs, usesS, usesE, usesEs, and_true, true_and]
  have G1 := True.intro
  have g0 : Good ((pl P w K mg base).at 4) (oGlo "MOST_STRETCHES" (.int 12)) := go_MOST_STRETCHES X G c
  have g1 : Good ((pl P w K mg base).at 4) (oFn "is_part" 1 [] S_is_part) := Has.fn (h_is_part X G c) (by decide) (He.glo_ok X G (c.1.fact 69 (f := .glo "is_part") rfl)) rfl
  exact (by repeat' (first | exact trivial | assumption | apply And.intro))
theorem hn_picture (X : K.In h) (G : h.Ns mainGlobals mg) (c : SaysX fa fn exF K) (fd : FuncData) (F : FunD K d_picture.name d_picture.qual d_picture.params d_picture.body d_picture.scope (d_picture.dvs K) (d_picture.kws K) (He.fAd K d_picture.at_) fd) : FnD (pl P w K mg base) 5 (He.fAd K ("picture", none)) fd ["book", "moment"] S_picture := by
  refine fn_ok (p := (pl P w K mg base).at 4) (N := n_picture) (ps := ["book", "moment"]) b_picture F (C8.fnScope_by hs_picture) (frees X G c) hc_picture ?_ vc_picture
  simp only [b_picture, usesSs, usesS, usesE, usesEs, and_true, true_and]
  have G1 := True.intro
  have g0 : Good ((pl P w K mg base).at 4) (oFn "done_by" 2 [] S_done_by) := Has.fn (h_done_by X G c) (by decide) (He.glo_ok X G (c.1.fact 64 (f := .glo "done_by") rfl)) rfl
  have g1 : Good ((pl P w K mg base).at 4) (oFn "painted" 1 [] S_painted) := Has.fn (h_painted X G c) (by decide) (He.glo_ok X G (c.1.fact 49 (f := .glo "painted") rfl)) rfl
  exact (by repeat' (first | exact trivial | assumption | apply And.intro))
theorem h_picture (X : K.In h) (G : h.Ns mainGlobals mg) (c : SaysX fa fn exF K) : Has (pl P w K mg base) 5 ("picture", none) ["book", "moment"] [.non] S_picture := by
  obtain ⟨fd, F⟩ := c.1.def_ 45 (d := d_picture) rfl
  obtain ⟨ds, v, b⟩ := FunD.binds0 (ps := ["book", "moment"]) F 1 (List.cons_ne_nil _ _) rfl (fun D doc pm an cdv ct us ks l1 l2 => match us, l1, ks, l2 with | [_], _, [_], _ => ⟨_, _, _, _, _, _, rfl, rfl, rfl⟩)
  exact ⟨fd, _, ds, hn_picture X G c fd F, F.kp, b, v, fun _ => RepL.mk (rep_non.mpr rfl) (RepL.nil)⟩
theorem hk_picture {k : Nat} (X : K.In h) (G : h.Ns mainGlobals mg) (c : SaysX fa fn exF K) (hk : 5 ≤ k) : Good ((pl P w K mg base).at k) (oFnK "picture" 1 ["moment"] [.nth 0, .nth 1] S_picture) := by
  obtain ⟨fd, F⟩ := c.1.def_ 45 (d := d_picture) rfl
  have kb : KBn K fd ["book", "moment"] 1 ["moment"] (fun us ws => us ++ ws) (fun us ws => us ++ ws) := kbinds_all F (fun us ws => us ++ ws) (fun r1 r2 => r1.append r2) (fun kV doc pm an cdv ct us ws l1 l2 => match us, l1, ws, l2 with | [_], _, [_], _ => rfl)
  refine @good_fnK ((pl P w K mg base).at k) 5 _ fd ["book", "moment"] ["moment"] S_picture "picture" 1 [.nth 0, .nth 1] _ _ (hn_picture X G c fd F) hk (He.glo_ok X G (c.1.fact 80 (f := .glo "picture") rfl)) F.kp kb (fun vs zs l1 l2 => ?_) ?_ rfl (by decide)
  · match vs, l1, zs, l2 with
    | [_], _, [_], _ => rfl
  · intro q hq
    simp only [List.mem_cons, List.not_mem_nil, or_false] at hq
    rcases hq with rfl | rfl
    · exact (show 0 < 1 + 1 by decide)
    · exact (show 1 < 1 + 1 by decide)
theorem h_is_laying (X : K.In h) (G : h.Ns mainGlobals mg) (c : SaysX fa fn exF K) : Has (pl P w K mg base) 6 ("is_laying", none) ["book", "thing"] [] S_is_laying := by
  refine has_of (p := pl P w K mg base) (k := 5) (d := d_is_laying) (N := n_is_laying) b_is_laying (c.1.def_ 46 (d := d_is_laying) rfl) hs_is_laying hc_is_laying (frees X G c) ?_ (fun fd F => ⟨[], [], FunD.bindsN (ps := ["book", "thing"]) F (fun _ _ _ _ _ _ us hl => match us, hl with | [_, _], _ => rfl), .nil, fun _ => RepL.nil⟩) vc_is_laying
  simp only [b_is_laying, usesSs, usesS, usesE, usesEs, and_true, true_and]
  have G1 := True.intro
  have g0 : Good ((pl P w K mg base).at 5) (oLenO "Book" S_Book___len__) := Has.lenO (h_Book___len__ X G c) (by decide) (He.meth_ok (c.1.fact 60 (f := .meth "Book" "__len__") rfl)) rfl
  have g1 : Good ((pl P w K mg base).at 5) (oFn "is_putting" 2 [] S_is_putting) := Has.fn (h_is_putting X G c) (by decide) (He.glo_ok X G (c.1.fact 77 (f := .glo "is_putting") rfl)) rfl
  exact (by repeat' (first | exact trivial | assumption | apply And.intro))
theorem h_need_looks (X : K.In h) (G : h.Ns mainGlobals mg) (c : SaysX fa fn exF K) : Has (pl P w K mg base) 6 ("need_looks", none) ["book", "thing"] [] S_need_looks := by
  refine has_of (p := pl P w K mg base) (k := 5) (d := d_need_looks) (N := n_need_looks) b_need_looks (c.1.def_ 47 (d := d_need_looks) rfl) hs_need_looks hc_need_looks (frees X G c) ?_ (fun fd F => ⟨[], [], FunD.bindsN (ps := ["book", "thing"]) F (fun _ _ _ _ _ _ us hl => match us, hl with | [_, _], _ => rfl), .nil, fun _ => RepL.nil⟩) vc_need_looks
  simp only [b_need_looks, usesSs, usesS, usesE, usesEs, and_true, true_and]
  have G1 := True.intro
  have g0 : Good ((pl P w K mg base).at 5) (oFn "are_looks" 2 [] S_are_looks) := Has.fn (h_are_looks X G c) (by decide) (He.glo_ok X G (c.1.fact 74 (f := .glo "are_looks") rfl)) rfl
  have g1 : SGood ((pl P w K mg base).at 5) (sRaise "BadLook") := rs_BadLook X G c
  exact (by repeat' (first | exact trivial | assumption | apply And.intro))
theorem h_need_wish (X : K.In h) (G : h.Ns mainGlobals mg) (c : SaysX fa fn exF K) : Has (pl P w K mg base) 6 ("need_wish", none) ["wish"] [] S_need_wish := by
  refine has_of (p := pl P w K mg base) (k := 5) (d := d_need_wish) (N := n_need_wish) b_need_wish (c.1.def_ 48 (d := d_need_wish) rfl) hs_need_wish hc_need_wish (frees X G c) ?_ (fun fd F => ⟨[], [], FunD.bindsN (ps := ["wish"]) F (fun _ _ _ _ _ _ us hl => match us, hl with | [_], _ => rfl), .nil, fun _ => RepL.nil⟩) vc_need_wish
  simp only [b_need_wish, usesSs, usesS, usesE, usesEs, and_true, true_and]
  have G1 := True.intro
  have g0 : Good ((pl P w K mg base).at 5) (oFn "is_wish" 1 [] S_is_wish) := Has.fn (h_is_wish X G c) (by decide) (He.glo_ok X G (c.1.fact 78 (f := .glo "is_wish") rfl)) rfl
  have g1 : SGood ((pl P w K mg base).at 5) (sRaise "BadWish") := rs_BadWish X G c
  exact (by repeat' (first | exact trivial | assumption | apply And.intro))
theorem h_shown (X : K.In h) (G : h.Ns mainGlobals mg) (c : SaysX fa fn exF K) : Has (pl P w K mg base) 6 ("shown", none) ["book", "look"] [] S_shown := by
  refine has_of (p := pl P w K mg base) (k := 5) (d := d_shown) (N := n_shown) b_shown (c.1.def_ 49 (d := d_shown) rfl) hs_shown hc_shown (frees X G c) ?_ (fun fd F => ⟨[], [], FunD.bindsN (ps := ["book", "look"]) F (fun _ _ _ _ _ _ us hl => match us, hl with | [_, _], _ => rfl), .nil, fun _ => RepL.nil⟩) vc_shown
  simp only [b_shown, usesSs, usesS, usesE, usesEs, and_true, true_and]
  have G1 := True.intro
  have g0 : Good ((pl P w K mg base).at 5) (oFn "is_look" 2 [] S_is_look) := Has.fn (h_is_look X G c) (by decide) (He.glo_ok X G (c.1.fact 68 (f := .glo "is_look") rfl)) rfl
  have g1 : SGood ((pl P w K mg base).at 5) (sRaise "BadLook") := rs_BadLook X G c
  have g2 : Good ((pl P w K mg base).at 5) (oFnK "picture" 1 ["moment"] [.nth 0, .nth 1] S_picture) := hk_picture X G c (by decide)
  exact (by repeat' (first | exact trivial | assumption | apply And.intro))
theorem h_firm (X : K.In h) (G : h.Ns mainGlobals mg) (c : SaysX fa fn exF K) : Has (pl P w K mg base) 7 ("firm", none) ["wish"] [] S_firm := by
  refine has_of (p := pl P w K mg base) (k := 6) (d := d_firm) (N := n_firm) b_firm (c.1.def_ 50 (d := d_firm) rfl) hs_firm hc_firm (frees X G c) ?_ (fun fd F => ⟨[], [], FunD.bindsN (ps := ["wish"]) F (fun _ _ _ _ _ _ us hl => match us, hl with | [_], _ => rfl), .nil, fun _ => RepL.nil⟩) vc_firm
  simp only [b_firm, usesSs, usesS, usesE, usesEs, and_true, true_and]
  have G1 := True.intro
  have g0 : Good ((pl P w K mg base).at 6) (oFn "need_wish" 1 [] S_need_wish) := Has.fn (h_need_wish X G c) (by decide) (He.glo_ok X G (c.1.fact 85 (f := .glo "need_wish") rfl)) rfl
  have g1 : Good ((pl P w K mg base).at 6) (oGlo "ALL" (.tup [.tup [.int 0, .int 1000000000]])) := go_ALL X G c
  have g2 : Good ((pl P w K mg base).at 6) (oFn "apart" 2 [] S_apart) := Has.fn (h_apart X G c) (by decide) (He.glo_ok X G (c.1.fact 56 (f := .glo "apart") rfl)) rfl
  exact (by repeat' (first | exact trivial | assumption | apply And.intro))
theorem h_laid_by (X : K.In h) (G : h.Ns mainGlobals mg) (c : SaysX fa fn exF K) : Has (pl P w K mg base) 7 ("laid_by", none) ["book", "laying"] [] S_laid_by := by
  refine has_of (p := pl P w K mg base) (k := 6) (d := d_laid_by) (N := n_laid_by) b_laid_by (c.1.def_ 51 (d := d_laid_by) rfl) hs_laid_by hc_laid_by (frees X G c) ?_ (fun fd F => ⟨[], [], FunD.bindsN (ps := ["book", "laying"]) F (fun _ _ _ _ _ _ us hl => match us, hl with | [_, _], _ => rfl), .nil, fun _ => RepL.nil⟩) vc_laid_by
  simp only [b_laid_by, usesSs, usesS, usesE, usesEs, and_true, true_and]
  have G1 := True.intro
  have g0 : Good ((pl P w K mg base).at 6) (oMeth "Book" "strokes" 0 [] S_Book_strokes) := Has.meth (h_Book_strokes X G c) (by decide) (He.cls_ok (c.1.fact 22 (f := .cls "Book") rfl)) (He.meth_ok (c.1.fact 65 (f := .meth "Book" "strokes") rfl)) rfl
  have g1 : Good ((pl P w K mg base).at 6) (oLenO "Book" S_Book___len__) := Has.lenO (h_Book___len__ X G c) (by decide) (He.meth_ok (c.1.fact 60 (f := .meth "Book" "__len__") rfl)) rfl
  have g2 : Good ((pl P w K mg base).at 6) (oFn "woven" 2 [] S_woven) := Has.fn (h_woven X G c) (by decide) (He.glo_ok X G (c.1.fact 42 (f := .glo "woven") rfl)) rfl
  have g3 : Good ((pl P w K mg base).at 6) (oMakeF "Book" 1 [] S_Book___init__) := Has.makeF (h_Book___init__ X G c) (by decide) (He.mkr_ok (c.1.fact 91 (f := .mkr "Book") rfl)) (He.glo_ok X G (c.1.fact 92 (f := .glo "Book") rfl)) rfl
  exact (by repeat' (first | exact trivial | assumption | apply And.intro))
theorem h_need_laying (X : K.In h) (G : h.Ns mainGlobals mg) (c : SaysX fa fn exF K) : Has (pl P w K mg base) 7 ("need_laying", none) ["book", "laying"] [] S_need_laying := by
  refine has_of (p := pl P w K mg base) (k := 6) (d := d_need_laying) (N := n_need_laying) b_need_laying (c.1.def_ 52 (d := d_need_laying) rfl) hs_need_laying hc_need_laying (frees X G c) ?_ (fun fd F => ⟨[], [], FunD.bindsN (ps := ["book", "laying"]) F (fun _ _ _ _ _ _ us hl => match us, hl with | [_, _], _ => rfl), .nil, fun _ => RepL.nil⟩) vc_need_laying
  simp only [b_need_laying, usesSs, usesS, usesE, usesEs, and_true, true_and]
  have G1 := True.intro
  have g0 : Good ((pl P w K mg base).at 6) (oFn "is_laying" 2 [] S_is_laying) := Has.fn (h_is_laying X G c) (by decide) (He.glo_ok X G (c.1.fact 81 (f := .glo "is_laying") rfl)) rfl
  have g1 : SGood ((pl P w K mg base).at 6) (sRaise "BadLaying") := rs_BadLaying X G c
  exact (by repeat' (first | exact trivial | assumption | apply And.intro))
theorem h_laid (X : K.In h) (G : h.Ns mainGlobals mg) (c : SaysX fa fn exF K) : Has (pl P w K mg base) 8 ("laid", none) ["book", "laying"] [] S_laid := by
  refine has_of (p := pl P w K mg base) (k := 7) (d := d_laid) (N := n_laid) b_laid (c.1.def_ 53 (d := d_laid) rfl) hs_laid hc_laid (frees X G c) ?_ (fun fd F => ⟨[], [], FunD.bindsN (ps := ["book", "laying"]) F (fun _ _ _ _ _ _ us hl => match us, hl with | [_, _], _ => rfl), .nil, fun _ => RepL.nil⟩) vc_laid
  simp only [b_laid, usesSs, usesS, usesE, usesEs, and_true, true_and]
  have G1 := True.intro
  have g0 : Good ((pl P w K mg base).at 7) (oFn "need_laying" 2 [] S_need_laying) := Has.fn (h_need_laying X G c) (by decide) (He.glo_ok X G (c.1.fact 93 (f := .glo "need_laying") rfl)) rfl
  have g1 : Good ((pl P w K mg base).at 7) (oFn "laid_by" 2 [] S_laid_by) := Has.fn (h_laid_by X G c) (by decide) (He.glo_ok X G (c.1.fact 90 (f := .glo "laid_by") rfl)) rfl
  exact (by repeat' (first | exact trivial | assumption | apply And.intro))
theorem h_need_all (X : K.In h) (G : h.Ns mainGlobals mg) (c : SaysX fa fn exF K) : Has (pl P w K mg base) 8 ("need_all", none) ["book", "wish", "laying", "looks"] [] S_need_all := by
  refine has_of (p := pl P w K mg base) (k := 7) (d := d_need_all) (N := n_need_all) b_need_all (c.1.def_ 54 (d := d_need_all) rfl) hs_need_all hc_need_all (frees X G c) ?_ (fun fd F => ⟨[], [], FunD.bindsN (ps := ["book", "wish", "laying", "looks"]) F (fun _ _ _ _ _ _ us hl => match us, hl with | [_, _, _, _], _ => rfl), .nil, fun _ => RepL.nil⟩) vc_need_all
  simp only [b_need_all, usesSs, usesS, usesE, usesEs, and_true, true_and]
  have G1 := True.intro
  have g0 : Good ((pl P w K mg base).at 7) (oFn "need_looks" 2 [] S_need_looks) := Has.fn (h_need_looks X G c) (by decide) (He.glo_ok X G (c.1.fact 82 (f := .glo "need_looks") rfl)) rfl
  have g1 : Good ((pl P w K mg base).at 7) (oFn "need_wish" 1 [] S_need_wish) := Has.fn (h_need_wish X G c) (by decide) (He.glo_ok X G (c.1.fact 85 (f := .glo "need_wish") rfl)) rfl
  have g2 : Good ((pl P w K mg base).at 7) (oFn "need_laying" 2 [] S_need_laying) := Has.fn (h_need_laying X G c) (by decide) (He.glo_ok X G (c.1.fact 93 (f := .glo "need_laying") rfl)) rfl
  exact (by repeat' (first | exact trivial | assumption | apply And.intro))
theorem h_numbers (X : K.In h) (G : h.Ns mainGlobals mg) (c : SaysX fa fn exF K) : Has (pl P w K mg base) 8 ("numbers", none) ["book", "laying"] [] S_numbers := by
  refine has_of (p := pl P w K mg base) (k := 7) (d := d_numbers) (N := n_numbers) b_numbers (c.1.def_ 55 (d := d_numbers) rfl) hs_numbers hc_numbers (frees X G c) ?_ (fun fd F => ⟨[], [], FunD.bindsN (ps := ["book", "laying"]) F (fun _ _ _ _ _ _ us hl => match us, hl with | [_, _], _ => rfl), .nil, fun _ => RepL.nil⟩) vc_numbers
  simp only [b_numbers, usesSs, usesS, usesE, usesEs, and_true, true_and]
  have G1 := True.intro
  have g0 : Good ((pl P w K mg base).at 7) (oFn "need_laying" 2 [] S_need_laying) := Has.fn (h_need_laying X G c) (by decide) (He.glo_ok X G (c.1.fact 93 (f := .glo "need_laying") rfl)) rfl
  have g1 : Good ((pl P w K mg base).at 7) (oLenO "Book" S_Book___len__) := Has.lenO (h_Book___len__ X G c) (by decide) (He.meth_ok (c.1.fact 60 (f := .meth "Book" "__len__") rfl)) rfl
  have g2 : Good ((pl P w K mg base).at 7) (oFn "woven" 2 [] S_woven) := Has.fn (h_woven X G c) (by decide) (He.glo_ok X G (c.1.fact 42 (f := .glo "woven") rfl)) rfl
  exact (by repeat' (first | exact trivial | assumption | apply And.intro))
theorem h_price_of (X : K.In h) (G : h.Ns mainGlobals mg) (c : SaysX fa fn exF K) : Has (pl P w K mg base) 8 ("price_of", none) ["book", "laying", "prices"] [] S_price_of := by
  refine has_of (p := pl P w K mg base) (k := 7) (d := d_price_of) (N := n_price_of) b_price_of (c.1.def_ 56 (d := d_price_of) rfl) hs_price_of hc_price_of (frees X G c) ?_ (fun fd F => ⟨[], [], FunD.bindsN (ps := ["book", "laying", "prices"]) F (fun _ _ _ _ _ _ us hl => match us, hl with | [_, _, _], _ => rfl), .nil, fun _ => RepL.nil⟩) vc_price_of
  simp only [b_price_of, usesSs, usesS, usesE, usesEs, and_true, true_and]
  have G1 := True.intro
  have g0 : Good ((pl P w K mg base).at 7) (oFn "need_prices" 1 [] S_need_prices) := Has.fn (h_need_prices X G c) (by decide) (He.glo_ok X G (c.1.fact 71 (f := .glo "need_prices") rfl)) rfl
  have g1 : Good ((pl P w K mg base).at 7) (oFn "need_laying" 2 [] S_need_laying) := Has.fn (h_need_laying X G c) (by decide) (He.glo_ok X G (c.1.fact 93 (f := .glo "need_laying") rfl)) rfl
  have g2 : Good ((pl P w K mg base).at 7) (oFn "need_colours" 2 [] S_need_colours) := Has.fn (h_need_colours X G c) (by decide) (He.glo_ok X G (c.1.fact 38 (f := .glo "need_colours") rfl)) rfl
  exact (by repeat' (first | exact trivial | assumption | apply And.intro))
theorem h_wrong_now (X : K.In h) (G : h.Ns mainGlobals mg) (c : SaysX fa fn exF K) : Has (pl P w K mg base) 8 ("wrong_now", none) ["book", "wish", "after", "elder"] [] S_wrong_now := by
  refine has_of (p := pl P w K mg base) (k := 7) (d := d_wrong_now) (N := n_wrong_now) b_wrong_now (c.1.def_ 57 (d := d_wrong_now) rfl) hs_wrong_now hc_wrong_now (frees X G c) ?_ (fun fd F => ⟨[], [], FunD.bindsN (ps := ["book", "wish", "after", "elder"]) F (fun _ _ _ _ _ _ us hl => match us, hl with | [_, _, _, _], _ => rfl), .nil, fun _ => RepL.nil⟩) vc_wrong_now
  simp only [b_wrong_now, usesSs, usesS, usesE, usesEs, and_true, true_and]
  have G1 := True.intro
  have g0 : Good ((pl P w K mg base).at 7) (oFn "picture" 1 [.non] S_picture) := Has.fn (h_picture X G c) (by decide) (He.glo_ok X G (c.1.fact 80 (f := .glo "picture") rfl)) rfl
  have g1 : Good ((pl P w K mg base).at 7) (oFn "renumbered" 2 [] S_renumbered) := Has.fn (h_renumbered X G c) (by decide) (He.glo_ok X G (c.1.fact 41 (f := .glo "renumbered") rfl)) rfl
  have g2 : Good ((pl P w K mg base).at 7) (oFn "unlike" 2 [] S_unlike) := Has.fn (h_unlike X G c) (by decide) (He.glo_ok X G (c.1.fact 50 (f := .glo "unlike") rfl)) rfl
  have g3 : Good ((pl P w K mg base).at 7) (oFn "firm" 1 [] S_firm) := Has.fn (h_firm X G c) (by decide) (He.glo_ok X G (c.1.fact 89 (f := .glo "firm") rfl)) rfl
  have g4 : Good ((pl P w K mg base).at 7) (oFn "both" 2 [] S_both) := Has.fn (h_both X G c) (by decide) (He.glo_ok X G (c.1.fact 44 (f := .glo "both") rfl)) rfl
  have g5 : Good ((pl P w K mg base).at 7) (oFn "colours" 1 [.non] S_colours) := Has.fn (h_colours X G c) (by decide) (He.glo_ok X G (c.1.fact 76 (f := .glo "colours") rfl)) rfl
  have g6 : Good ((pl P w K mg base).at 7) (oFn "joined" 1 [] S_joined) := Has.fn (h_joined X G c) (by decide) (He.glo_ok X G (c.1.fact 34 (f := .glo "joined") rfl)) rfl
  exact (by repeat' (first | exact trivial | assumption | apply And.intro))
theorem h__law_elders (X : K.In h) (G : h.Ns mainGlobals mg) (c : SaysX fa fn exF K) : Has (pl P w K mg base) 9 ("_law_elders", none) ["book", "laying"] [] S__law_elders := by
  refine has_of (p := pl P w K mg base) (k := 8) (d := d__law_elders) (N := n__law_elders) b__law_elders (c.1.def_ 58 (d := d__law_elders) rfl) hs__law_elders hc__law_elders (frees X G c) ?_ (fun fd F => ⟨[], [], FunD.bindsN (ps := ["book", "laying"]) F (fun _ _ _ _ _ _ us hl => match us, hl with | [_, _], _ => rfl), .nil, fun _ => RepL.nil⟩) vc_elders
  simp only [b__law_elders, usesSs, usesS, usesE, usesEs, and_true, true_and]
  have G1 := True.intro
  have g0 : Good ((pl P w K mg base).at 8) (oFn "numbers" 2 [] S_numbers) := Has.fn (h_numbers X G c) (by decide) (He.glo_ok X G (c.1.fact 98 (f := .glo "numbers") rfl)) rfl
  have g1 : Good ((pl P w K mg base).at 8) (oFn "laid" 2 [] S_laid) := Has.fn (h_laid X G c) (by decide) (He.glo_ok X G (c.1.fact 96 (f := .glo "laid") rfl)) rfl
  have g2 : Good ((pl P w K mg base).at 8) (oFn "picture" 1 [.non] S_picture) := Has.fn (h_picture X G c) (by decide) (He.glo_ok X G (c.1.fact 80 (f := .glo "picture") rfl)) rfl
  exact (by repeat' (first | exact trivial | assumption | apply And.intro))
theorem hn_broken (X : K.In h) (G : h.Ns mainGlobals mg) (c : SaysX fa fn exF K) (fd : FuncData) (F : FunD K d_broken.name d_broken.qual d_broken.params d_broken.body d_broken.scope (d_broken.dvs K) (d_broken.kws K) (He.fAd K d_broken.at_) fd) : FnD (pl P w K mg base) 9 (He.fAd K ("broken", none)) fd ["book", "wish", "laying", "looks"] S_broken := by
  refine fn_ok (p := (pl P w K mg base).at 8) (N := n_broken) (ps := ["book", "wish", "laying", "looks"]) b_broken F (C8.fnScope_by hs_broken) (frees X G c) hc_broken ?_ vc_broken
  simp only [b_broken, usesSs, usesS, usesE, usesEs, and_true, true_and]
  have G1 := True.intro
  have g0 : Good ((pl P w K mg base).at 8) (oFn "need_all" 4 [] S_need_all) := Has.fn (h_need_all X G c) (by decide) (He.glo_ok X G (c.1.fact 97 (f := .glo "need_all") rfl)) rfl
  have g1 : Good ((pl P w K mg base).at 8) (oFn "laid_by" 2 [] S_laid_by) := Has.fn (h_laid_by X G c) (by decide) (He.glo_ok X G (c.1.fact 90 (f := .glo "laid_by") rfl)) rfl
  have g2 : Good ((pl P w K mg base).at 8) (oFn "numbers" 2 [] S_numbers) := Has.fn (h_numbers X G c) (by decide) (He.glo_ok X G (c.1.fact 98 (f := .glo "numbers") rfl)) rfl
  have g3 : Good ((pl P w K mg base).at 8) (oFn "wrong_now" 4 [] S_wrong_now) := Has.fn (h_wrong_now X G c) (by decide) (He.glo_ok X G (c.1.fact 100 (f := .glo "wrong_now") rfl)) rfl
  have g4 : Good ((pl P w K mg base).at 8) (oGlo "NOW" (.int (-1))) := go_NOW X G c
  have g5 : Good ((pl P w K mg base).at 8) (oFn "moved" 2 [] S_moved) := Has.fn (h_moved X G c) (by decide) (He.glo_ok X G (c.1.fact 37 (f := .glo "moved") rfl)) rfl
  have g6 : Good ((pl P w K mg base).at 8) (oFn "shown" 2 [] S_shown) := Has.fn (h_shown X G c) (by decide) (He.glo_ok X G (c.1.fact 88 (f := .glo "shown") rfl)) rfl
  have g7 : Good ((pl P w K mg base).at 8) (oFn "renumbered" 2 [] S_renumbered) := Has.fn (h_renumbered X G c) (by decide) (He.glo_ok X G (c.1.fact 41 (f := .glo "renumbered") rfl)) rfl
  have g8 : Good ((pl P w K mg base).at 8) (oFn "unlike" 2 [] S_unlike) := Has.fn (h_unlike X G c) (by decide) (He.glo_ok X G (c.1.fact 50 (f := .glo "unlike") rfl)) rfl
  exact (by repeat' (first | exact trivial | assumption | apply And.intro))
theorem h_broken (X : K.In h) (G : h.Ns mainGlobals mg) (c : SaysX fa fn exF K) : Has (pl P w K mg base) 9 ("broken", none) ["book", "wish", "laying", "looks"] [.tup []] S_broken := by
  obtain ⟨fd, F⟩ := c.1.def_ 59 (d := d_broken) rfl
  obtain ⟨ds, v, b⟩ := FunD.binds0 (ps := ["book", "wish", "laying", "looks"]) F 3 (List.cons_ne_nil _ _) rfl (fun D doc pm an cdv ct us ks l1 l2 => match us, l1, ks, l2 with | [_, _, _], _, [_], _ => ⟨_, _, _, _, _, _, rfl, rfl, rfl⟩)
  exact ⟨fd, _, ds, hn_broken X G c fd F, F.kp, b, v, fun _ => RepL.mk (kw_rep (ex_get (l := exs K) (i := 1) c.2 rfl) _) (RepL.nil)⟩
theorem hk_broken {k : Nat} (X : K.In h) (G : h.Ns mainGlobals mg) (c : SaysX fa fn exF K) (hk : 9 ≤ k) : Good ((pl P w K mg base).at k) (oFnK "broken" 3 ["looks"] [.nth 0, .nth 1, .nth 2, .nth 3] S_broken) := by
  obtain ⟨fd, F⟩ := c.1.def_ 59 (d := d_broken) rfl
  have kb : KBn K fd ["book", "wish", "laying", "looks"] 3 ["looks"] (fun us ws => us ++ ws) (fun us ws => us ++ ws) := kbinds_all F (fun us ws => us ++ ws) (fun r1 r2 => r1.append r2) (fun kV doc pm an cdv ct us ws l1 l2 => match us, l1, ws, l2 with | [_, _, _], _, [_], _ => rfl)
  refine @good_fnK ((pl P w K mg base).at k) 9 _ fd ["book", "wish", "laying", "looks"] ["looks"] S_broken "broken" 3 [.nth 0, .nth 1, .nth 2, .nth 3] _ _ (hn_broken X G c fd F) hk (He.glo_ok X G (c.1.fact 102 (f := .glo "broken") rfl)) F.kp kb (fun vs zs l1 l2 => ?_) ?_ rfl (by decide)
  · match vs, l1, zs, l2 with
    | [_, _, _], _, [_], _ => rfl
  · intro q hq
    simp only [List.mem_cons, List.not_mem_nil, or_false] at hq
    rcases hq with rfl | rfl | rfl | rfl
    · exact (show 0 < 3 + 1 by decide)
    · exact (show 1 < 3 + 1 by decide)
    · exact (show 2 < 3 + 1 by decide)
    · exact (show 3 < 3 + 1 by decide)
theorem h_cut_back (X : K.In h) (G : h.Ns mainGlobals mg) (c : SaysX fa fn exF K) : Has (pl P w K mg base) 9 ("cut_back", none) ["book", "laying"] [] S_cut_back := by
  refine has_of (p := pl P w K mg base) (k := 8) (d := d_cut_back) (N := n_cut_back) b_cut_back (c.1.def_ 60 (d := d_cut_back) rfl) hs_cut_back hc_cut_back (frees X G c) ?_ (fun fd F => ⟨[], [], FunD.bindsN (ps := ["book", "laying"]) F (fun _ _ _ _ _ _ us hl => match us, hl with | [_, _], _ => rfl), .nil, fun _ => RepL.nil⟩) vc_cut_back
  simp only [b_cut_back, usesSs, usesS, usesE, usesEs, and_true, true_and]
  have G1 := True.intro
  have g0 : Good ((pl P w K mg base).at 8) (oFn "laid" 2 [] S_laid) := Has.fn (h_laid X G c) (by decide) (He.glo_ok X G (c.1.fact 96 (f := .glo "laid") rfl)) rfl
  have g1 : Good ((pl P w K mg base).at 8) (oFn "picture" 1 [.non] S_picture) := Has.fn (h_picture X G c) (by decide) (He.glo_ok X G (c.1.fact 80 (f := .glo "picture") rfl)) rfl
  have g2 : Good ((pl P w K mg base).at 8) (oFn "numbers" 2 [] S_numbers) := Has.fn (h_numbers X G c) (by decide) (He.glo_ok X G (c.1.fact 98 (f := .glo "numbers") rfl)) rfl
  exact (by repeat' (first | exact trivial | assumption | apply And.intro))
theorem hn_is_right (X : K.In h) (G : h.Ns mainGlobals mg) (c : SaysX fa fn exF K) (fd : FuncData) (F : FunD K d_is_right.name d_is_right.qual d_is_right.params d_is_right.body d_is_right.scope (d_is_right.dvs K) (d_is_right.kws K) (He.fAd K d_is_right.at_) fd) : FnD (pl P w K mg base) 10 (He.fAd K ("is_right", none)) fd ["book", "wish", "laying", "looks"] S_is_right := by
  refine fn_ok (p := (pl P w K mg base).at 9) (N := n_is_right) (ps := ["book", "wish", "laying", "looks"]) b_is_right F (C8.fnScope_by hs_is_right) (frees X G c) hc_is_right ?_ vc_is_right
  simp only [b_is_right, usesSs, usesS, usesE, usesEs, and_true, true_and]
  have G1 := True.intro
  have g0 : Good ((pl P w K mg base).at 9) (oFnK "broken" 3 ["looks"] [.nth 0, .nth 1, .nth 2, .nth 3] S_broken) := hk_broken X G c (by decide)
  exact (by repeat' (first | exact trivial | assumption | apply And.intro))
theorem h_is_right (X : K.In h) (G : h.Ns mainGlobals mg) (c : SaysX fa fn exF K) : Has (pl P w K mg base) 10 ("is_right", none) ["book", "wish", "laying", "looks"] [.tup []] S_is_right := by
  obtain ⟨fd, F⟩ := c.1.def_ 61 (d := d_is_right) rfl
  obtain ⟨ds, v, b⟩ := FunD.binds0 (ps := ["book", "wish", "laying", "looks"]) F 3 (List.cons_ne_nil _ _) rfl (fun D doc pm an cdv ct us ks l1 l2 => match us, l1, ks, l2 with | [_, _, _], _, [_], _ => ⟨_, _, _, _, _, _, rfl, rfl, rfl⟩)
  exact ⟨fd, _, ds, hn_is_right X G c fd F, F.kp, b, v, fun _ => RepL.mk (kw_rep (ex_get (l := exs K) (i := 3) c.2 rfl) _) (RepL.nil)⟩
theorem hk_is_right {k : Nat} (X : K.In h) (G : h.Ns mainGlobals mg) (c : SaysX fa fn exF K) (hk : 10 ≤ k) : Good ((pl P w K mg base).at k) (oFnK "is_right" 3 ["looks"] [.nth 0, .nth 1, .nth 2, .nth 3] S_is_right) := by
  obtain ⟨fd, F⟩ := c.1.def_ 61 (d := d_is_right) rfl
  have kb : KBn K fd ["book", "wish", "laying", "looks"] 3 ["looks"] (fun us ws => us ++ ws) (fun us ws => us ++ ws) := kbinds_all F (fun us ws => us ++ ws) (fun r1 r2 => r1.append r2) (fun kV doc pm an cdv ct us ws l1 l2 => match us, l1, ws, l2 with | [_, _, _], _, [_], _ => rfl)
  refine @good_fnK ((pl P w K mg base).at k) 10 _ fd ["book", "wish", "laying", "looks"] ["looks"] S_is_right "is_right" 3 [.nth 0, .nth 1, .nth 2, .nth 3] _ _ (hn_is_right X G c fd F) hk (He.glo_ok X G (c.1.fact 104 (f := .glo "is_right") rfl)) F.kp kb (fun vs zs l1 l2 => ?_) ?_ rfl (by decide)
  · match vs, l1, zs, l2 with
    | [_, _, _], _, [_], _ => rfl
  · intro q hq
    simp only [List.mem_cons, List.not_mem_nil, or_false] at hq
    rcases hq with rfl | rfl | rfl | rfl
    · exact (show 0 < 3 + 1 by decide)
    · exact (show 1 < 3 + 1 by decide)
    · exact (show 2 < 3 + 1 by decide)
    · exact (show 3 < 3 + 1 by decide)
theorem law_fn {fd : FuncData} (X : K.In h) (G : h.Ns mainGlobals mg) (c : SaysX fa fn exF K) (F : FunD K d_law.name d_law.qual d_law.params d_law.body d_law.scope (d_law.dvs K) (d_law.kws K) (He.fAd K d_law.at_) fd) : FnOk P w K mg base (L2.CX P w) 11 (He.ga K "law") fd ["script"] (spD ⟨K, P, w⟩ 1 S_law) := by
  refine fn_ok (p := (pl P w K mg base).at 10) (N := n_law) (ps := ["script"]) b_law F (C8.fnScope_by hs_law) (frees X G c) hc_law ?_ vc_law
  simp only [b_law, b_law_0, b_law_1, b_law_2, b_law_3, b_law_4, b_law_5, b_law_6, b_law_7, b_law_8, b_law_9, b_law_10, b_law_11, b_law_12, b_law_13, usesSs, usesS, usesE, usesEs, and_true, true_and]
  have G1 := True.intro
  have g0 : Good ((pl P w K mg base).at 10) (oFn "_law_pen" 1 [] S__law_pen) := Has.fn (h__law_pen X G c) (by decide) (He.glo_ok X G (c.1.fact 26 (f := .glo "_law_pen") rfl)) rfl
  have g1 : Good ((pl P w K mg base).at 10) (oFn "_law_lot" 1 [] S__law_lot) := Has.fn (h__law_lot X G c) (by decide) (He.glo_ok X G (c.1.fact 54 (f := .glo "_law_lot") rfl)) rfl
  have g2 : Good ((pl P w K mg base).at 10) (oFn "_law_hues" 1 [] S__law_hues) := Has.fn (h__law_hues X G c) (by decide) (He.glo_ok X G (c.1.fact 52 (f := .glo "_law_hues") rfl)) rfl
  have g3 : Good ((pl P w K mg base).at 10) (oFn "_law_strokes" 4 [] S__law_strokes) := Has.fn (h__law_strokes X G c) (by decide) (He.glo_ok X G (c.1.fact 63 (f := .glo "_law_strokes") rfl)) rfl
  have g4 : Good ((pl P w K mg base).at 10) (oMakeF "Book" 1 [] S_Book___init__) := Has.makeF (h_Book___init__ X G c) (by decide) (He.mkr_ok (c.1.fact 91 (f := .mkr "Book") rfl)) (He.glo_ok X G (c.1.fact 92 (f := .glo "Book") rfl)) rfl
  have g5 : Good ((pl P w K mg base).at 10) (oFn "_law_laying" 5 [] S__law_laying) := Has.fn (h__law_laying X G c) (by decide) (He.glo_ok X G (c.1.fact 62 (f := .glo "_law_laying") rfl)) rfl
  have g6 : Good ((pl P w K mg base).at 10) (oFn "_law_cells" 1 [] S__law_cells) := Has.fn (h__law_cells X G c) (by decide) (He.glo_ok X G (c.1.fact 24 (f := .glo "_law_cells") rfl)) rfl
  have g7 : Good ((pl P w K mg base).at 10) (oFn "_law_fit" 5 [] S__law_fit) := Has.fn (h__law_fit X G c) (by decide) (He.glo_ok X G (c.1.fact 51 (f := .glo "_law_fit") rfl)) rfl
  have g8 : Good ((pl P w K mg base).at 10) (oFn "_law_looks" 4 [] S__law_looks) := Has.fn (h__law_looks X G c) (by decide) (He.glo_ok X G (c.1.fact 53 (f := .glo "_law_looks") rfl)) rfl
  have g9 : Good ((pl P w K mg base).at 10) (oFnK "broken" 3 ["looks"] [.nth 0, .nth 1, .nth 2, .nth 3] S_broken) := hk_broken X G c (by decide)
  have g10 : Good ((pl P w K mg base).at 10) (oFn "broken" 3 [(.tup [])] S_broken) := Has.fn (h_broken X G c) (by decide) (He.glo_ok X G (c.1.fact 102 (f := .glo "broken") rfl)) rfl
  have g11 : Good ((pl P w K mg base).at 10) (oFn "cut_back" 2 [] S_cut_back) := Has.fn (h_cut_back X G c) (by decide) (He.glo_ok X G (c.1.fact 103 (f := .glo "cut_back") rfl)) rfl
  have g12 : Good ((pl P w K mg base).at 10) (oFn "_law_nested" 1 [] S__law_nested) := Has.fn (h__law_nested X G c) (by decide) (He.glo_ok X G (c.1.fact 25 (f := .glo "_law_nested") rfl)) rfl
  have g13 : Good ((pl P w K mg base).at 10) (oFn "_law_elders" 2 [] S__law_elders) := Has.fn (h__law_elders X G c) (by decide) (He.glo_ok X G (c.1.fact 101 (f := .glo "_law_elders") rfl)) rfl
  have g14 : Good ((pl P w K mg base).at 10) (oFn "laid" 2 [] S_laid) := Has.fn (h_laid X G c) (by decide) (He.glo_ok X G (c.1.fact 96 (f := .glo "laid") rfl)) rfl
  have g15 : Good ((pl P w K mg base).at 10) (oFn "colours" 1 [.non] S_colours) := Has.fn (h_colours X G c) (by decide) (He.glo_ok X G (c.1.fact 76 (f := .glo "colours") rfl)) rfl
  have g16 : Good ((pl P w K mg base).at 10) (oFn "_law_draw" 2 [] S__law_draw) := Has.fn (h__law_draw X G c) (by decide) (He.glo_ok X G (c.1.fact 43 (f := .glo "_law_draw") rfl)) rfl
  have g17 : Good ((pl P w K mg base).at 10) (oFn "price_of" 3 [] S_price_of) := Has.fn (h_price_of X G c) (by decide) (He.glo_ok X G (c.1.fact 99 (f := .glo "price_of") rfl)) rfl
  have g18 : Good ((pl P w K mg base).at 10) (oFnK "is_right" 3 ["looks"] [.nth 0, .nth 1, .nth 2, .nth 3] S_is_right) := hk_is_right X G c (by decide)
  exact (by repeat' (first | exact trivial | assumption | apply And.intro))
end
def CXa : CXT := fun _ _ _ E _ _ => ∃ cls d H', E cls d H'
theorem cxa {P : Program} {w : World} {K : PySem.W.Frag} {mg : Str → Option Value} {base : Heap} {k : Nat} {f : Addr} {fd : FuncData} {ps : List Str} {sp : Sp} (F : FnOk P w K mg base (L2.CX P w) k f fd ps sp) : FnOk P w K mg base CXa k f fd ps sp :=
  ⟨F.len, fun A outer s H args us vs Q E hr he hb hv hs => codeAny_mono (F.run A outer s H args us vs Q E hr he hb hv hs) fun r s' h => by
    cases r with
    | ok fl => cases fl <;> exact h
    | error e => obtain ⟨_, _, H', cls, d, _, _, _, _, _, _, _, q⟩ := h; exact ⟨cls, d, H', q⟩⟩
theorem law_sp {K : KW} {H : Hp} {a : Addr} {ns : List Int} (hl : ns.length ≤ 63) (hS : SqL K.k H a (ns.map V.int)) : spD K 1 S_law [.ref a] H (fun v _ => v = .bl true) fun _ _ _ => False := by
  refine ⟨rfl, H, fun _ => none, [.rol (ns.map D.int)], fun d _ => d = .bl true, fun _ _ => False, ⟨Same.refl _, fun _ _ h => (by cases h), fun _ _ h => (by cases h)⟩, RepL.one (rep_rol.mpr ⟨a, _, rfl, hS, RepL.of_ints ns⟩), ⟨ns, rfl, by omega, fun _ => rfl⟩, ?_, ?_⟩
  · intro F' v H' d μ' l w r e
    subst e
    exact rep_bl.mp r
  · intro F' H' μ' x cls d l w r h
    exact h.elim
theorem facts {P : Program} {w : World} {K : PySem.W.Frag} {h : Heap} {mg : Str → Option Value} {f : Addr} (X : K.In h) (G : h.Ns mainGlobals mg) (hfa : mg ("law" : Str) = some (.ref f)) (c : SaysX fa fn exF K) :
    ∃ fd : FuncData, (∀ (s : Shared) (v : Value), BindsTo s fd ⟨[v], []⟩ [("script", v)]) ∧ ∀ base : Heap, K.In base → base.Ns mainGlobals mg → FnOk P w K mg base CXa 11 f fd ["script"] (spD ⟨K, P, w⟩ 1 S_law) := by
  obtain ⟨fd, F⟩ := c.1.def_ 62 (d := d_law) rfl
  have e := hfa.symm.trans (He.glo_ok X G (c.1.fact 105 (f := .glo "law") rfl))
  cases e
  have b := FunD.bindsA (ps := ["script"]) F fun _ _ _ _ _ _ us hl => match us, hl with | [_], _ => rfl
  refine ⟨fd, fun s v => b s [v] rfl, fun base _ _ => cxa ?_⟩
  exact law_fn (P := P) (w := w) (base := base) X G c F
end K
open PySem PySem.W PySem.Calls PyProof.Rows
theorem PySem.Challenge.cw_pastlay_k77_whole_cut_back_holds : PySem.Challenge.rw_pastlay_k77_whole_cut_back.Holds := by
  w_on; o_law
  refine HandSHeadRun.head_any (r := OpenLaw.row PySem.Challenge.rw_pastlay_k77_whole_cut_back) (q := view (OpenLaw.row PySem.Challenge.rw_pastlay_k77_whole_cut_back).prog [85]) (H := K.hk) (ob := K.ob) (M := 9000) (loose := K.nms) (d := HandSHeadRun.topDef (OpenLaw.row PySem.Challenge.rw_pastlay_k77_whole_cut_back).prog 85) (kwd := []) K.ob_eq
    (by kernel_rfl) (fun s => by kernel_rfl) K.run (by kernel_rfl) (by kernel_rfl) (by kernel_rfl) (by rfl) (by first | assumption | decide +kernel) (by decide +kernel) ⟨rfl, rfl, rfl, rfl, rfl, by decide +kernel⟩ ?hw ?hc
  case hw => w_witness2
  case hc =>
    refine L2.walk_ofE (l := PySem.Challenge.rw_pastlay_k77_whole_cut_back) (n := 63) (k := 11) (x := "script") (CX := K.CXa) rfl (by decide) (by kernel_rfl) ⟨rfl, by decide, by decide⟩ ?F (fun _ _ _ _ z => by obtain ⟨_, _, _, q⟩ := z; exact q)
    intro w mg fa h Y G hmg0
    obtain ⟨K', KX, c⟩ := Y
    have hmg : mg ("law" : PySem.Str) = some (.ref fa) := by
      have e : (HandSHeadRun.topDef (OpenLaw.row PySem.Challenge.rw_pastlay_k77_whole_cut_back).prog 85).name = ("law" : PySem.Str) := by kernel_rfl
      rw [← e]
      exact hmg0
    obtain ⟨fd, hb, hF⟩ := K.facts (P := (PySem.Challenge.rw_pastlay_k77_whole_cut_back).prog) (w := w) KX G hmg c
    exact ⟨K', fd, DL.spD ⟨K', (PySem.Challenge.rw_pastlay_k77_whole_cut_back).prog, w⟩ 1 PL.S_law, KX, hb, fun H a ns hl _ hS => K.law_sp hl hS, hF⟩
end
